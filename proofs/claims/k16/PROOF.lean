import PyProof.Rows.All
import Wide.All
import OpenK.AllK
import Wide.FinOn
import HandS.ForMost
import HandS.Codes
import HandS.Flow
import HandS.TupAny
import HandS.TupMul
import HandS.Deep
import HandS.IsInst
import HandS.Wide
import HandS.Walk
import KE.GoesEnum
import HandS.More
import HandS.SortInts
import KE.KDictKeyed
import HandS.Conv
import HandS.Text
import PySem.Challenge.RW_blockcarrier_k16_asked_again
set_option Elab.async false
set_option linter.all false
set_option maxRecDepth 100000
set_option maxHeartbeats 4000000
/-! BC0: data that never changes (Im), what stays (Kp, Ex), steps of readings. -/
namespace BC
open PySem PySem.Spec PyProof.Rows L2

/-! ### heaps -/
/-- tuples stay -/
def Kp (H H' : Hp) : Prop := ∀ a xs, H a = some (.tup xs) → H' a = some (.tup xs)
/-- all stays -/
def Ex (H H' : Hp) : Prop := ∀ x u, H x = some u → H' x = some u
/-- all stays but what stands at F -/
def Fr (F : List Addr) (H H' : Hp) : Prop := ∀ a o, H a = some o → a ∉ F → H' a = some o
theorem Kp.refl (H : Hp) : Kp H H := fun _ _ h => h
theorem Kp.trans {H H1 H2 : Hp} (a : Kp H H1) (b : Kp H1 H2) : Kp H H2 := fun x o h => b x o (a x o h)
theorem Ex.refl (H : Hp) : Ex H H := fun _ _ z => z
theorem Ex.trans {H H1 H2 : Hp} (e : Ex H H1) (e' : Ex H1 H2) : Ex H H2 := fun x u z => e' x u (e x u z)
theorem Ex.kp {H H' : Hp} (e : Ex H H') : Kp H H' := fun a xs h => e a _ h
theorem Ex.new {H : Hp} {p : Addr} {o : HO} (h : H p = none) : Ex H (upd H p o) := fun x u z => by
  rw [upd_ne (ne_of_none z h)]
  exact z
theorem Ex.mut {H H' : Hp} {p : Addr} {o : HO} (h : H p = none) (e : Ex H H') : Ex H (upd H' p o) := fun a u ha => by
  rw [upd_ne (ne_of_none ha h)]
  exact e a u ha
theorem Ex.free {H H' : Hp} {p : Addr} (e : Ex H H') (h : H' p = none) : H p = none := by
  cases h1 : H p with
  | none => rfl
  | some o =>
    rw [e p o h1] at h
    cases h
theorem Kp.new {H H' : Hp} {p : Addr} {o : HO} (h : H' p = none) (e : Kp H H') : Kp H (upd H' p o) := e.trans (Ex.new h).kp
/-- not a tuple -/
def Nt : Option HO → Prop
  | some (.tup _) => False
  | _ => True
theorem Kp.mut {H H' : Hp} {p : Addr} {o : HO} (h : Nt (H' p)) (e : Kp H H') : Kp H (upd H' p o) := fun a xs ha => by
  have h1 := e a xs ha
  have : a ≠ p := fun z => by
    subst z
    rw [h1] at h
    exact h
  rw [upd_ne this]
  exact h1
theorem nt_of {H : Hp} {p : Addr} {o : HO} (h : H p = some o) (n : Nt (some o)) : Nt (H p) := by
  rw [h]
  exact n
theorem Fr.refl (F : List Addr) (H : Hp) : Fr F H H := fun _ _ h _ => h
theorem Fr.trans {F : List Addr} {H H1 H2 : Hp} (a : Fr F H H1) (b : Fr F H1 H2) : Fr F H H2 := fun x o h n => b x o (a x o h n) n
theorem Ex.fr {F : List Addr} {H H' : Hp} (e : Ex H H') : Fr F H H' := fun a o h _ => e a o h
theorem Fr.mut {F : List Addr} {H H' : Hp} {p : Addr} {o : HO} (h : p ∈ F) (e : Fr F H H') : Fr F H (upd H' p o) := fun a u ha n => by
  have : a ≠ p := fun z => n (z ▸ h)
  rw [upd_ne this]
  exact e a u ha n
theorem Fr.new {F : List Addr} {H H' : Hp} {p : Addr} {o : HO} (h : H' p = none) (e : Fr F H H') : Fr F H (upd H' p o) := e.trans (Ex.new h).fr
theorem Fr.mono {F G : List Addr} {H H' : Hp} (h : ∀ a ∈ F, a ∈ G) (e : Fr F H H') : Fr G H H' := fun a o ha n => e a o ha fun z => n (h a z)
/-- what was changed had not been there -/
theorem Fr.ex {F : List Addr} {H0 H H' : Hp} (e0 : Ex H0 H) (n : ∀ a ∈ F, H0 a = none) (e : Fr F H H') : Ex H0 H' := fun a o ha =>
  e a o (e0 a o ha) fun z => by
    rw [n a z] at ha
    cases ha

/-! ### data that never changes: none, bools, ints, texts, tuples -/
mutual
def Im (H : Hp) : PyData → V → Prop
  | .none, v => v = .non
  | .bool b, v => v = .bl b
  | .int i, v => v = .int i
  | .str s, v => v = .str s
  | .tuple ds, v => ∃ a xs, v = .ref a ∧ H a = some (.tup xs) ∧ ImL H ds xs
  | .list _, _ => False
  | .dict _, _ => False
def ImL (H : Hp) : List PyData → List V → Prop
  | [], xs => xs = []
  | d :: ds, xs => ∃ v vs, xs = v :: vs ∧ Im H d v ∧ ImL H ds vs
end
mutual
theorem Im.kp {H H' : Hp} (k : Kp H H') : ∀ (d : PyData) (v : V), Im H d v → Im H' d v
  | .none, _, h => by simpa only [Im] using h
  | .bool _, _, h => by simpa only [Im] using h
  | .int _, _, h => by simpa only [Im] using h
  | .str _, _, h => by simpa only [Im] using h
  | .tuple ds, v, h => by
    simp only [Im] at h ⊢
    obtain ⟨a, xs, rfl, h1, h2⟩ := h
    exact ⟨a, xs, rfl, k a xs h1, ImL.kp k ds xs h2⟩
  | .list _, _, h => by simp only [Im] at h
  | .dict _, _, h => by simp only [Im] at h
theorem ImL.kp {H H' : Hp} (k : Kp H H') : ∀ (ds : List PyData) (vs : List V), ImL H ds vs → ImL H' ds vs
  | [], _, h => by simpa only [ImL] using h
  | d :: ds, vs, h => by
    simp only [ImL] at h ⊢
    obtain ⟨x, xs, rfl, h1, h2⟩ := h
    exact ⟨x, xs, rfl, Im.kp k d x h1, ImL.kp k ds xs h2⟩
end
mutual
theorem Im.dp {K : PySem.W.Frag} {H : Hp} : ∀ (d : PyData) (v : V), Im H d v → Dp K H v d
  | .none, _, h => by simp only [Im] at h; subst h; exact .non
  | .bool _, _, h => by simp only [Im] at h; subst h; exact .bl _
  | .int _, _, h => by simp only [Im] at h; subst h; exact .int _
  | .str _, _, h => by simp only [Im] at h; subst h; exact .str _
  | .tuple ds, v, h => by
    simp only [Im] at h
    obtain ⟨a, xs, rfl, h1, h2⟩ := h
    exact .tup (SqT.of h1) (ImL.dp ds xs h2)
  | .list _, _, h => by simp only [Im] at h
  | .dict _, _, h => by simp only [Im] at h
theorem ImL.dp {K : PySem.W.Frag} {H : Hp} : ∀ (ds : List PyData) (vs : List V), ImL H ds vs → DpAll K H vs ds
  | [], _, h => by simp only [ImL] at h; subst h; exact .nil
  | d :: ds, vs, h => by
    simp only [ImL] at h
    obtain ⟨x, xs, rfl, h1, h2⟩ := h
    exact .cons (Im.dp d x h1) (ImL.dp ds xs h2)
end
section
variable {H H' : Hp} {v x : V} {vs xs : List V} {d e : PyData} {ds es : List PyData} {a : Addr} {K : PySem.W.Frag}
theorem Im.int_iff {i : Int} : Im H (.int i) v ↔ v = .int i := by simp only [Im]
theorem Im.str_iff {s : Str} : Im H (.str s) v ↔ v = .str s := by simp only [Im]
theorem Im.none_iff : Im H .none v ↔ v = .non := by simp only [Im]
theorem Im.bool_iff {b : Bool} : Im H (.bool b) v ↔ v = .bl b := by simp only [Im]
theorem im_int {i : Int} : Im H (.int i) (.int i) := by simp only [Im]
theorem im_str {s : Str} : Im H (.str s) (.str s) := by simp only [Im]
theorem im_non : Im H .none .non := by simp only [Im]
theorem im_bl {b : Bool} : Im H (.bool b) (.bl b) := by simp only [Im]
theorem im_tup (h1 : H a = some (.tup xs)) (h2 : ImL H ds xs) : Im H (.tuple ds) (.ref a) := by
  simp only [Im]
  exact ⟨a, xs, rfl, h1, h2⟩
theorem Im.tup (h : Im H (.tuple ds) v) : ∃ a xs, v = .ref a ∧ H a = some (.tup xs) ∧ ImL H ds xs := by
  simpa only [Im] using h
theorem iml_nil : ImL H [] [] := by simp only [ImL]
theorem iml_cons (h1 : Im H d v) (h2 : ImL H ds vs) : ImL H (d :: ds) (v :: vs) := by
  simp only [ImL]
  exact ⟨v, vs, rfl, h1, h2⟩
theorem ImL.cons_inv (h : ImL H (d :: ds) xs) : ∃ v vs, xs = v :: vs ∧ Im H d v ∧ ImL H ds vs := by simpa only [ImL] using h
theorem ImL.nil_inv (h : ImL H [] xs) : xs = [] := by simpa only [ImL] using h
theorem ImL.length : ∀ {ds : List PyData} {xs : List V}, ImL H ds xs → xs.length = ds.length
  | [], _, h => by rw [h.nil_inv]; rfl
  | d :: ds, _, h => by
    obtain ⟨v, vs, rfl, _, h2⟩ := h.cons_inv
    rw [List.length_cons, List.length_cons, h2.length]
theorem ImL.get : ∀ {ds : List PyData} {xs : List V} {i : Nat} {d : PyData}, ImL H ds xs → ds[i]? = some d → ∃ v, xs[i]? = some v ∧ Im H d v
  | [], _, _, _, _, e => by simp at e
  | d :: ds, _, 0, _, h, e => by
    obtain ⟨v, vs, rfl, h1, _⟩ := h.cons_inv
    simp at e
    subst e
    exact ⟨v, by simp, h1⟩
  | d :: ds, _, i + 1, _, h, e => by
    obtain ⟨v, vs, rfl, _, h2⟩ := h.cons_inv
    obtain ⟨v', g1, g2⟩ := h2.get (i := i) (by simpa using e)
    exact ⟨v', by simpa using g1, g2⟩
/-- the other way round -/
theorem ImL.get' : ∀ {ds : List PyData} {xs : List V} {i : Nat} {v : V}, ImL H ds xs → xs[i]? = some v → ∃ d, ds[i]? = some d ∧ Im H d v
  | [], _, _, _, h, e => by
    rw [h.nil_inv] at e
    simp at e
  | d :: ds, _, 0, _, h, e => by
    obtain ⟨v, vs, rfl, h1, _⟩ := h.cons_inv
    simp at e
    subst e
    exact ⟨d, by simp, h1⟩
  | d :: ds, _, i + 1, _, h, e => by
    obtain ⟨v, vs, rfl, _, h2⟩ := h.cons_inv
    obtain ⟨d', g1, g2⟩ := h2.get' (i := i) (by simpa using e)
    exact ⟨d', by simpa using g1, g2⟩
theorem ImL.append : ∀ {ds es : List PyData} {xs ys : List V}, ImL H ds xs → ImL H es ys → ImL H (ds ++ es) (xs ++ ys)
  | [], _, _, _, h, h' => by
    rw [h.nil_inv]
    exact h'
  | d :: ds, _, _, _, h, h' => by
    obtain ⟨v, vs, rfl, h1, h2⟩ := h.cons_inv
    exact iml_cons h1 (h2.append h')
theorem ImL.snoc (h : ImL H ds xs) (h1 : Im H d v) : ImL H (ds ++ [d]) (xs ++ [v]) := h.append (iml_cons h1 iml_nil)
theorem ImL.drop : ∀ {ds : List PyData} {xs : List V} (n : Nat), ImL H ds xs → ImL H (ds.drop n) (xs.drop n)
  | _, _, 0, h => h
  | [], _, _ + 1, h => by
    rw [h.nil_inv]
    exact iml_nil
  | d :: ds, _, n + 1, h => by
    obtain ⟨v, vs, rfl, h1, h2⟩ := h.cons_inv
    exact h2.drop n
theorem ImL.take : ∀ {ds : List PyData} {xs : List V} (n : Nat), ImL H ds xs → ImL H (ds.take n) (xs.take n)
  | _, _, 0, h => iml_nil
  | [], _, _ + 1, h => by
    rw [h.nil_inv]
    exact iml_nil
  | d :: ds, _, n + 1, h => by
    obtain ⟨v, vs, rfl, h1, h2⟩ := h.cons_inv
    exact iml_cons h1 (h2.take n)
theorem ImL.set : ∀ {ds : List PyData} {xs : List V} (n : Nat), ImL H ds xs → Im H d v → ImL H (ds.set n d) (xs.set n v)
  | [], _, _, h, _ => by
    rw [h.nil_inv]
    exact iml_nil
  | _ :: ds, _, 0, h, h' => by
    obtain ⟨v, vs, rfl, h1, h2⟩ := h.cons_inv
    exact iml_cons h' h2
  | _ :: ds, _, n + 1, h, h' => by
    obtain ⟨v, vs, rfl, h1, h2⟩ := h.cons_inv
    exact iml_cons h1 (h2.set n h')
theorem ImL.ints : ∀ {ns : List Int} {xs : List V}, ImL H (ns.map .int) xs ↔ xs = ns.map V.int
  | [], _ => ⟨fun h => h.nil_inv, fun h => by rw [h]; exact iml_nil⟩
  | n :: ns, xs => ⟨fun h => by
      obtain ⟨v, vs, rfl, h1, h2⟩ := h.cons_inv
      rw [Im.int_iff.mp h1, ImL.ints.mp h2]
      rfl, fun h => by rw [h]; exact iml_cons im_int (ImL.ints.mpr rfl)⟩
theorem lst_dp (h1 : H a = some (.lst xs)) (h2 : ImL H ds xs) : Dp K H (.ref a) (.list ds) := .lst (SqL.of h1) (h2.dp _ _)
theorem atI_iml {i : Int} (h : ImL H ds xs) (e : atI ds i = some d) : ∃ v, atI xs i = some v ∧ Im H d v := by
  unfold atI at e ⊢
  rw [h.length]
  cases q : ixN ds.length i with
  | none =>
    rw [q] at e
    cases e
  | some j =>
    rw [q] at e
    exact h.get e
end
end BC
/-! BC1: steps of readings. -/
namespace BC
open PySem PySem.Spec PyProof.Rows L2
open C8 (tCut pss_cut)

section
variable {K : PySem.W.Frag} {σ : L2.St} {H H0 H1 : Hp} {D : Ends} {Q : VK} {QT : Bool → Hp → Prop} {QA : List V → Hp → Prop} {t u : TS} {ta tb te tc : TE} {tA tB' : TT} {g : TG} {i j : Int} {n : Nat} {v x y : V} {vs : List V} {d e : PyData} {ds es : List PyData} {r : R2}
/-! statements -/
theorem st_seq (h : t { D with nx := u D } σ H) : tSeq t u D σ H := h
theorem st_cut (Mid : L2.St → Hp → Prop) (h : t { D with nx := Mid } σ H) (k : ∀ σ' H', Mid σ' H' → u D σ' H') : tCut t u D σ H := ⟨Mid, h, k⟩
theorem st_next (h : D.nx σ H) : tNext D σ H := h
theorem st_brk (h : D.bk σ H) : tBreak D σ H := h
theorem st_cont (h : D.ct σ H) : tCont D σ H := h
theorem st_asg (h : te σ H fun x H1 => g x σ H1 D.nx) : tAsg te g D σ H := h
theorem st_ret (h : te σ H D.rt) : tRet te D σ H := h
theorem st_retN (h : D.rt .non H) : tRetN D σ H := h
theorem st_drop (h : te σ H fun _ H1 => D.nx σ H1) : tDrop te D σ H := h
theorem st_ifS (h : tA σ H fun b H1 => if b = true then t D σ H1 else u D σ H1) : tIfS tA t u D σ H := h
theorem st_aug {m : Nat} {ti : TIp} (e : σ[m]? = some (some x)) (h : te σ H fun y H1 => ti x y H1 fun z H2 => D.nx (σ.set m (some z)) H2) : tAug m te ti D σ H := ⟨x, e, h⟩
theorem st_ip {f : Int → Int → Int} (h : Q (.int (f i j)) H) : ipI f (.int i) (.int j) H Q := ⟨i, j, rfl, rfl, h⟩
theorem st_name {m : Nat} {QS : L2.St → Hp → Prop} (h : QS (σ.set m (some v)) H) : gName m v σ H QS := h
theorem st_gnil {QS : L2.St → Hp → Prop} (h : QS σ H) : gNil [] σ H QS := ⟨rfl, h⟩
theorem st_gcons {vs : List V} {G : TG} {Gs : TGs} {QS : L2.St → Hp → Prop} (h : G v σ H fun σ' H' => Gs vs σ' H' QS) : gCons G Gs (v :: vs) σ H QS := ⟨v, vs, rfl, h⟩
/-! expressions -/
theorem st_var {m : Nat} (e : σ[m]? = some (some v)) (h : Q v H) : tVar m σ H Q := ⟨v, e, h⟩
theorem st_c (h : Q v H) : tC v σ H Q := h
theorem st_op (h : ta σ H fun x H1 => tb σ H1 fun y H2 => r x y H2 Q) : tOp r ta tb σ H Q := h
theorem st_un {f : V → Hp → VK → Prop} (h : ta σ H fun x H1 => f x H1 Q) : tUn f ta σ H Q := h
theorem st_if (h : tA σ H fun c H1 => if c = true then ta σ H1 Q else tb σ H1 Q) : tIf tA ta tb σ H Q := h
theorem st_andV (h : ta σ H fun x H1 => ∃ c, x = .bl c ∧ if c = true then tb σ H1 Q else Q (.bl false) H1) : tAndV ta tb σ H Q := h
theorem st_orV (h : ta σ H fun x H1 => ∃ c, x = .bl c ∧ if c = true then Q (.bl true) H1 else tb σ H1 Q) : tOrV ta tb σ H Q := h
theorem st_notV (h : ta σ H fun x H1 => ∃ c, x = .bl c ∧ Q (.bl (!c)) H1) : tNotV ta σ H Q := h
theorem st_test (h : te σ H fun x H1 => ∃ c, x = .bl c ∧ QT c H1) : tTest te σ H QT := h
theorem st_tB (h : te σ H fun x H1 => ∃ c, x = .bl c ∧ QT c H1) : tB te σ H QT := h
theorem st_and (h : tA σ H fun c H1 => if c = true then tB' σ H1 QT else QT false H1) : tAnd tA tB' σ H QT := h
theorem st_or (h : tA σ H fun c H1 => if c = true then QT true H1 else tB' σ H1 QT) : tOr tA tB' σ H QT := h
theorem st_not (h : tA σ H fun c H1 => QT (!c) H1) : tNot tA σ H QT := h
theorem st_yes (h : QT true H) : tYes σ H QT := h
theorem st_nil (h : QA [] H) : tNil σ H QA := h
theorem st_cons {tr : TA} (h : ta σ H fun x H1 => tr σ H1 fun xs H2 => QA (x :: xs) H2) : tCons ta tr σ H QA := h
theorem st_call {sp : Sp} {E : XK} {tr : TA} (h : tr σ H fun vs H1 => sp vs H1 Q E) : tCall sp [] E tr σ H Q := by
  show tr σ H fun vs H1 => sp (vs ++ []) H1 Q E
  simpa only [List.append_nil] using h
theorem sz_le {n : Nat} (h : n ≤ 100000) : n ≤ sizeLine := Nat.le_trans h (by decide)
theorem sz_lt {m : Nat} (h : m < 100000) : m < sizeLine := Nat.lt_of_lt_of_le h (by decide)
/-- a new tuple, a new list -/
def NewT (H : Hp) (xs : List V) (Q : VK) : Prop := xs.length ≤ sizeLine ∧ ∀ p, H p = none → Q (.ref p) (upd H p (.tup xs))
def NewL (H : Hp) (xs : List V) (Q : VK) : Prop := xs.length ≤ sizeLine ∧ ∀ p, H p = none → Q (.ref p) (upd H p (.lst xs))
theorem st_tup {tr : TA} (h : tr σ H fun xs H1 => NewT H1 xs Q) : tTup tr σ H Q := h
theorem st_lst {tr : TA} (h : tr σ H fun xs H1 => NewL H1 xs Q) : tLst tr σ H Q := h
theorem st_newT (h : vs.length ≤ 100000) (k : ∀ p H2, H p = none → Ex H H2 → H2 p = some (.tup vs) → Q (.ref p) H2) : NewT H vs Q :=
  ⟨sz_le h, fun p hp => k p _ hp (Ex.new hp) upd_same⟩
theorem st_newL (h : vs.length ≤ 100000) (k : ∀ p H2, H p = none → Ex H H2 → H2 p = some (.lst vs) → Q (.ref p) H2) : NewL H vs Q :=
  ⟨sz_le h, fun p hp => k p _ hp (Ex.new hp) upd_same⟩
theorem st_CB {f : List V → Hp → VK → Prop} {tr : TA} (h : tr σ H fun vs H1 => f vs H1 Q) : tCB f tr σ H Q := h
theorem st_bl {b : Bool} {F : Bool → Prop} (h : F b) : ∃ c, V.bl b = .bl c ∧ F c := ⟨b, rfl, h⟩
theorem st_T {A B : Prop} (h : A) : if true = true then A else B := iteT h
theorem st_F {A B : Prop} (h : B) : if false = true then A else B := iteF h
theorem st_D {p : Prop} [Decidable p] {A B : Prop} (h1 : p → A) (h2 : ¬ p → B) : if decide p = true then A else B := by
  by_cases h : p
  · rw [decide_eq_true h]; exact iteT (h1 h)
  · rw [decide_eq_false h]; exact iteF (h2 h)
theorem st_ND {p : Prop} [Decidable p] {A B : Prop} (h1 : ¬ p → A) (h2 : p → B) : if (!decide p) = true then A else B := by
  by_cases h : p
  · rw [decide_eq_true h]; exact iteF (h2 h)
  · rw [decide_eq_false h]; exact iteT (h1 h)
theorem st_B {b : Bool} {A B : Prop} (h1 : b = true → A) (h2 : b = false → B) : if b = true then A else B := by
  cases b with
  | true => exact iteT (h1 rfl)
  | false => exact iteF (h2 rfl)
theorem st_NB {b : Bool} {A B : Prop} (h1 : b = false → A) (h2 : b = true → B) : if (!b) = true then A else B := by
  cases b with
  | true => exact iteF (h2 rfl)
  | false => exact iteT (h1 rfl)
/-! operators -/
theorem st_I0 {f : Int → Int → V} (h : Q (f i j) H) : rI0 f (.int i) (.int j) H Q := ⟨i, j, rfl, rfl, h⟩
theorem st_I {C : Int → Int → Prop} {f : Int → Int → V} (c : C i j) (h : Q (f i j) H) : rI C f (.int i) (.int j) H Q := ⟨i, j, rfl, rfl, c, h⟩
theorem decV_int : decide (V.int i = V.int j) = decide (i = j) := decide_eq_decide.mpr ⟨V.int.inj, congrArg _⟩
theorem decV_str {a b : Str} : decide (V.str a = V.str b) = decide (a = b) := decide_eq_decide.mpr ⟨V.str.inj, congrArg _⟩
theorem decV_bl {a b : Bool} : decide (V.bl a = V.bl b) = decide (a = b) := decide_eq_decide.mpr ⟨V.bl.inj, congrArg _⟩
theorem st_eqI (h : Q (.bl (decide (i = j))) H) : rEq (.int i) (.int j) H Q := ⟨rfl, by rw [decV_int]; exact h⟩
theorem st_neI (h : Q (.bl (!decide (i = j))) H) : rNe (.int i) (.int j) H Q := ⟨rfl, by rw [decV_int]; exact h⟩
theorem st_eqS {a b : Str} (h : Q (.bl (decide (a = b))) H) : rEq (.str a) (.str b) H Q := ⟨rfl, by rw [decV_str]; exact h⟩
theorem st_neS {a b : Str} (h : Q (.bl (!decide (a = b))) H) : rNe (.str a) (.str b) H Q := ⟨rfl, by rw [decV_str]; exact h⟩
theorem st_eqB {a b : Bool} (h : Q (.bl (decide (a = b))) H) : rEq (.bl a) (.bl b) H Q := ⟨rfl, by rw [decV_bl]; exact h⟩
theorem st_neB {a b : Bool} (h : Q (.bl (!decide (a = b))) H) : rNe (.bl a) (.bl b) H Q := ⟨rfl, by rw [decV_bl]; exact h⟩
end
/-- is None, is not None, by names -/
def rIsN : R2 := fun x u H Q => u = .non ∧ Q (.bl (decide (x = .non))) H
def rNotN : R2 := fun x u H Q => u = .non ∧ Q (.bl (!decide (x = .non))) H
theorem o_isN {X : Cx} : OpR X (compareOp .Is) rIsN := op_isN
theorem o_notN {X : Cx} : OpR X (compareOp .IsNot) rNotN := op_notN
def rLenS (K : PySem.W.Frag) : List V → Hp → VK → Prop := fun us H Q => ∃ p zs, us = [.ref p] ∧ (SqL K H p zs ∨ SqT K H p zs) ∧ Q (.int zs.length) H
theorem c_len {X : Cx} : CallR X (.builtin "len") (rLenS X.K) := call_len_seq
def rInt1 : List V → Hp → VK → Prop := fun xs H Q => (∃ i, xs = [.int i] ∧ Q (.int i) H) ∨ ∃ k, xs = [.bl k] ∧ Q (.int (if k then 1 else 0)) H
theorem c_int {X : Cx} : CallR X (.type "int") rInt1 := call_int1
def rLenStr : List V → Hp → VK → Prop := fun xs H Q => ∃ z, xs = [.str z] ∧ z.length ≤ sizeLine ∧ Q (.int z.length) H
theorem c_lenStr {X : Cx} : CallR X (.builtin "len") rLenStr := call_len_str
def rStrI : List V → Hp → VK → Prop := fun xs H Q => ∃ i, xs = [.int i] ∧ i.natAbs.log2 < 1920 ∧ Q (.str (toString i)) H
theorem c_str {X : Cx} : CallR X (.type "str") rStrI := call_str_int
def rAddS : R2 := fun x y H Q => ∃ i j, x = .str i ∧ y = .str j ∧ i.length + j.length ≤ sizeLine ∧ Q (.str (i ++ j)) H
theorem o_addS {X : Cx} : OpR X (binaryOp .Add) rAddS := op_add_str
def rMin2 : List V → Hp → VK → Prop := fun xs H Q => ∃ i j, xs = [.int i, .int j] ∧ Q (.int (if j < i then j else i)) H
theorem c_min {X : Cx} (hc : X.calm = true) : CallR X (.builtin "min") rMin2 := call_min2 hc
def rListOf (K : PySem.W.Frag) : List V → Hp → VK → Prop := fun xs H Q => ∃ p ys, xs = [.ref p] ∧ (SqL K H p ys ∨ SqT K H p ys) ∧ ∀ l, H l = none → Q (.ref l) (upd H l (.lst ys))
theorem c_list {X : Cx} : CallR X (.type "list") (rListOf X.K) := call_list_of
def rTupOf (K : PySem.W.Frag) : List V → Hp → VK → Prop := fun xs H Q => ∃ p ys, xs = [.ref p] ∧ ((SqL K H p ys ∧ ∀ l, H l = none → Q (.ref l) (upd H l (.tup ys))) ∨ (SqT K H p ys ∧ Q (.ref p) H))
theorem c_tuple {X : Cx} : CallR X (.type "tuple") (rTupOf X.K) := call_tuple_of
section
variable {K : PySem.W.Frag} {σ : L2.St} {H H0 H1 : Hp} {D : Ends} {Q : VK} {i j : Int} {n : Nat} {v x y : V} {d e : PyData} {ds es : List PyData} {vs xs ys : List V} {a b l : Addr}
theorem st_isN (h : Q (.bl (decide (x = .non))) H) : rIsN x .non H Q := ⟨rfl, h⟩
theorem st_notN (h : Q (.bl (!decide (x = .non))) H) : rNotN x .non H Q := ⟨rfl, h⟩
theorem st_isN0 (h : Q (.bl true) H) : rIsN .non .non H Q := ⟨rfl, h⟩
theorem st_isNI (h : Q (.bl false) H) : rIsN (.int i) .non H Q := ⟨rfl, h⟩
theorem st_isNR (h : Q (.bl false) H) : rIsN (.ref a) .non H Q := ⟨rfl, h⟩
theorem st_notN0 (h : Q (.bl false) H) : rNotN .non .non H Q := ⟨rfl, h⟩
theorem st_notNI (h : Q (.bl true) H) : rNotN (.int i) .non H Q := ⟨rfl, h⟩
theorem st_notNR (h : Q (.bl true) H) : rNotN (.ref a) .non H Q := ⟨rfl, h⟩
theorem st_intB {b : Bool} (h : Q (.int (if b then 1 else 0)) H) : rInt1 [.bl b] H Q := .inr ⟨b, rfl, h⟩
theorem st_min (h : Q (.int (if j < i then j else i)) H) : rMin2 [.int i, .int j] H Q := ⟨i, j, rfl, h⟩
/-! data -/
theorem st_ixT (h : Im H0 (.tuple ds) x) (k : Kp H0 H) (e : atI ds i = some d) (q : ∀ v, Im H d v → Q v H) : rIxT K x (.int i) H Q := by
  obtain ⟨a, xs, rfl, h1, h2⟩ := (h.kp k).tup
  obtain ⟨v, e1, h3⟩ := atI_iml h2 e
  exact ⟨a, xs, i, v, rfl, rfl, SqT.of h1, e1, q v h3⟩
theorem st_ixT_int (h : Im H0 (.tuple ds) x) (k : Kp H0 H) (e : atI ds i = some (.int j)) (q : Q (.int j) H) : rIxT K x (.int i) H Q :=
  st_ixT h k e fun v hv => by rw [Im.int_iff.mp hv]; exact q
theorem st_ixT_str {s : Str} (h : Im H0 (.tuple ds) x) (k : Kp H0 H) (e : atI ds i = some (.str s)) (q : Q (.str s) H) : rIxT K x (.int i) H Q :=
  st_ixT h k e fun v hv => by rw [Im.str_iff.mp hv]; exact q
theorem st_ixL (h : H l = some (.lst xs)) (e : atI xs i = some v) (q : Q v H) : rIxL K (.ref l) (.int i) H Q := ⟨l, xs, i, v, rfl, rfl, SqL.of h, e, q⟩
theorem st_ixLI {ns : List Int} (h : H l = some (.lst (ns.map V.int))) (e : atI ns i = some j) (q : Q (.int j) H) : rIxL K (.ref l) (.int i) H Q := by
  refine st_ixL h ?_ q
  unfold atI at e ⊢
  rw [List.length_map]
  cases z : ixN ns.length i with
  | none =>
    rw [z] at e
    cases e
  | some m =>
    rw [z] at e
    show (ns.map V.int)[m]? = some (.int j)
    rw [List.getElem?_map]
    show (ns[m]?).map V.int = some (.int j)
    have e' : ns[m]? = some j := e
    rw [e']
    rfl
theorem st_lenT (h : Im H0 (.tuple ds) x) (k : Kp H0 H) (q : Q (.int ds.length) H) : rLenS K [x] H Q := by
  obtain ⟨a, xs, rfl, h1, h2⟩ := (h.kp k).tup
  exact ⟨a, xs, rfl, .inr (SqT.of h1), by rw [h2.length]; exact q⟩
theorem st_lenL (h : H l = some (.lst xs)) (q : Q (.int xs.length) H) : rLenS K [.ref l] H Q := ⟨l, xs, rfl, .inl (SqL.of h), q⟩
theorem st_gtup {Gs : TGs} {QS : L2.St → Hp → Prop} (h : Im H0 (.tuple ds) x) (k : Kp H0 H) (hn : ds.length = n) (q : ∀ xs, ImL H ds xs → Gs xs σ H QS) : gTup K n Gs x σ H QS := by
  obtain ⟨a, xs, rfl, h1, h2⟩ := (h.kp k).tup
  exact ⟨a, xs, rfl, SqT.of h1, h2.length.trans hn, q xs h2⟩
theorem st_gtup' {Gs : TGs} {QS : L2.St → Hp → Prop} (h : H a = some (.tup xs)) (hn : xs.length = n) (q : Gs xs σ H QS) : gTup K n Gs (.ref a) σ H QS := ⟨a, xs, rfl, SqT.of h, hn, q⟩
theorem st_listT (h : Im H0 (.tuple ds) x) (k : Kp H0 H) (q : ∀ l xs H2, H l = none → Ex H H2 → ImL H2 ds xs → H2 l = some (.lst xs) → Q (.ref l) H2) : rListOf K [x] H Q := by
  obtain ⟨a, xs, rfl, h1, h2⟩ := (h.kp k).tup
  exact ⟨a, xs, rfl, .inr (SqT.of h1), fun l hl => q l xs _ hl (Ex.new hl) (h2.kp (Ex.new hl).kp) upd_same⟩
theorem st_listL (h : H a = some (.lst xs)) (q : ∀ l H2, H l = none → Ex H H2 → H2 l = some (.lst xs) → Q (.ref l) H2) : rListOf K [.ref a] H Q := ⟨a, xs, rfl, .inl (SqL.of h), fun l hl => q l _ hl (Ex.new hl) upd_same⟩
theorem st_tupL (h : H a = some (.lst xs)) (q : ∀ l H2, H l = none → Ex H H2 → H2 l = some (.tup xs) → Q (.ref l) H2) : rTupOf K [.ref a] H Q := ⟨a, xs, rfl, .inl ⟨SqL.of h, fun l hl => q l _ hl (Ex.new hl) upd_same⟩⟩
theorem st_app {z : V} (h : H l = some (.lst xs)) (hz : xs.length < sizeLine) (q : ∀ H2, Fr [l] H H2 → Kp H H2 → H2 l = some (.lst (xs ++ [z])) → Q .non H2) : rAppend (.ref l) [z] H Q :=
  ⟨l, xs, z, rfl, rfl, h, hz, q _ (Fr.mut (List.mem_singleton.mpr rfl) (Fr.refl _ _)) (Kp.mut (nt_of h trivial) (Kp.refl _)) upd_same⟩
theorem st_bm {T : String} {f : V → List V → Hp → VK → Prop} {to : TE} {tr : TA} (h : to σ H fun x H1 => tyV K T x H1 ∧ tr σ H1 fun xs H2 => f x xs H2 Q) : tBM K T f to tr σ H Q := h
theorem st_bm0 {T : String} {f : V → List V → Hp → VK → Prop} {to : TE} (h : to σ H fun x H1 => tyV K T x H1 ∧ f x [] H1 Q) : tBM0 K T f to σ H Q := h
theorem tyL {A : Prop} (h : H l = some (.lst xs)) (q : A) : tyV K "list" (.ref l) H ∧ A := ⟨.inl ⟨rfl, _, SqL.of h⟩, q⟩
/-- for over a tuple -/
theorem st_forT {te : TE} {g : TG} {tb : TS} (Pv : Nat → L2.St → Hp → Prop)
    (h : te σ H fun x H1 => Im H1 (.tuple ds) x ∧ Pv 0 σ H1 ∧ ∀ m σ' H', Pv m σ' H' → Kp H1 H')
    (hs : ∀ m d v σ' H', ds[m]? = some d → Pv m σ' H' → Im H' d v → g v σ' H' fun σ2 H2 => tb { D with nx := Pv (m + 1), ct := Pv (m + 1), bk := D.nx } σ2 H2)
    (hd : ∀ σ' H', Pv ds.length σ' H' → D.nx σ' H')
    (mono : ∀ Q Q' : VK, (∀ x H1, Q x H1 → Q' x H1) → te σ H Q → te σ H Q') : tFor (iTup K te) g tb D σ H := by
  refine mono _ _ (fun x H1 ⟨hx, h0, hk⟩ => ?_) h
  obtain ⟨a, xs, rfl, h1, h2⟩ := hx.tup
  refine ⟨a, rfl, ⟨xs, SqT.of h1⟩, for_tup (K := K) (a := a) (xs := xs) Pv h0 (fun m σ' H' _ p => SqT.of (hk m σ' H' p a xs h1)) (fun m v σ' H' hv p => ?_) fun σ' H' p => hd σ' H' (h2.length ▸ p)⟩
  obtain ⟨d, e1, e2⟩ := h2.get' hv
  exact hs m d v σ' H' e1 p (e2.kp (hk m σ' H' p))
theorem st_forT0 {m0 : Nat} {g : TG} {tb : TS} (Pv : Nat → L2.St → Hp → Prop) (e : σ[m0]? = some (some x)) (h : Im H0 (.tuple ds) x) (k : Kp H0 H) (h0 : Pv 0 σ H) (hk : ∀ m σ' H', Pv m σ' H' → Kp H0 H')
    (hs : ∀ m d v σ' H', ds[m]? = some d → Pv m σ' H' → Im H' d v → g v σ' H' fun σ2 H2 => tb { D with nx := Pv (m + 1), ct := Pv (m + 1), bk := D.nx } σ2 H2)
    (hd : ∀ σ' H', Pv ds.length σ' H' → D.nx σ' H') : tFor (iTup K (tVar m0)) g tb D σ H := by
  obtain ⟨a, xs, rfl, h1, h2⟩ := h.tup
  refine ⟨_, e, a, rfl, ⟨xs, SqT.of (k a xs h1)⟩, for_tup (K := K) (a := a) (xs := xs) Pv h0 (fun m σ' H' _ p => SqT.of (hk m σ' H' p a xs h1)) (fun m v σ' H' hv p => ?_) fun σ' H' p => hd σ' H' (h2.length ▸ p)⟩
  obtain ⟨d, e1, e2⟩ := h2.get' hv
  exact hs m d v σ' H' e1 p (e2.kp (hk m σ' H' p))
/-- for over range -/
theorem st_forR {ta : TA} {g : TG} {tb : TS} {hi : Int} (Pv : Nat → L2.St → Hp → Prop) (h : ta σ H fun vs H1 => vs = [.int hi] ∧ (hi < 4611686018427387904 ∧ -4611686018427387904 ≤ hi) ∧ Pv 0 σ H1)
    (mono : ∀ Q Q' : List V → Hp → Prop, (∀ x H1, Q x H1 → Q' x H1) → ta σ H Q → ta σ H Q')
    (hs : ∀ (m : Nat) σ' H', (m : Int) < hi → Pv m σ' H' → g (.int (m : Int)) σ' H' fun σ2 H2 => tb { D with nx := Pv (m + 1), ct := Pv (m + 1), bk := D.nx } σ2 H2)
    (hd : ∀ σ' H', Pv hi.toNat σ' H' → D.nx σ' H') : tFor (iRng1 ta) g tb D σ H := by
  refine mono _ _ (fun vs H1 ⟨e, hb, p⟩ => ?_) h
  refine ⟨hi, e, by omega, by omega, for_range (lo := 0) (n := hi.toNat) Pv p (fun m σ' H' hm p => ?_) hd⟩
  have e0 : (0 : Int) + (m : Int) = (m : Int) := Int.zero_add _
  rw [e0]
  exact hs m σ' H' (by omega) p
end
/-! defs, methods, classes that keep their promises -/
/-- a def that may be called by its name -/
structure Cal (CX : CXT) (P : Program) (w : World) (K : PySem.W.Frag) (mg : Str → Option Value) (base : Heap) (k : Nat) (x : Str) (sp : Sp) : Prop where
  ex : ∃ (f : Addr) (fd : FuncData) (ps : List Str), FnOk P w K mg base CX k f fd ps sp ∧ mg x = some (.ref f) ∧ PySem.W.keepIn K (.ref f) = true ∧ Binds K fd ps []
/-- a method of a class, C its place -/
structure Met (CX : CXT) (P : Program) (w : World) (K : PySem.W.Frag) (mg : Str → Option Value) (base : Heap) (k : Nat) (C : Addr) (m : Str) (sp : Sp) : Prop where
  ex : ∃ (f : Addr) (fd : FuncData) (ps : List Str), Cls K C ∧ Meth K C m f ∧ FnOk P w K mg base CX k f fd ps sp ∧ Binds K fd ps []
/-- a class that may be called by its name -/
structure Mak (CX : CXT) (P : Program) (w : World) (K : PySem.W.Frag) (mg : Str → Option Value) (base : Heap) (k : Nat) (x : Str) (C : Addr) (sp : Sp) : Prop where
  ex : ∃ (f : Addr) (fd : FuncData) (ps : List Str), Mk K C f ∧ FnOk P w K mg base CX k f fd ps sp ∧ mg x = some (.ref C) ∧ Binds K fd ps []
section
variable {X : Cx} {k j : Nat} {C : Addr} {x m : Str} {sp : Sp} {p pos apos : Pos} {e o : Expr} {es : List Expr} {ta : TE} {t : TA}
theorem pe_c0 (c : Cal CX0 X.prog X.w X.K X.mg X.base k x sp) (hr : Room j X.A) (hk : k ≤ j) (hg : Gl X x) (hdb : (x == ("__debug__" : Str)) = false := by decide) :
    PE X (.Call (.Name x p) [] [] pos) (tCall sp [] E0 tNil) := by
  obtain ⟨f, fd, ps, F, hm, kp, b⟩ := c.ex
  exact pe_call0 F (hr.mono hk) hg hm kp b .nil pass0 hdb
theorem pe_c (c : Cal CX0 X.prog X.w X.K X.mg X.base k x sp) (hr : Room j X.A) (hk : k ≤ j) (hg : Gl X x) (ha : PA X (e :: es) t)
    (h1 : (x == ("__debug__" : Str)) = false := by decide) (h2 : starEach (e :: es) X.env = (false, eval e X.env) :: starEach es X.env := by rfl) (h3 : (backTo pos (starEach es X.env)).any (·.1) = false := by rfl) :
    PE X (.Call (.Name x p) (e :: es) [] pos) (tCall sp [] E0 t) := by
  obtain ⟨f, fd, ps, F, hm, kp, b⟩ := c.ex
  exact pe_call F (hr.mono hk) hg hm kp b .nil pass0 ha h1 h2 h3
theorem pe_mk (c : Mak CX0 X.prog X.w X.K X.mg X.base k x C sp) (hr : Room j X.A) (hk : k + 1 ≤ j) (hg : Gl X x) (ha : PA X (e :: es) t)
    (h1 : (x == ("__debug__" : Str)) = false := by decide) (h2 : starEach (e :: es) X.env = (false, eval e X.env) :: starEach es X.env := by rfl) (h3 : (backTo pos (starEach es X.env)).any (·.1) = false := by rfl) :
    PE X (.Call (.Name x p) (e :: es) [] pos) (tMake C sp [] E0 t) := by
  obtain ⟨f, fd, ps, M, F, hm, b⟩ := c.ex
  exact pe_make M F (hr.mono hk) hg hm b .nil pass0 ha h1 h2 h3
theorem pe_mt {pl : Sem Bool} (c : Met CX0 X.prog X.w X.K X.mg X.base k C m sp) (hr : Room j X.A) (hk : k ≤ j) (he : PE X o ta) (ha : PA X (e :: es) t)
    (h1 : starEach (e :: es) X.env = (false, eval e X.env) :: starEach es X.env := by rfl) (h2 : (backTo pos (starEach es X.env)).any (·.1) = false := by rfl)
    (h3 : eval (.Call (.Attribute o m apos) (e :: es) [] pos) X.env = (do
      let ov ← eval o X.env
      standAt apos.atName
      let (g, first) ← holding [ov] (getMethod ov m pl)
      callWith pos g first (backTo pos (starEach (e :: es) X.env)) (backToKw pos (keywordEach [] X.env))) := by rfl) :
    PE X (.Call (.Attribute o m apos) (e :: es) [] pos) (tMeth C m sp [] E0 ta t) := by
  obtain ⟨f, fd, ps, hc, hm, F, b⟩ := c.ex
  exact pe_meth (pl := pl) he hc hm F (hr.mono hk) b .nil pass0 ha h1 h2 h3
theorem pe_mt0 {pl : Sem Bool} (c : Met CX0 X.prog X.w X.K X.mg X.base k C m sp) (hr : Room j X.A) (hk : k ≤ j) (he : PE X o ta)
    (h3 : eval (.Call (.Attribute o m apos) [] [] pos) X.env = (do
      let ov ← eval o X.env
      standAt apos.atName
      let (g, first) ← holding [ov] (getMethod ov m pl)
      callWith pos g first (backTo pos (starEach [] X.env)) (backToKw pos (keywordEach [] X.env))) := by rfl) :
    PE X (.Call (.Attribute o m apos) [] [] pos) (tMeth C m sp [] E0 ta tNil) := by
  obtain ⟨f, fd, ps, hc, hm, F, b⟩ := c.ex
  exact pe_meth0 (pl := pl) he hc hm F (hr.mono hk) b .nil pass0 h3
theorem pe_gc {v : V} (g : Gl X x) (h : ∃ u, X.mg x = some u ∧ RelV v u) (hd : (x == ("__debug__" : Str)) = false := by decide) : PE X (.Name x pos) (tC v) := by
  obtain ⟨u, hm, r⟩ := h
  exact pe_glob g hm r hd
end
section
variable {P : Program} {w : World} {K : PySem.W.Frag} {mg : Str → Option Value} {base : Heap} {x qual m : Str} {st : Stmt} {f C : Addr} {fd : FuncData} {N ps : List Str} {k : Nat} {sp : Sp}
abbrev BindsOf (x qual : Str) (st : Stmt) (ps : List Str) : Prop := ∀ (kV doc pm : Value) (an : Option Addr) (cdv ct : Value) (us : List Value), us.length = ps.length → bindArgs (PySem.W.fnOf x qual (defArgs st) (defBody st) (defScope st) .none kV doc pm an cdv ct) ⟨us, []⟩ = pure (ps.zip us)
abbrev BodyOf (P : Program) (w : World) (K : PySem.W.Frag) (mg : Str → Option Value) (base : Heap) (qual : Str) (st : Stmt) (f : Addr) (N : List Str) (k : Nat) (sp : Sp) : Prop :=
  ∀ (cdv : Value) (A : Around) (outer : List Env) (s : Shared) (H : Hp) (vs : List V) (Q : VK) (E : XK), Room k (A.deeper (envOfC qual (defScope st) s.heap.objs.size f cdv)) → sp vs H Q E →
      ∃ t, PSs (cxOf CX0 P w K mg base N qual (defScope st) f cdv A outer s H E).nox (defBody st) t ∧ t { nx := fun _ H' => Q .non H', rt := Q } (start N vs) H
/-- a def of the module keeps its promise, by its body -/
theorem cal_of (F : Fun K x x st f fd) (hm : mg x = some (.ref f)) (b : BindsOf x x st ps) (S : FnScope N ps (defScope st)) (len : ∀ vs H Q E, sp vs H Q E → vs.length = ps.length)
    (body : BodyOf P w K mg base x st f N k sp) : Cal CX0 P w K mg base (k + 1) x sp :=
  ⟨f, fd, ps, F.ok S len body, hm, F.kp, F.binds b⟩
theorem met_of (c : Cls K C) (me : Meth K C m f) (F : Fun K m qual st f fd) (b : BindsOf m qual st ps) (S : FnScope N ps (defScope st)) (len : ∀ vs H Q E, sp vs H Q E → vs.length = ps.length)
    (body : BodyOf P w K mg base qual st f N k sp) : Met CX0 P w K mg base (k + 1) C m sp :=
  ⟨f, fd, ps, c, me, F.ok S len body, F.binds b⟩
theorem mak_of (M : Mk K C f) (hm : mg x = some (.ref C)) (F : Fun K "__init__" qual st f fd) (b : BindsOf "__init__" qual st ps) (S : FnScope N ps (defScope st)) (len : ∀ vs H Q E, sp vs H Q E → vs.length = ps.length)
    (body : BodyOf P w K mg base qual st f N k sp) : Mak CX0 P w K mg base (k + 1) x C sp :=
  ⟨f, fd, ps, M, F.ok S len body, hm, F.binds b⟩
end
/-- a module's constant -/
def HasC (mg : Str → Option Value) (x : Str) (v : V) : Prop := ∃ u, mg x = some u ∧ RelV v u
end BC
/-! BCEnum: enumerate(tuple). -/
namespace BC
open PySem PySem.Spec PyProof.Rows L2
open PySem.Sem (wp)
theorem meets_enumerate_new1 {v : Value} {o : Obj} {H : Heap → Prop} (B : Begins v o H) :
    Meets (Builtin.«enumerate.__new__» ⟨[.type "enumerate", v], []⟩) (fun _ R s => H s.heap ∧
      R (.ok (.ret (.ref (s.heap.push o).objs.size))) { s with heap := (s.heap.push o).push { cls := .type "enumerate", data := .fields #[.none, .bool false, .ref s.heap.objs.size, rawInt 0, .none, .none] } }) :=
  .of_wp fun prog w A R s h => by
    obtain ⟨hp0, g, d, tk0, os⟩ := s; obtain ⟨g1, h⟩ := h
    have hsub := sub_enumerate
    have beg : ∀ {A' : Around} {E : Value → Shared → Prop} {Q : Value → Shared → Prop}, Q (.ref hp0.objs.size) ⟨hp0.push o, g, d, tk0, os⟩ → wpAny (model prog w) A' (pyIter v) Q E ⟨hp0, g, d, tk0, os⟩ :=
      fun q => B.iter prog w _ _ ⟨hp0, g, d, tk0, os⟩ _ g1 q
    wp_walk using beg
    refine wpAny_stack_any (fun stk => wpAny_pure ?_)
    split
    · rename_i c _ _ _ _ _
      cases (c == (.type "enumerate" : Value))
      · wp_walk using beg
        exact ⟨_, rfl, h⟩
      · wp_walk using beg
        exact ⟨_, rfl, h⟩
    · wp_walk using beg
      exact ⟨_, rfl, h⟩
section
variable {prog : Program} {w : World} {A : Around} {s : Shared} {E : Value → Shared → Prop}
theorem call_enumerate_tuple {t : Addr} {items : Array Value} {Q : Value → Shared → Prop} (ht : s.heap.IsTuple t items)
    (h : ∀ h', IsEnum h' (s.heap.objs.size + 1) s.heap.objs.size 0 .none → h'.IsTupleIter s.heap.objs.size t 0 → h'.objs.size = s.heap.objs.size + 2 →
      (∀ b o, s.heap.get? b = some o → h'.get? b = some o) → Q (.ref (s.heap.objs.size + 1)) { s with heap := h' }) :
    wpAny (model prog w) A (call (.type "enumerate") [.ref t]) Q E s := by
  refine callType_new F.called_enumerate (by decide) (F.typeCall_enumerate_1 _) (F.newCall_enumerate_1 _) (fun obj => F.args_object_init_2 obj _) F.entry_enumerate_new
    (meets_enumerate_new1 (begins_tuple t items)) ⟨ht, ?_⟩
  have zE : (s.heap.push { cls := .type "tuple_iterator", data := .fields #[.ref t, .int 0 0] }).objs.size = s.heap.objs.size + 1 := Heap.size_push ..
  show _ ∧ _
  rw [zE]
  have hE : IsEnum ((s.heap.push { cls := .type "tuple_iterator", data := .fields #[.ref t, .int 0 0] }).push
      { cls := .type "enumerate", data := .fields #[.none, .bool false, .ref s.heap.objs.size, rawInt 0, .none, .none] }) (s.heap.objs.size + 1) s.heap.objs.size 0 .none := by
    have := Heap.get?_push_size (s.heap.push { cls := .type "tuple_iterator", data := .fields #[.ref t, .int 0 0] })
      (o := { cls := .type "enumerate", data := .fields #[.none, .bool false, .ref s.heap.objs.size, rawInt 0, .none, .none] }) rfl
    rw [zE] at this; exact this
  refine ⟨⟨_, hE, rfl⟩, h _ hE ⟨_, Heap.get?_push_of_some _ (Heap.get?_push_size _ rfl), rfl, rfl⟩ (by rw [Heap.size_push, zE]) fun b o x => Heap.get?_push_of_some _ (Heap.get?_push_of_some _ x)⟩
end
/-- the tuple at a, each item in a new pair -/
def ItT (K : PySem.W.Frag) (a : Addr) : It :=
  ⟨fun i H => ∃ (xs : List V) (x : V), SqT K H a xs ∧ xs[i]? = some x, fun i H v H' => ∃ T x, v = .ref T ∧ H T = none ∧ H' = upd H T (.tup [.int (i : Nat), x]) ∧ ∀ xs, SqT K H a xs → xs[i]? = some x, fun i H => ∃ xs : List V, SqT K H a xs ∧ xs.length = i⟩
theorem turn_enumT {P : Program} {w : World} {K : PySem.W.Frag} {elts : List Expr} {kk : Nat} {tpos : Pos} (a e it : Addr) :
    Turn P w K (.Tuple elts kk tpos) (ItT K a) [e, it] e (fun i h => (∃ o0, IsEnum h e it ((i : Nat) : Int) o0) ∧ h.IsTupleIter it a i ∧ e ≠ it ∧ a ≠ it ∧ a ≠ e) where
  mem := by simp
  obj := fun i h st b nb => by
    obtain ⟨⟨o0, hE⟩, ⟨o, ho, hc, hd⟩, _⟩ := st
    have e' : b = e ∨ b = it := by simpa using nb
    rcases e' with z | z
    · rw [z]; exact ⟨_, hE, fun v q => nomatch q⟩
    · rw [z]; exact ⟨o, ho, fun v q => by rw [hd] at q; cases q⟩
  keep := fun i h h' st k => let ⟨⟨o0, hE⟩, hi, hN⟩ := st; ⟨⟨o0, k e (by simp) _ hE⟩, hi.at fun o q => k it (by simp) o q, hN⟩
  item := by
    intro X gP gw gK hc i pn s σ H E I hfp st go0
    subst gP gw gK
    obtain ⟨⟨o0, hE⟩, hI, hN, hai, hae⟩ := st
    obtain ⟨xs, x, sq, at0⟩ := go0
    obtain ⟨us0, rV, p, zE⟩ := I.tuple sq
    obtain ⟨u, uAt, rU⟩ := rV.get at0
    have ltE : e < s.heap.objs.size := Heap.lt_size hE
    have ltI : it < s.heap.objs.size := by obtain ⟨_, q, _⟩ := hI; exact Heap.lt_size q
    have hlt : i < us0.toArray.size := by
      have := (List.getElem?_eq_some_iff.mp uAt).1
      simpa using this
    refine wpAny_pyNext_enum_itemD (Draws.tuple (A := X.A.in1) (I.ok.hd hc) it a hai us0.toArray) hE ⟨hI, show s.heap.IsTuple a us0.toArray from p⟩ hlt hN (by simp; exact ⟨hN, fun z => hae z.symm⟩) fun x' h' tk0 gP ho hst' newT sz0 kp0 => ?_
    obtain ⟨hI', hp0'⟩ := hst'
    have ex : x' = u := by
      have g1 : us0.toArray[i]? = some u := by simpa using uAt
      rw [g1] at gP
      exact (Option.some.inj gP).symm
    subst ex
    refine ⟨_, rfl, wpAny_letOwnedTupleGo_enum (s := { s with heap := h', toks := tk0 + 1 }) ho fun h'' hE' sB => ?_⟩
    have hT2 : h''.get? s.heap.objs.size = some { cls := .type "tuple", data := .seq #[.int i tk0, x'] } := (sB.2 _ (Nat.ne_of_gt ltE)).trans newT
    have new : ObjOk X.prog X.w (upd H s.heap.objs.size (.tup [.int (i : Nat), x])) h'' s.heap.objs.size (.tup [.int (i : Nat), x]) :=
      ⟨by show 2 ≤ sizeLine; decide, [.int i tk0, x'], .cons ⟨_, rfl⟩ (.cons rU .nil), ⟨_, hT2, rfl, _, rfl⟩⟩
    have J1 : Inv X pn σ (upd H s.heap.objs.size (.tup [.int (i : Nat), x])) { s with heap := h'', toks := tk0 + 1 } :=
      I.turnedNew (ch := [e, it]) (fun b ob nb q => (sB.2 b (fun z => nb (by simp [z]))).trans (kp0 b ob (fun z => nb (by simp [z])) (fun z => nb (by simp [z])) q)) hfp (Nat.le_refl _) new
    refine ⟨.ref s.heap.objs.size, _, J1, rfl, ⟨_, x, rfl, I.hok.fresh (Nat.le_refl _), rfl, fun ys hy => by rw [I.tuple_inj hy sq]; exact at0⟩, ⟨⟨x', ?_⟩, hI'.at fun o q => (sB.2 it (Ne.symm hN)).trans q, hN, hai, hae⟩, fun b nb => ?_⟩
    · have ee1 : ((i + 1 : Nat) : Int) = (i : Int) + 1 := by omega
      rw [ee1]; exact hE'
    · have nb' : b < s.heap.objs.size := by
        have e' : b = e ∨ b = it := by simpa using nb
        rcases e' with z | z
        · rw [z]; exact ltE
        · rw [z]; exact ltI
      rw [upd_ne (Nat.ne_of_lt nb')]
      exact (hfp b nb).1
  done := by
    intro X gP gw gK hc i pn s σ H E I hfp st go0
    subst gP gw gK
    obtain ⟨⟨o0, hE⟩, hI, hN, hai, hae⟩ := st
    obtain ⟨xs, sq, at0⟩ := go0
    obtain ⟨us0, rV, p, zE⟩ := I.tuple sq
    obtain ⟨c0, c1, c2, c3, c4, c5⟩ := hfp it (by simp)
    have hl := rV.length
    have leB : us0.toArray.size = i := by simp; omega
    subst leB
    exact wpAny_pyNext_enum_endD (Draws.tuple (A := X.A.in1) (I.ok.hd hc) it a hai us0.toArray) hE ⟨hI, show s.heap.IsTuple a us0.toArray from p⟩ fun h' ebt => ⟨rfl, I.turned (t' := s.toks) (fun b o nb q => ebt b o nb q) c0 c1 c3 c4 c5⟩
  self := fun A i s Q E st h => let ⟨⟨_, hE⟩, _⟩ := st; wpAny_pyIter_enum hE h
def iEnumT (K : PySem.W.Frag) (ta : TA) : TI := fun σ H R => ta σ H fun vs H1 => ∃ a xs, vs = [.ref a] ∧ SqT K H1 a xs ∧ R (ItT K a) H1
theorem pi_enumT {X : Cx} {e : Expr} {ta : TA} {p pos tpos : Pos} {elts : List Expr} {kk : Nat} (go0 : Gl X "enumerate") (hm : X.mg "enumerate" = none) (ha : PA X [e] ta) (hs : starEach [e] X.env = [(false, eval e X.env)] := by rfl) :
    PI X (.Tuple elts kk tpos) (.Call (.Name "enumerate" p) [e] [] pos) (iEnumT X.K ta) := by
  refine ⟨fun pn s σ H R I h => ?_⟩
  refine Call_ (ld_blt I go0 hm boot_enumerate (PyProof.Rows.callWith_type1 (thn (ha.run pos pn s σ H _ I h) fun us s1 ⟨vs, H1, J1, r1, beg⟩ => ?_) hs rfl))
  obtain ⟨a, xs, ex, sq, q⟩ := beg
  subst ex
  cases r1 with
  | cons r rr =>
    cases rr
    cases r
    obtain ⟨us0, rV, p', zE⟩ := J1.tuple sq
    have hal : a < s1.heap.objs.size := p'.lt
    refine call_enumerate_tuple (show s1.heap.IsTuple a us0.toArray from p') fun h' hE hI sz0 kp0 => wpAny_pyIter_enum hE ?_
    have J2 : Inv X pn σ H1 { s1 with heap := h' } := J1.kept (t' := s1.toks) kp0
    refine ⟨s1.heap.objs.size + 1, [s1.heap.objs.size + 1, s1.heap.objs.size], _, _, H1, rfl, J2, turn_enumT a (s1.heap.objs.size + 1) s1.heap.objs.size, ⟨⟨.none, hE⟩, hI, Nat.succ_ne_self _, Nat.ne_of_lt hal, Nat.ne_of_lt (Nat.lt_succ_of_lt hal)⟩, fun b nb => ?_, q⟩
    have e' : b = s1.heap.objs.size + 1 ∨ b = s1.heap.objs.size := by simpa using nb
    have leB : s1.heap.objs.size ≤ b := by
      rcases e' with z | z
      · rw [z]; exact Nat.le_add_right _ _
      · rw [z]; exact Nat.le_refl _
    exact J1.fpOk leB (J1.hok.fresh leB)
theorem walk_enumT {K : PySem.W.Frag} {a : Addr} {xs : List V} : Walk (ItT K a) xs.length (fun H => SqT K H a xs) (YPair (fun i => some (.int (i : Nat))) (fun i => xs[i]?)) := by
  refine ⟨fun i _ hi q => ⟨xs, xs[i], q, by simp [hi]⟩, fun _ q => ⟨xs, q, rfl⟩, fun i H v H' _ q y => ?_⟩
  obtain ⟨T, x, g1, h2, h3, h4⟩ := y
  exact ⟨T, .int (i : Nat), x, g1, h2, h3, rfl, h4 xs q⟩
/-- for i, x in enumerate(t): the pair is unpacked into two slots -/
theorem st_forET {K : PySem.W.Frag} {σ : L2.St} {H H0 : Hp} {D : Ends} {x : V} {ds : List PyData} {m0 m1 m2 : Nat} {tb : TS} (Pv : Nat → L2.St → Hp → Prop) (e : σ[m0]? = some (some x)) (h : Im H0 (.tuple ds) x) (k : Kp H0 H) (h0 : Pv 0 σ H) (kp0 : ∀ m σ' H', Pv m σ' H' → Kp H0 H')
    (hs : ∀ (m : Nat) d v σ' H' H'', ds[m]? = some d → Pv m σ' H' → Ex H' H'' → Im H'' d v → tb { D with nx := Pv (m + 1), ct := Pv (m + 1), bk := D.nx } ((σ'.set m1 (some (.int (m : Int)))).set m2 (some v)) H'')
    (hd : ∀ σ' H', Pv ds.length σ' H' → D.nx σ' H') : tFor (iEnumT K (tCons (tVar m0) tNil)) (gTup K 2 (gCons (gName m1) (gCons (gName m2) gNil))) tb D σ H := by
  obtain ⟨a, xs, rfl, g1, h2⟩ := h.tup
  refine ⟨_, e, a, xs, rfl, SqT.of (k a xs g1), for_it (walk_enumT (K := K) (a := a) (xs := xs)) Pv h0 (fun m σ' H' _ p => SqT.of (kp0 m σ' H' p a xs g1)) (fun m v σ' H' H'' hlt p y => ?_) fun σ' H' p => hd σ' H' (h2.length ▸ p)⟩
  obtain ⟨T, y1, y2, rfl, f, rfl, ee1, e2⟩ := y
  have ee1' : y1 = .int (m : Int) := (Option.some.inj ee1).symm
  subst ee1'
  obtain ⟨d, g1, g2⟩ := h2.get' e2
  refine ⟨T, [.int (m : Int), y2], rfl, SqT.of upd_same, rfl, _, [y2], rfl, y2, [], rfl, rfl, ?_⟩
  exact hs m d y2 σ' H' _ g1 p (Ex.new f) (g2.kp ((kp0 m σ' H' p).trans (Ex.new f).kp))
end BC
/-! BCData: boards as data, raw ones and good ones; more steps. -/
namespace BC
open PySem PySem.Spec PyProof.Rows L2
section
variable {K : PySem.W.Frag} {σ : L2.St} {H H0 H1 : Hp} {D : Ends} {Q : VK} {i j : Int} {n : Nat} {v x y : V} {d e : PyData} {ds es : List PyData} {vs xs ys : List V} {a b l p : Addr}
theorem st_fdiv {f : Int → Int → V} (c : 0 < j ∧ j < 1073741824) (h : Q (f i j) H) : rI CDiv f (.int i) (.int j) H Q := ⟨i, j, rfl, rfl, c, h⟩
theorem st_mod {f : Int → Int → V} (c : 0 < j) (h : Q (f i j) H) : rI (fun _ j => 0 < j) f (.int i) (.int j) H Q := ⟨i, j, rfl, rfl, c, h⟩
theorem st_mul {f : Int → Int → V} (c : (-(2 ^ 64) < i ∧ i < 2 ^ 64) ∨ (-(2 ^ 64) < j ∧ j < 2 ^ 64)) (h : Q (f i j) H) : rI CMul f (.int i) (.int j) H Q := ⟨i, j, rfl, rfl, c, h⟩
theorem st_in {neg : Bool} (h : H p = some (.tup xs)) (hx : flatV x = true) (hf : xs.all flatV = true) (q : Q (.bl (if neg then !inV x xs else inV x xs)) H) : rIn K neg x (.ref p) H Q := ⟨p, xs, rfl, .inr (SqT.of h), hx, hf, q⟩
theorem st_inL {neg : Bool} (h : H p = some (.lst xs)) (hx : flatV x = true) (hf : xs.all flatV = true) (q : Q (.bl (if neg then !inV x xs else inV x xs)) H) : rIn K neg x (.ref p) H Q := ⟨p, xs, rfl, .inl (SqL.of h), hx, hf, q⟩
theorem st_in2 {s s1 s2 : Str} (h : H p = some (.tup [.str s1, .str s2])) (q : Q (.bl (decide (s = s1 ∨ s = s2))) H) : rIn K false (.str s) (.ref p) H Q := by
  refine st_in h rfl rfl ?_
  have e : inV (.str s) [.str s1, .str s2] = decide (s = s1 ∨ s = s2) := by
    simp only [inV, List.any_cons, List.any_nil, eqV, Bool.or_false]
    rw [Bool.eq_iff_iff]
    simp only [Bool.or_eq_true, beq_iff_eq, decide_eq_true_eq]
    constructor
    · rintro (h | h)
      · exact .inl h.symm
      · exact .inr h.symm
    · rintro (h | h)
      · exact .inl h.symm
      · exact .inr h.symm
  show Q (.bl (inV (.str s) [.str s1, .str s2])) H
  rw [e]
  exact q
theorem Im.new (hp : H p = none) (h : Im H d v) {o : HO} : Im (upd H p o) d v := h.kp (Kp.new hp (Kp.refl H))
theorem ImL.new (hp : H p = none) (h : ImL H ds vs) {o : HO} : ImL (upd H p o) ds vs := h.kp (Kp.new hp (Kp.refl H))
theorem Im.ex (e : Ex H H1) (h : Im H d v) : Im H1 d v := h.kp e.kp
theorem ImL.ex (e : Ex H H1) (h : ImL H ds vs) : ImL H1 ds vs := h.kp e.kp
end

/-! ### raw boards -/
abbrev ROrd := Int × Int × Int × Option Int
abbrev RDeed := Str × List Int
structure RB where
  mem : List Int
  ords : List ROrd
  prog : List RDeed
def pyOpt : Option Int → PyData
  | none => .none
  | some i => .int i
abbrev pyOrd (o : ROrd) : PyData := .tuple [.int o.1, .int o.2.1, .int o.2.2.1, pyOpt o.2.2.2]
abbrev pyDeed (d : RDeed) : PyData := .tuple (.str d.1 :: d.2.map .int)
abbrev pyMem (m : List Int) : PyData := .tuple (m.map .int)
abbrev pyOrds (os : List ROrd) : PyData := .tuple (os.map pyOrd)
abbrev pyProg (p : List RDeed) : PyData := .tuple (p.map pyDeed)
abbrev pyB (b : RB) : PyData := .tuple [pyMem b.mem, pyOrds b.ords, pyProg b.prog]
/-- the value of an optional number -/
def vOpt : Option Int → V
  | none => .non
  | some i => .int i
theorem im_opt {H : Hp} {o : Option Int} {v : V} : Im H (pyOpt o) v ↔ v = vOpt o := by
  cases o with
  | none => exact Im.none_iff
  | some i => exact Im.int_iff
/-- an order, unpacked -/
theorem ord_inv {H : Hp} {o : ROrd} {xs : List V} (h : ImL H [.int o.1, .int o.2.1, .int o.2.2.1, pyOpt o.2.2.2] xs) : xs = [.int o.1, .int o.2.1, .int o.2.2.1, vOpt o.2.2.2] := by
  obtain ⟨v1, r1, rfl, h1, h⟩ := h.cons_inv
  obtain ⟨v2, r2, rfl, h2, h⟩ := h.cons_inv
  obtain ⟨v3, r3, rfl, h3, h⟩ := h.cons_inv
  obtain ⟨v4, r4, rfl, h4, h⟩ := h.cons_inv
  rw [h.nil_inv, Im.int_iff.mp h1, Im.int_iff.mp h2, Im.int_iff.mp h3, im_opt.mp h4]
theorem ints_at {ns : List Int} {i : Nat} {n : Int} (h : ns[i]? = some n) : (ns.map PyData.int)[i]? = some (.int n) := by
  rw [List.getElem?_map, h]
  rfl
theorem map_at {α β : Type} {f : α → β} {l : List α} {i : Nat} {x : α} (h : l[i]? = some x) : (l.map f)[i]? = some (f x) := by
  rw [List.getElem?_map, h]
  rfl
theorem map_at' {α β : Type} {f : α → β} {l : List α} {i : Nat} {y : β} (h : (l.map f)[i]? = some y) : ∃ x, l[i]? = some x ∧ y = f x := by
  rw [List.getElem?_map] at h
  cases e : l[i]? with
  | none =>
    rw [e] at h
    cases h
  | some x =>
    rw [e] at h
    exact ⟨x, rfl, (Option.some.inj h).symm⟩

/-! ### what check_board looks at -/
def digit (n : Int) : Bool := decide (0 ≤ n ∧ n ≤ 9)
/-- memory_fault -/
def memFault (m : List Int) : Option Nat :=
  if m.length % 4 ≠ 0 ∨ ¬ (1 ≤ m.length / 4 ∧ m.length / 4 ≤ 4) then some 0 else m.findIdx? fun n => !digit n
def ordOk (cells n i : Nat) (o : ROrd) : Bool :=
  decide (1 ≤ o.2.2.1 ∧ o.2.2.1 ≤ 8) && decide (0 ≤ o.1 ∧ o.1 ≤ cells - o.2.2.1) && decide (0 ≤ o.2.1 ∧ o.2.1 ≤ cells - o.2.2.1) &&
    match o.2.2.2 with
    | none => true
    | some l => decide ((i : Int) + 1 ≤ l ∧ l ≤ (n : Int) - 1)
def deedOk (cells n : Nat) (d : RDeed) : Bool :=
  if d.1 = "wait" then d.2.length == 0
  else if d.1 = "set" ∨ d.1 = "add" then
    match d.2 with
    | [x, y] => decide (0 ≤ x ∧ x ≤ (cells : Int) - 1) && decide (0 ≤ y ∧ y ≤ if d.1 = "set" then (9 : Int) else (cells : Int) - 1)
    | _ => false
  else
    match d.2 with
    | [x] => if d.1 = "say" then decide (0 ≤ x ∧ x ≤ (cells : Int) - 1) else if d.1 = "start" then decide (0 ≤ x ∧ x ≤ (n : Int) - 1) else decide (d.1 = "clean" ∨ d.1 = "drop") && decide (0 ≤ x ∧ x ≤ ((cells / 4 : Nat) : Int) - 1)
    | _ => false
def isStart (d : RDeed) : Bool := decide (d.1 = "start")
/-- a board that can be -/
structure RGood (b : RB) : Prop where
  mem : memFault b.mem = none
  ords : b.ords.length ≤ 4 ∧ ∀ i o, b.ords[i]? = some o → ordOk b.mem.length b.ords.length i o = true
  prog : b.prog.length ≤ 60 ∧ (∀ d ∈ b.prog, deedOk b.mem.length b.ords.length d = true) ∧ (b.prog.filter isStart).length ≤ 3
end BC
/-! BCTyped: good boards: orders, deeds, moves. -/
namespace BC
open PySem PySem.Spec PyProof.Rows L2
theorem ofS_inj {a b : String} : Str.ofString a = Str.ofString b ↔ a = b := by
  constructor
  · intro h
    have h1 : (Str.ofString a).cps.toList = (Str.ofString b).cps.toList := by rw [h]
    have h2 : a.toList.map Char.toNat = b.toList.map Char.toNat := by simpa [Str.ofString_eq_toList] using h1
    have h3 : a.toList = b.toList := (List.map_inj_right (f := Char.toNat) (fun x y hxy => Char.toNat_inj.mp hxy)).mp h2
    exact String.toList_inj.mp h3
  · intro h
    rw [h]
theorem ofS_beq {a b : String} : (Str.ofString a == Str.ofString b) = decide (a = b) := by
  rw [Bool.eq_iff_iff, beq_iff_eq, decide_eq_true_eq]
  exact ofS_inj
structure Ord where
  src : Nat
  dst : Nat
  many : Nat
  later : Option Nat
def oN : Option Nat → Option Int
  | none => none
  | some n => some (n : Int)
abbrev Ord.raw (o : Ord) : ROrd := ((o.src : Int), (o.dst : Int), (o.many : Int), oN o.later)
inductive Deed where
  | set (c n : Nat) | add (c o : Nat) | say (c : Nat) | start (k : Nat) | wait | clean (l : Nat) | drop (l : Nat)
  deriving DecidableEq
abbrev Deed.raw : Deed → RDeed
  | .set c n => ("set", [(c : Int), (n : Int)])
  | .add c o => ("add", [(c : Int), (o : Int)])
  | .say c => ("say", [(c : Int)])
  | .start k => ("start", [(k : Int)])
  | .wait => ("wait", [])
  | .clean l => ("clean", [(l : Int)])
  | .drop l => ("drop", [(l : Int)])
def Deed.isStart : Deed → Bool
  | .start _ => true
  | _ => false
structure Bd where
  mem : List Int
  ords : List Ord
  prog : List Deed
abbrev Bd.raw (b : Bd) : RB := ⟨b.mem, b.ords.map Ord.raw, b.prog.map Deed.raw⟩
structure OrdsOk (cells : Nat) (os : List Ord) : Prop where
  ok : ∀ i o, os[i]? = some o → 1 ≤ o.many ∧ o.many ≤ 8 ∧ o.src + o.many ≤ cells ∧ o.dst + o.many ≤ cells ∧ ∀ l, o.later = some l → i < l ∧ l < os.length
def Deed.Ok (cells n : Nat) : Deed → Prop
  | .set c k => c < cells ∧ k ≤ 9
  | .add c o => c < cells ∧ o < cells
  | .say c => c < cells
  | .start k => k < n
  | .wait => True
  | .clean l => l < cells / 4
  | .drop l => l < cells / 4
structure Good (b : Bd) : Prop where
  four : b.mem.length % 4 = 0
  lines : 1 ≤ b.mem.length / 4 ∧ b.mem.length / 4 ≤ 4
  digits : ∀ n ∈ b.mem, 0 ≤ n ∧ n ≤ 9
  ords : b.ords.length ≤ 4
  ordsOk : OrdsOk b.mem.length b.ords
  len : b.prog.length ≤ 60
  deeds : ∀ d ∈ b.prog, d.Ok b.mem.length b.ords.length
  starts : (b.prog.filter Deed.isStart).length ≤ 3
theorem deedOk_raw {cells n : Nat} : ∀ {d : Deed}, d.Ok cells n → deedOk cells n d.raw = true
  | .set c k, h => by
    have h1 : c < cells ∧ k ≤ 9 := h
    simp [deedOk, Deed.raw, ofS_inj]
    omega
  | .add c o, h => by
    have h1 : c < cells ∧ o < cells := h
    simp [deedOk, Deed.raw, ofS_inj]
    omega
  | .say c, h => by
    have h1 : c < cells := h
    simp [deedOk, Deed.raw, ofS_inj]
    omega
  | .start k, h => by
    have h1 : k < n := h
    simp [deedOk, Deed.raw, ofS_inj]
    omega
  | .wait, h => by simp [deedOk, Deed.raw, ofS_inj]
  | .clean l, h => by
    have h1 : l < cells / 4 := h
    simp [deedOk, Deed.raw, ofS_inj]
    omega
  | .drop l, h => by
    have h1 : l < cells / 4 := h
    simp [deedOk, Deed.raw, ofS_inj]
    omega
theorem isStart_raw : ∀ d : Deed, BC.isStart d.raw = d.isStart
  | .set _ _ => by simp [BC.isStart, Deed.raw, Deed.isStart, ofS_inj]
  | .add _ _ => by simp [BC.isStart, Deed.raw, Deed.isStart, ofS_inj]
  | .say _ => by simp [BC.isStart, Deed.raw, Deed.isStart, ofS_inj]
  | .start _ => by simp [BC.isStart, Deed.raw, Deed.isStart, ofS_inj]
  | .wait => by simp [BC.isStart, Deed.raw, Deed.isStart, ofS_inj]
  | .clean _ => by simp [BC.isStart, Deed.raw, Deed.isStart, ofS_inj]
  | .drop _ => by simp [BC.isStart, Deed.raw, Deed.isStart, ofS_inj]
theorem Good.raw {b : Bd} (g : Good b) : RGood b.raw where
  mem := by
    unfold memFault
    rw [if_neg (by
      have h1 := g.four
      have h2 := g.lines
      rintro (h | h)
      · exact h h1
      · exact h h2), List.findIdx?_eq_none_iff]
    intro n hn
    have := g.digits n hn
    simp [digit, this]
  ords := by
    refine ⟨by simpa using g.ords, fun i o ho => ?_⟩
    obtain ⟨o', h1, rfl⟩ := map_at' ho
    have h2 := g.ordsOk.ok i o' h1
    obtain ⟨a1, a2, a3, a4, a5⟩ := h2
    unfold ordOk
    simp only [List.length_map, Ord.raw, Bool.and_eq_true, decide_eq_true_eq]
    refine ⟨⟨⟨by omega, by omega⟩, by omega⟩, ?_⟩
    cases e : o'.later with
    | none => rfl
    | some l =>
      have := a5 l e
      simp only [oN, decide_eq_true_eq]
      omega
  prog := by
    refine ⟨by simpa using g.len, fun d hd => ?_, ?_⟩
    · obtain ⟨d', h1, rfl⟩ := List.mem_map.mp hd
      simp only [List.length_map]
      exact deedOk_raw (g.deeds d' h1)
    · have := g.starts
      simp only [List.filter_map, List.length_map]
      have e : (BC.isStart ∘ Deed.raw) = Deed.isStart := funext isStart_raw
      rw [e]
      exact this

/-! ### moves -/
structure Mv where
  src : Nat
  dst : Nat
  bell : Option Nat
  deriving DecidableEq
abbrev pyMv (m : Mv) : PyData := .tuple [.int (m.src : Int), .int (m.dst : Int), pyOpt (oN m.bell)]
def mvAt (o : Ord) (k s : Nat) : Mv := ⟨o.src + s, o.dst + s, if s + 1 = o.many then some k else none⟩
def movesOne (o : Ord) (k : Nat) : List Mv := (List.range o.many).map (mvAt o k)
def movesFrom (os : List Ord) : Nat → Nat → List Mv
  | 0, _ => []
  | n + 1, k => match os[k]? with
    | none => []
    | some o => movesOne o k ++ match o.later with
      | none => []
      | some l => movesFrom os n l
def movesOf (os : List Ord) (k : Nat) : List Mv := movesFrom os os.length k
def movesO (os : List Ord) : Option Nat → List Mv
  | none => []
  | some k => movesOf os k
theorem movesFrom_fuel {cells : Nat} {os : List Ord} (g : OrdsOk cells os) : ∀ (n m k : Nat), os.length ≤ n + k → os.length ≤ m + k → movesFrom os n k = movesFrom os m k
  | 0, 0, _, _, _ => rfl
  | 0, m + 1, k, h, _ => by
    have e : os[k]? = none := List.getElem?_eq_none (by omega)
    simp [movesFrom, e]
  | n + 1, 0, k, _, h => by
    have e : os[k]? = none := List.getElem?_eq_none (by omega)
    simp [movesFrom, e]
  | n + 1, m + 1, k, h1, h2 => by
    cases e : os[k]? with
    | none => simp [movesFrom, e]
    | some o =>
      simp only [movesFrom, e]
      cases e2 : o.later with
      | none => rfl
      | some l =>
        have := (g.ok k o e).2.2.2.2 l e2
        simp only
        rw [movesFrom_fuel g n m l (by omega) (by omega)]
theorem movesO_some {cells : Nat} {os : List Ord} (g : OrdsOk cells os) {k : Nat} {o : Ord} (h : os[k]? = some o) : movesO os (some k) = movesOne o k ++ movesO os o.later := by
  show movesFrom os os.length k = _
  have hk : k < os.length := (List.getElem?_eq_some_iff.mp h).1
  cases hn : os.length with
  | zero => omega
  | succ n =>
    simp only [movesFrom, h]
    cases e2 : o.later with
    | none => rfl
    | some l =>
      have := (g.ok k o h).2.2.2.2 l e2
      simp only [movesO, movesOf]
      rw [movesFrom_fuel g n os.length l (by omega) (by omega)]
theorem movesOne_len (o : Ord) (k : Nat) : (movesOne o k).length = o.many := by simp [movesOne]
theorem moves_in {cells : Nat} {os : List Ord} (g : OrdsOk cells os) : ∀ (n k : Nat) (m : Mv), m ∈ movesFrom os n k → m.src < cells ∧ m.dst < cells
  | 0, _, _, h => by simp [movesFrom] at h
  | n + 1, k, m, h => by
    cases e : os[k]? with
    | none => simp [movesFrom, e] at h
    | some o =>
      simp only [movesFrom, e] at h
      obtain ⟨a1, a2, a3, a4, a5⟩ := g.ok k o e
      rcases List.mem_append.mp h with h | h
      · simp only [movesOne, List.mem_map, List.mem_range] at h
        obtain ⟨s, hs, rfl⟩ := h
        simp only [mvAt]
        omega
      · cases e2 : o.later with
        | none => simp [e2] at h
        | some l =>
          simp only [e2] at h
          exact moves_in g n l m h
theorem moves_len {cells : Nat} {os : List Ord} (g : OrdsOk cells os) : ∀ (n k : Nat), (movesFrom os n k).length ≤ 8 * n
  | 0, _ => by simp [movesFrom]
  | n + 1, k => by
    cases e : os[k]? with
    | none => simp [movesFrom, e]
    | some o =>
      obtain ⟨a1, a2, a3, a4, a5⟩ := g.ok k o e
      simp only [movesFrom, e, List.length_append, movesOne_len]
      cases e2 : o.later with
      | none => simp only [List.length_nil]; omega
      | some l =>
        have := moves_len g n l
        simp only
        omega
end BC
/-! BCObj: steps about objects and dicts; the plain object. -/
namespace BC
open PySem PySem.Spec PyProof.Rows L2
theorem st_NT {A B : Prop} (h : B) : if (!true) = true then A else B := iteF h
theorem st_NF {A B : Prop} (h : A) : if (!false) = true then A else B := iteT h
theorem fr1 {H H2 : Hp} {a b : Addr} {o : HO} (f : Fr [a] H H2) (h : H b = some o) (n : b ≠ a) : H2 b = some o := f b o h (by simpa using n)
theorem ne_ins {H : Hp} {p l C dx : Addr} {fs : List (Str × V)} {xs : List V} (h1 : H p = some (.ins C dx fs)) (h2 : H l = some (.lst xs)) : p ≠ l := ne_of h1 h2 (by intro z; cases z)
def GetF (K : PySem.W.Frag) (f : Str) (x : V) (H : Hp) (Q : VK) : Prop := ∃ a C dx fs v, x = .ref a ∧ H a = some (.ins C dx fs) ∧ Cls K C ∧ NoAttr K C f ∧ fs.lookup f = some v ∧ Q v H
def SetF (K : PySem.W.Frag) (f : Str) (y x : V) (H : Hp) (R : Hp → Prop) : Prop := ∃ a C dx fs, x = .ref a ∧ H a = some (.ins C dx fs) ∧ Cls K C ∧ NoAttr K C f ∧ fs.length < 1000 ∧ R (upd H a (.ins C dx (putF f y fs)))
def CallM (C : Addr) (m : Str) (sp : Sp) (E : XK) (tr : TA) (x : V) (σ : L2.St) (H : Hp) (Q : VK) : Prop := ∃ a dx fs, x = .ref a ∧ H a = some (.ins C dx fs) ∧ fs.lookup m = none ∧ tr σ H fun vs H2 => sp (x :: vs) H2 Q E
def MakeC (C : Addr) (sp : Sp) (E : XK) (vs : List V) (H1 : Hp) (Q : VK) : Prop := ∀ x dx, H1 x = none → H1 dx = none → dx ≠ x → sp (.ref x :: vs) (upd (upd H1 dx (.own x)) x (.ins C dx [])) (fun v H2 => v = .non ∧ Q (.ref x) H2) E
section
variable {K : PySem.W.Frag} {σ : L2.St} {H H0 H1 : Hp} {D : Ends} {Q : VK} {t u : TS} {ta tb te tv : TE} {tr : TA} {i j : Int} {n : Nat} {v x y : V} {vs xs : List V} {a C dx l p : Addr} {f m : Str} {fs : List (Str × V)} {sp : Sp} {E : XK}
theorem st_fld (h : ta σ H fun x H1 => GetF K f x H1 Q) : tFld K ta f σ H Q := h
theorem st_getF (h : H a = some (.ins C dx fs)) (hc : Cls K C) (hn : NoAttr K C f) (e : fs.lookup f = some v) (q : Q v H) : GetF K f (.ref a) H Q := ⟨a, C, dx, fs, v, rfl, h, hc, hn, e, q⟩
theorem st_sfld (h : tv σ H fun y H1 => ta σ H1 fun x H2 => SetF K f y x H2 (D.nx σ)) : sFld K ta tv f D σ H := h
theorem st_setF {R : Hp → Prop} (h : H a = some (.ins C dx fs)) (hc : Cls K C) (hn : NoAttr K C f) (hl : fs.length < 1000) (q : ∀ H2, Fr [a] H H2 → Kp H H2 → H2 a = some (.ins C dx (putF f y fs)) → R H2) : SetF K f y (.ref a) H R :=
  ⟨a, C, dx, fs, rfl, h, hc, hn, hl, q _ (Fr.mut (List.mem_singleton.mpr rfl) (Fr.refl _ _)) (Kp.mut (nt_of h trivial) (Kp.refl _)) upd_same⟩
theorem st_meth (h : ta σ H fun x H1 => CallM C m sp E tr x σ H1 Q) : tMeth C m sp [] E ta tr σ H Q := by
  show ta σ H fun x H1 => ∃ a dx fs, x = .ref a ∧ H1 a = some (.ins C dx fs) ∧ fs.lookup m = none ∧ tr σ H1 fun vs H2 => sp (x :: (vs ++ [])) H2 Q E
  unfold CallM at h
  simpa only [List.append_nil] using h
theorem st_callM (h : H a = some (.ins C dx fs)) (e : fs.lookup m = none) (q : tr σ H fun vs H2 => sp (.ref a :: vs) H2 Q E) : CallM C m sp E tr (.ref a) σ H Q := ⟨a, dx, fs, rfl, h, e, q⟩
theorem st_make (h : tr σ H fun vs H1 => MakeC C sp E vs H1 Q) : tMake C sp [] E tr σ H Q := by
  show tr σ H fun vs H1 => ∀ x dx, H1 x = none → H1 dx = none → dx ≠ x → sp (.ref x :: (vs ++ [])) (upd (upd H1 dx (.own x)) x (.ins C dx [])) (fun v H2 => v = .non ∧ Q (.ref x) H2) E
  unfold MakeC at h
  simpa only [List.append_nil] using h
theorem st_makeC (k : ∀ x dx H2, H x = none → Ex H H2 → H2 x = some (.ins C dx []) → sp (.ref x :: vs) H2 (fun v H3 => v = .non ∧ Q (.ref x) H3) E) : MakeC C sp E vs H Q :=
  fun x dx nx nd ne => k x dx _ nx ((Ex.new nd).trans (Ex.new (by rw [upd_ne (Ne.symm ne)]; exact nx))) upd_same
/-- o.f += e -/
def AugF (K : PySem.W.Frag) (tv : TE) (rd : R2) (f : Str) (D : Ends) (x : V) (σ : L2.St) (H1 : Hp) : Prop := ∃ a C dx fs v, x = .ref a ∧ H1 a = some (.ins C dx fs) ∧ Cls K C ∧ NoAttr K C f ∧ fs.lookup f = some v ∧
  tv σ H1 fun u H2 => rd v u H2 fun r H3 => ∃ dy gs, H3 a = some (.ins C dy gs) ∧ gs.length < 1000 ∧ D.nx σ (upd H3 a (.ins C dy (putF f r gs)))
theorem st_fldaug {rd : R2} (h : ta σ H fun x H1 => AugF K tv rd f D x σ H1) : sFldAug K ta tv rd f D σ H := h
/-- .. of an int, by a constant -/
theorem st_augF (h : H a = some (.ins C dx fs)) (hc : Cls K C) (hn : NoAttr K C f) (e : fs.lookup f = some (.int i)) (hl : fs.length < 1000) (q : ∀ H2, Fr [a] H H2 → Kp H H2 → H2 a = some (.ins C dx (putF f (.int (i + j)) fs)) → D.nx σ H2) :
    AugF K (tC (.int j)) rAdd f D (.ref a) σ H :=
  ⟨a, C, dx, fs, _, rfl, h, hc, hn, e, i, j, rfl, rfl, dx, fs, h, hl, q _ (Fr.mut (List.mem_singleton.mpr rfl) (Fr.refl _ _)) (Kp.mut (nt_of h trivial) (Kp.refl _)) upd_same⟩
/-- xs[i] = e -/
def SetI (o i v : V) (H : Hp) (R : Hp → Prop) : Prop := rSetL o i v H R
theorem st_gsub {to ti : TE} {QS : L2.St → Hp → Prop} (h : to σ H fun o H1 => ti σ H1 fun i H2 => SetI o i v H2 (fun H3 => QS σ H3)) : gSub to ti rSetL v σ H QS := h
theorem ixN_nat {m k : Nat} (hk : k < m) : ixN m (k : Int) = some k := by
  unfold ixN
  rw [if_pos (by omega), if_pos (by omega), Int.toNat_natCast]
theorem st_setI {k : Nat} {R : Hp → Prop} (h : H l = some (.lst xs)) (hk : k < xs.length) (q : ∀ H2, Fr [l] H H2 → Kp H H2 → H2 l = some (.lst (xs.set k v)) → R H2) : SetI (.ref l) (.int (k : Int)) v H R :=
  ⟨l, xs, k, k, rfl, rfl, h, ixN_nat hk, q _ (Fr.mut (List.mem_singleton.mpr rfl) (Fr.refl _ _)) (Kp.mut (nt_of h trivial) (Kp.refl _)) upd_same⟩
/-! dicts -/
def DGetP (x y : V) (H2 : Hp) (Q : VK) : Prop := ∃ a v, x = .ref a ∧ DGet H2 a y (some v) ∧ Q v H2
theorem st_dget {td ty : TE} (h : td σ H fun x H1 => ty σ H1 fun y H2 => DGetP x y H2 Q) : tDGet td ty σ H Q := h
theorem st_dgetI {kvs : List (Key × V)} (h : H a = some (.dK kvs)) (e : valV kvs (Sum.inl i) = some v) (q : Q v H) : DGetP (.ref a) (.int i) H Q := ⟨a, v, rfl, by rw [← e]; exact DGet.k (k := Sum.inl i) h, q⟩
theorem st_dgetS {kvs : List (Key × V)} {s : Str} (h : H a = some (.dK kvs)) (e : valV kvs (Sum.inr s) = some v) (q : Q v H) : DGetP (.ref a) (.str s) H Q := ⟨a, v, rfl, by rw [← e]; exact DGet.k (k := Sum.inr s) h, q⟩
def DInP (y x : V) (H2 : Hp) (Q : VK) : Prop := ∃ a o, x = .ref a ∧ DGet H2 a y o ∧ Q (.bl o.isSome) H2
def DNotInP (y x : V) (H2 : Hp) (Q : VK) : Prop := ∃ a o, x = .ref a ∧ DGet H2 a y o ∧ Q (.bl (!o.isSome)) H2
theorem st_din {td ty : TE} (h : ty σ H fun y H1 => td σ H1 fun x H2 => DInP y x H2 Q) : tDIn ty td σ H Q := h
theorem st_dnotin {td ty : TE} (h : ty σ H fun y H1 => td σ H1 fun x H2 => DNotInP y x H2 Q) : tDNotIn ty td σ H Q := h
theorem st_dinI {kvs : List (Key × V)} (h : H a = some (.dK kvs)) (q : Q (.bl (valV kvs (Sum.inl i)).isSome) H) : DInP (.int i) (.ref a) H Q := ⟨a, _, rfl, DGet.k (k := Sum.inl i) h, q⟩
theorem st_dinS {kvs : List (Key × V)} {s : Str} (h : H a = some (.dK kvs)) (q : Q (.bl (valV kvs (Sum.inr s)).isSome) H) : DInP (.str s) (.ref a) H Q := ⟨a, _, rfl, DGet.k (k := Sum.inr s) h, q⟩
theorem st_dnotinI {kvs : List (Key × V)} (h : H a = some (.dK kvs)) (q : Q (.bl (!(valV kvs (Sum.inl i)).isSome)) H) : DNotInP (.int i) (.ref a) H Q := ⟨a, _, rfl, DGet.k (k := Sum.inl i) h, q⟩
def DPutP (v x y : V) (H3 : Hp) (R : Hp → Prop) : Prop := ∃ a H4, x = .ref a ∧ DPut H3 a y v H4 ∧ R H4
theorem st_dput {td ty tv : TE} (h : tv σ H fun v H1 => td σ H1 fun x H2 => ty σ H2 fun y H3 => DPutP v x y H3 (D.nx σ)) : sDPut td ty tv D σ H := h
theorem st_dputK {k : Key} {kvs : List (Key × V)} {R : Hp → Prop} (h : H a = some (.dK kvs)) (hy : y = kV k) (hl : kvs.length < 100000) (q : ∀ H2, Fr [a] H H2 → Kp H H2 → H2 a = some (.dK (putK kvs k v)) → R H2) : DPutP v (.ref a) y H R :=
  ⟨a, _, rfl, by rw [hy]; exact DPut.k h (sz_lt hl), q _ (Fr.mut (List.mem_singleton.mpr rfl) (Fr.refl _ _)) (Kp.mut (nt_of h trivial) (Kp.refl _)) upd_same⟩
theorem st_dnewK (q : ∀ d H2, H d = none → Ex H H2 → H2 d = some (.dK []) → Q (.ref d) H2) : tDNewK σ H Q := fun p hp => q p _ hp (Ex.new hp) upd_same
/-! deep == -/
theorem st_eqD {d e : PyData} (hx : Dp K H x d) (hy : Dp K H y e) (sd : SeqAt.shaped d = true) (se : SeqAt.shaped e = true) (q : Q (.bl (PyData.eqv d e)) H) : rEqD K x y H Q := ⟨d, e, hx, hy, sd, se, q⟩
theorem st_neD {d e : PyData} (hx : Dp K H x d) (hy : Dp K H y e) (sd : SeqAt.shaped d = true) (se : SeqAt.shaped e = true) (q : Q (.bl (!PyData.eqv d e)) H) : rNeD K x y H Q := ⟨d, e, hx, hy, sd, se, q⟩
end
/-! ### seen pairs -/
abbrev pySeen (s : Nat × Int) : PyData := .tuple [.int (s.1 : Int), .int s.2]
/-! ### the plain object -/
structure PS where
  mem : List Int
  reads : List (Nat × Int)
  fetches : List (Nat × Int)
  said : List Int
def plainF (ml rl fl sl : Addr) : List (Str × V) := [("memory", .ref ml), ("reads", .ref rl), ("fetches", .ref fl), ("said", .ref sl)]
theorem lk_plain_memory {a b c d : Addr} : (plainF a b c d).lookup ("memory" : Str) = some (.ref a) := by simp [plainF, List.lookup, ofS_beq]
theorem lk_plain_reads {a b c d : Addr} : (plainF a b c d).lookup ("reads" : Str) = some (.ref b) := by simp [plainF, List.lookup, ofS_beq]
theorem lk_plain_fetches {a b c d : Addr} : (plainF a b c d).lookup ("fetches" : Str) = some (.ref c) := by simp [plainF, List.lookup, ofS_beq]
theorem lk_plain_said {a b c d : Addr} : (plainF a b c d).lookup ("said" : Str) = some (.ref d) := by simp [plainF, List.lookup, ofS_beq]
theorem lk_plain_look {a b c d : Addr} : (plainF a b c d).lookup ("look" : Str) = none := by simp [plainF, List.lookup, ofS_beq]
theorem lk_plain_does {a b c d : Addr} : (plainF a b c d).lookup ("does" : Str) = none := by simp [plainF, List.lookup, ofS_beq]
structure PlainAt (C : Addr) (H : Hp) (p dx ml rl fl sl : Addr) (S : PS) : Prop where
  ob : H p = some (.ins C dx (plainF ml rl fl sl))
  me : H ml = some (.lst (S.mem.map V.int))
  re : ∃ xs, H rl = some (.lst xs) ∧ ImL H (S.reads.map pySeen) xs
  fe : ∃ xs, H fl = some (.lst xs) ∧ ImL H (S.fetches.map pySeen) xs
  sa : H sl = some (.lst (S.said.map V.int))
  nd : [ml, rl, fl, sl].Nodup
theorem PlainAt.ex {C : Addr} {H H' : Hp} {p dx ml rl fl sl : Addr} {S : PS} (e : Ex H H') (h : PlainAt C H p dx ml rl fl sl S) : PlainAt C H' p dx ml rl fl sl S := by
  obtain ⟨x1, a1, b1⟩ := h.re
  obtain ⟨x2, a2, b2⟩ := h.fe
  exact ⟨e _ _ h.ob, e _ _ h.me, ⟨x1, e _ _ a1, b1.ex e⟩, ⟨x2, e _ _ a2, b2.ex e⟩, e _ _ h.sa, h.nd⟩
/-- what Plain's methods do -/
def PS.set (S : PS) (c : Nat) (n : Int) : PS := { S with mem := S.mem.set c n }
def PS.look (S : PS) (c : Nat) : PS := { S with reads := S.reads ++ [(c, S.mem.getD c 0)] }
def PS.move (S : PS) (m : Mv) : PS := { S with fetches := S.fetches ++ [(m.src, S.mem.getD m.src 0)], mem := S.mem.set m.dst (S.mem.getD m.src 0) }
def PS.deed (os : List Ord) (S : PS) : Deed → PS
  | .set c n => S.set c (n : Int)
  | .add c o => ((S.look c).look o).set c ((S.mem.getD c 0 + S.mem.getD o 0) % 10)
  | .say c => { S.look c with said := S.said ++ [S.mem.getD c 0] }
  | .start k => (movesOf os k).foldl PS.move S
  | _ => S
def PS.init (m : List Int) : PS := ⟨m, [], [], []⟩
def plainOf (b : Bd) : PS := b.prog.foldl (PS.deed b.ords) (PS.init b.mem)
end BC
namespace BC
open PySem PySem.Spec PyProof.Rows L2
theorem st_sT {a : String} {A B : Prop} (h : A) : if decide (Str.ofString a = Str.ofString a) = true then A else B := by
  rw [decide_eq_true rfl]
  exact iteT h
theorem st_sF {a b : String} {A B : Prop} (ne : a ≠ b) (h : B) : if decide (Str.ofString a = Str.ofString b) = true then A else B := by
  rw [decide_eq_false fun z => ne (ofS_inj.mp z)]
  exact iteF h
theorem st_oT1 {a : String} {p A B : Prop} [Decidable p] (h : A) : if decide (Str.ofString a = Str.ofString a ∨ p) = true then A else B := by
  rw [decide_eq_true (.inl rfl)]
  exact iteT h
theorem st_oT2 {a : String} {p A B : Prop} [Decidable p] (h : A) : if decide (p ∨ Str.ofString a = Str.ofString a) = true then A else B := by
  rw [decide_eq_true (.inr rfl)]
  exact iteT h
theorem st_oF {a b c : String} {A B : Prop} (n1 : a ≠ b) (n2 : a ≠ c) (h : B) : if decide (Str.ofString a = Str.ofString b ∨ Str.ofString a = Str.ofString c) = true then A else B := by
  rw [decide_eq_false fun z => z.elim (fun z => n1 (ofS_inj.mp z)) fun z => n2 (ofS_inj.mp z)]
  exact iteF h
theorem st_intS {a : String} {H : Hp} {Q : VK} (h : Q (.int 1) H) : rInt1 [.bl (decide (Str.ofString a = Str.ofString a))] H Q := .inr ⟨_, rfl, by rw [decide_eq_true rfl]; exact h⟩
theorem st_intN {a b : String} {H : Hp} {Q : VK} (n : a ≠ b) (h : Q (.int 0) H) : rInt1 [.bl (decide (Str.ofString a = Str.ofString b))] H Q := .inr ⟨_, rfl, by rw [decide_eq_false fun z => n (ofS_inj.mp z)]; exact h⟩
theorem getD_at {ns : List Int} {c : Nat} (h : c < ns.length) : ns[c]? = some (ns.getD c 0) := by
  rw [List.getD_eq_getElem?_getD, List.getElem?_eq_getElem h]
  rfl
/-! walks -/
def WalkL (K : PySem.W.Frag) (g : TG) (tb : TS) (D : Ends) (σ : L2.St) (x : V) (H1 : Hp) : Prop := ∃ a, x = .ref a ∧ (∃ xs, SqL K H1 a xs) ∧ ∃ W : Nat → Nat → L2.St → Hp → Prop, (∃ m, W 0 m σ H1) ∧ ∀ i m σ H, W i m σ H →
  ((Itl K a).stop i H ∧ D.nx σ H) ∨ ((Itl K a).go i H ∧ ∃ N : L2.St → Hp → Prop, (∀ σ' H', N σ' H' → ∃ m', m' < m ∧ W (i + 1) m' σ' H') ∧ ∀ x H', (Itl K a).yld i H x H' → g x σ H' fun σ2 H2 => tb { D with nx := N, ct := N, bk := D.nx } σ2 H2)
def WalkT (K : PySem.W.Frag) (g : TG) (tb : TS) (D : Ends) (σ : L2.St) (x : V) (H1 : Hp) : Prop := ∃ a, x = .ref a ∧ (∃ xs, SqT K H1 a xs) ∧ ∃ W : Nat → Nat → L2.St → Hp → Prop, (∃ m, W 0 m σ H1) ∧ ∀ i m σ H, W i m σ H →
  ((Itt K a).stop i H ∧ D.nx σ H) ∨ ((Itt K a).go i H ∧ ∃ N : L2.St → Hp → Prop, (∀ σ' H', N σ' H' → ∃ m', m' < m ∧ W (i + 1) m' σ' H') ∧ ∀ x H', (Itt K a).yld i H x H' → g x σ H' fun σ2 H2 => tb { D with nx := N, ct := N, bk := D.nx } σ2 H2)
def WalkR (g : TG) (tb : TS) (D : Ends) (σ : L2.St) (vs : List V) (H1 : Hp) : Prop := ∃ j : Int, vs = [.int j] ∧ -(2 ^ 62) ≤ j ∧ j < 2 ^ 62 ∧ ∃ W : Nat → Nat → L2.St → Hp → Prop, (∃ m, W 0 m σ H1) ∧ ∀ i m σ H, W i m σ H →
  ((Itr 0 j.toNat).stop i H ∧ D.nx σ H) ∨ ((Itr 0 j.toNat).go i H ∧ ∃ N : L2.St → Hp → Prop, (∀ σ' H', N σ' H' → ∃ m', m' < m ∧ W (i + 1) m' σ' H') ∧ ∀ x H', (Itr 0 j.toNat).yld i H x H' → g x σ H' fun σ2 H2 => tb { D with nx := N, ct := N, bk := D.nx } σ2 H2)
section
variable {K : PySem.W.Frag} {σ : L2.St} {H H0 H1 : Hp} {D : Ends} {te : TE} {ta : TA} {g : TG} {tb : TS} {x : V} {l : Addr} {xs : List V} {ds : List PyData}
theorem st_wL (h : te σ H fun x H1 => WalkL K g tb D σ x H1) : tFor (iList K te) g tb D σ H := h
theorem st_wT (h : te σ H fun x H1 => WalkT K g tb D σ x H1) : tFor (iTup K te) g tb D σ H := h
theorem st_wR (h : ta σ H fun vs H1 => WalkR g tb D σ vs H1) : tFor (iRng1 ta) g tb D σ H := h
theorem st_walkL (h : H l = some (.lst xs)) (Pv : Nat → L2.St → Hp → Prop) (h0 : Pv 0 σ H) (hk : ∀ m σ' H', Pv m σ' H' → H' l = some (.lst xs))
    (hs : ∀ m v σ' H', xs[m]? = some v → Pv m σ' H' → g v σ' H' fun σ2 H2 => tb { D with nx := Pv (m + 1), ct := Pv (m + 1), bk := D.nx } σ2 H2) (hd : ∀ σ' H', Pv xs.length σ' H' → D.nx σ' H') : WalkL K g tb D σ (.ref l) H :=
  ⟨l, rfl, ⟨xs, SqL.of h⟩, for_list (K := K) (a := l) (xs := xs) Pv h0 (fun m σ' H' _ p => SqL.of (hk m σ' H' p)) hs hd⟩
theorem st_walkT (h : Im H0 (.tuple ds) x) (k : Kp H0 H) (Pv : Nat → L2.St → Hp → Prop) (h0 : Pv 0 σ H) (hk : ∀ m σ' H', Pv m σ' H' → Kp H0 H')
    (hs : ∀ m d v σ' H', ds[m]? = some d → Pv m σ' H' → Im H' d v → g v σ' H' fun σ2 H2 => tb { D with nx := Pv (m + 1), ct := Pv (m + 1), bk := D.nx } σ2 H2) (hd : ∀ σ' H', Pv ds.length σ' H' → D.nx σ' H') : WalkT K g tb D σ x H := by
  obtain ⟨a, xs, rfl, h1, h2⟩ := h.tup
  refine ⟨a, rfl, ⟨xs, SqT.of (k a xs h1)⟩, for_tup (K := K) (a := a) (xs := xs) Pv h0 (fun m σ' H' _ p => SqT.of (hk m σ' H' p a xs h1)) (fun m v σ' H' hv p => ?_) fun σ' H' p => hd σ' H' (h2.length ▸ p)⟩
  obtain ⟨d, e1, e2⟩ := h2.get' hv
  exact hs m d v σ' H' e1 p (e2.kp (hk m σ' H' p))
theorem st_walkR {n : Nat} (hn : n ≤ 1000000) (Pv : Nat → L2.St → Hp → Prop) (h0 : Pv 0 σ H)
    (hs : ∀ (m : Nat) σ' H', m < n → Pv m σ' H' → g (.int (m : Int)) σ' H' fun σ2 H2 => tb { D with nx := Pv (m + 1), ct := Pv (m + 1), bk := D.nx } σ2 H2) (hd : ∀ σ' H', Pv n σ' H' → D.nx σ' H') : WalkR g tb D σ [.int (n : Int)] H := by
  refine ⟨(n : Int), rfl, by omega, by omega, for_range (lo := 0) (n := ((n : Int)).toNat) Pv h0 (fun m σ' H' hm p => ?_) (by simpa using hd)⟩
  have e0 : (0 : Int) + (m : Int) = (m : Int) := Int.zero_add _
  rw [e0]
  exact hs m σ' H' (by omega) p
end
/-! ### the plain object's changes -/
section
variable {C p dx ml rl fl sl t : Addr} {H H2 : Hp} {S : PS} {xs : List V} {c : Nat} {n : Int}
theorem PlainAt.addRead (h : PlainAt C H p dx ml rl fl sl S) (hr : H rl = some (.lst xs)) (ir : ImL H (S.reads.map pySeen) xs) (f : Fr [rl] H H2) (k : Kp H H2) (h2 : H2 rl = some (.lst (xs ++ [.ref t]))) (ht : H2 t = some (.tup [.int (c : Int), .int n])) :
    PlainAt C H2 p dx ml rl fl sl { S with reads := S.reads ++ [(c, n)] } := by
  obtain ⟨ob, me, _, ⟨x2, a2, b2⟩, sa, nd⟩ := h
  have q := nd
  simp only [List.nodup_cons, List.mem_cons, List.not_mem_nil, or_false, not_or, List.mem_singleton] at q
  refine ⟨fr1 f ob (ne_ins ob hr), fr1 f me (fun z => q.1.1 z), ⟨_, h2, ?_⟩, ⟨x2, fr1 f a2 (fun z => q.2.1.1 z.symm), b2.kp k⟩, fr1 f sa (fun z => q.2.1.2 z.symm), nd⟩
  rw [List.map_append]
  exact (ir.kp k).append (iml_cons (im_tup ht (iml_cons im_int (iml_cons im_int iml_nil))) iml_nil)
theorem PlainAt.addFetch (h : PlainAt C H p dx ml rl fl sl S) (hr : H fl = some (.lst xs)) (ir : ImL H (S.fetches.map pySeen) xs) (f : Fr [fl] H H2) (k : Kp H H2) (h2 : H2 fl = some (.lst (xs ++ [.ref t]))) (ht : H2 t = some (.tup [.int (c : Int), .int n])) :
    PlainAt C H2 p dx ml rl fl sl { S with fetches := S.fetches ++ [(c, n)] } := by
  obtain ⟨ob, me, ⟨x2, a2, b2⟩, _, sa, nd⟩ := h
  have q := nd
  simp only [List.nodup_cons, List.mem_cons, List.not_mem_nil, or_false, not_or, List.mem_singleton] at q
  refine ⟨fr1 f ob (ne_ins ob hr), fr1 f me (fun z => q.1.2.1 z), ⟨x2, fr1 f a2 (fun z => q.2.1.1 z), b2.kp k⟩, ⟨_, h2, ?_⟩, fr1 f sa (fun z => q.2.2.1 z.symm), nd⟩
  rw [List.map_append]
  exact (ir.kp k).append (iml_cons (im_tup ht (iml_cons im_int (iml_cons im_int iml_nil))) iml_nil)
theorem PlainAt.addSaid (h : PlainAt C H p dx ml rl fl sl S) (f : Fr [sl] H H2) (k : Kp H H2) (h2 : H2 sl = some (.lst (S.said.map V.int ++ [.int n]))) :
    PlainAt C H2 p dx ml rl fl sl { S with said := S.said ++ [n] } := by
  obtain ⟨ob, me, ⟨x1, a1, b1⟩, ⟨x2, a2, b2⟩, sa, nd⟩ := h
  have q := nd
  simp only [List.nodup_cons, List.mem_cons, List.not_mem_nil, or_false, not_or, List.mem_singleton] at q
  refine ⟨fr1 f ob (ne_ins ob sa), fr1 f me (fun z => q.1.2.2 z), ⟨x1, fr1 f a1 (fun z => q.2.1.2 z), b1.kp k⟩, ⟨x2, fr1 f a2 (fun z => q.2.2.1 z), b2.kp k⟩, ?_, nd⟩
  rw [List.map_append]
  exact h2
theorem PlainAt.setMem (h : PlainAt C H p dx ml rl fl sl S) (f : Fr [ml] H H2) (k : Kp H H2) (h2 : H2 ml = some (.lst ((S.mem.map V.int).set c (.int n)))) :
    PlainAt C H2 p dx ml rl fl sl { S with mem := S.mem.set c n } := by
  obtain ⟨ob, me, ⟨x1, a1, b1⟩, ⟨x2, a2, b2⟩, sa, nd⟩ := h
  have q := nd
  simp only [List.nodup_cons, List.mem_cons, List.not_mem_nil, or_false, not_or, List.mem_singleton] at q
  refine ⟨fr1 f ob (ne_ins ob me), ?_, ⟨x1, fr1 f a1 (fun z => q.1.1 z.symm), b1.kp k⟩, ⟨x2, fr1 f a2 (fun z => q.1.2.1 z.symm), b2.kp k⟩, fr1 f sa (fun z => q.1.2.2 z.symm), nd⟩
  rw [h2, List.map_set]
end
theorem PS.mem_len (os : List Ord) (S : PS) : ∀ d : Deed, (PS.deed os S d).mem.length = S.mem.length
  | .set c n => by simp [PS.deed, PS.set]
  | .add c o => by simp [PS.deed, PS.set, PS.look]
  | .say c => by simp [PS.deed, PS.look]
  | .start k => by
    show ((movesOf os k).foldl PS.move S).mem.length = S.mem.length
    generalize movesOf os k = ms
    induction ms generalizing S with
    | nil => rfl
    | cons m ms ih =>
      rw [List.foldl_cons, ih]
      simp [PS.move]
  | .wait => rfl
  | .clean _ => rfl
  | .drop _ => rfl
/-- sizes -/
structure PS.Small (n : Nat) (S : PS) : Prop where
  r : S.reads.length ≤ 40 * n
  f : S.fetches.length ≤ 40 * n
  s : S.said.length ≤ 40 * n
theorem move_sizes (ms : List Mv) : ∀ S : PS, (ms.foldl PS.move S).reads = S.reads ∧ (ms.foldl PS.move S).said = S.said ∧ (ms.foldl PS.move S).fetches.length = S.fetches.length + ms.length ∧ (ms.foldl PS.move S).mem.length = S.mem.length := by
  induction ms with
  | nil => intro S; exact ⟨rfl, rfl, rfl, rfl⟩
  | cons m ms ih =>
    intro S
    obtain ⟨h1, h2, h3, h4⟩ := ih (S.move m)
    rw [List.foldl_cons]
    refine ⟨h1.trans rfl, h2.trans rfl, ?_, ?_⟩
    · rw [h3]
      simp [PS.move]
      omega
    · rw [h4]
      simp [PS.move]
theorem PS.small_step {cells : Nat} {os : List Ord} (g : OrdsOk cells os) (h4 : os.length ≤ 4) {n : Nat} {S : PS} (h : S.Small n) : ∀ d : Deed, (PS.deed os S d).Small (n + 1)
  | .set c k => ⟨by have := h.r; simp [PS.deed, PS.set]; omega, by have := h.f; simp [PS.deed, PS.set]; omega, by have := h.s; simp [PS.deed, PS.set]; omega⟩
  | .add c o => ⟨by have := h.r; simp [PS.deed, PS.set, PS.look]; omega, by have := h.f; simp [PS.deed, PS.set, PS.look]; omega, by have := h.s; simp [PS.deed, PS.set, PS.look]; omega⟩
  | .say c => ⟨by have := h.r; simp [PS.deed, PS.look]; omega, by have := h.f; simp [PS.deed, PS.look]; omega, by have := h.s; simp [PS.deed, PS.look]; omega⟩
  | .start k => by
    obtain ⟨h1, h2, h3, _⟩ := move_sizes (movesOf os k) S
    have hl : (movesOf os k).length ≤ 8 * os.length := moves_len g _ _
    have a := h.r
    have b := h.f
    have c := h.s
    refine ⟨?_, ?_, ?_⟩
    · show ((movesOf os k).foldl PS.move S).reads.length ≤ _
      rw [h1]; omega
    · show ((movesOf os k).foldl PS.move S).fetches.length ≤ _
      rw [h3]; omega
    · show ((movesOf os k).foldl PS.move S).said.length ≤ _
      rw [h2]; omega
  | .wait => ⟨by have := h.r; simp [PS.deed]; omega, by have := h.f; simp [PS.deed]; omega, by have := h.s; simp [PS.deed]; omega⟩
  | .clean _ => ⟨by have := h.r; simp [PS.deed]; omega, by have := h.f; simp [PS.deed]; omega, by have := h.s; simp [PS.deed]; omega⟩
  | .drop _ => ⟨by have := h.r; simp [PS.deed]; omega, by have := h.f; simp [PS.deed]; omega, by have := h.s; simp [PS.deed]; omega⟩
end BC

namespace BC
open PySem PySem.Spec PyProof.Rows L2
/-- the four lists -/
structure PlainL (H : Hp) (ml rl fl sl : Addr) (S : PS) : Prop where
  me : H ml = some (.lst (S.mem.map V.int))
  re : ∃ xs, H rl = some (.lst xs) ∧ ImL H (S.reads.map pySeen) xs
  fe : ∃ xs, H fl = some (.lst xs) ∧ ImL H (S.fetches.map pySeen) xs
  sa : H sl = some (.lst (S.said.map V.int))
  nd : [ml, rl, fl, sl].Nodup
theorem PlainAt.l {C : Addr} {H : Hp} {p dx ml rl fl sl : Addr} {S : PS} (h : PlainAt C H p dx ml rl fl sl S) : PlainL H ml rl fl sl S := ⟨h.me, h.re, h.fe, h.sa, h.nd⟩
theorem PlainL.ex {H H' : Hp} {ml rl fl sl : Addr} {S : PS} (e : Ex H H') (h : PlainL H ml rl fl sl S) : PlainL H' ml rl fl sl S := by
  obtain ⟨x1, a1, b1⟩ := h.re
  obtain ⟨x2, a2, b2⟩ := h.fe
  exact ⟨e _ _ h.me, ⟨x1, e _ _ a1, b1.ex e⟩, ⟨x2, e _ _ a2, b2.ex e⟩, e _ _ h.sa, h.nd⟩
section
variable {C p dx ml rl fl sl t : Addr} {H H2 : Hp} {S : PS} {xs : List V} {c : Nat} {n : Int}
theorem PlainL.addRead (h : PlainL H ml rl fl sl S) (hr : H rl = some (.lst xs)) (ir : ImL H (S.reads.map pySeen) xs) (f : Fr [rl] H H2) (k : Kp H H2) (h2 : H2 rl = some (.lst (xs ++ [.ref t]))) (ht : H2 t = some (.tup [.int (c : Int), .int n])) :
    PlainL H2 ml rl fl sl { S with reads := S.reads ++ [(c, n)] } := by
  obtain ⟨me, _, ⟨x2, a2, b2⟩, sa, nd⟩ := h
  have q := nd
  simp only [List.nodup_cons, List.mem_cons, List.not_mem_nil, or_false, not_or, List.mem_singleton] at q
  refine ⟨fr1 f me (fun z => q.1.1 z), ⟨_, h2, ?_⟩, ⟨x2, fr1 f a2 (fun z => q.2.1.1 z.symm), b2.kp k⟩, fr1 f sa (fun z => q.2.1.2 z.symm), nd⟩
  rw [List.map_append]
  exact (ir.kp k).append (iml_cons (im_tup ht (iml_cons im_int (iml_cons im_int iml_nil))) iml_nil)
theorem PlainL.addFetch (h : PlainL H ml rl fl sl S) (hr : H fl = some (.lst xs)) (ir : ImL H (S.fetches.map pySeen) xs) (f : Fr [fl] H H2) (k : Kp H H2) (h2 : H2 fl = some (.lst (xs ++ [.ref t]))) (ht : H2 t = some (.tup [.int (c : Int), .int n])) :
    PlainL H2 ml rl fl sl { S with fetches := S.fetches ++ [(c, n)] } := by
  obtain ⟨me, ⟨x2, a2, b2⟩, _, sa, nd⟩ := h
  have q := nd
  simp only [List.nodup_cons, List.mem_cons, List.not_mem_nil, or_false, not_or, List.mem_singleton] at q
  refine ⟨fr1 f me (fun z => q.1.2.1 z), ⟨x2, fr1 f a2 (fun z => q.2.1.1 z), b2.kp k⟩, ⟨_, h2, ?_⟩, fr1 f sa (fun z => q.2.2.1 z.symm), nd⟩
  rw [List.map_append]
  exact (ir.kp k).append (iml_cons (im_tup ht (iml_cons im_int (iml_cons im_int iml_nil))) iml_nil)
theorem PlainL.addSaid (h : PlainL H ml rl fl sl S) (f : Fr [sl] H H2) (k : Kp H H2) (h2 : H2 sl = some (.lst (S.said.map V.int ++ [.int n]))) :
    PlainL H2 ml rl fl sl { S with said := S.said ++ [n] } := by
  obtain ⟨me, ⟨x1, a1, b1⟩, ⟨x2, a2, b2⟩, sa, nd⟩ := h
  have q := nd
  simp only [List.nodup_cons, List.mem_cons, List.not_mem_nil, or_false, not_or, List.mem_singleton] at q
  refine ⟨fr1 f me (fun z => q.1.2.2 z), ⟨x1, fr1 f a1 (fun z => q.2.1.2 z), b1.kp k⟩, ⟨x2, fr1 f a2 (fun z => q.2.2.1 z), b2.kp k⟩, ?_, nd⟩
  rw [List.map_append]
  exact h2
theorem PlainL.setMem (h : PlainL H ml rl fl sl S) (f : Fr [ml] H H2) (k : Kp H H2) (h2 : H2 ml = some (.lst ((S.mem.map V.int).set c (.int n)))) :
    PlainL H2 ml rl fl sl { S with mem := S.mem.set c n } := by
  obtain ⟨me, ⟨x1, a1, b1⟩, ⟨x2, a2, b2⟩, sa, nd⟩ := h
  have q := nd
  simp only [List.nodup_cons, List.mem_cons, List.not_mem_nil, or_false, not_or, List.mem_singleton] at q
  refine ⟨?_, ⟨x1, fr1 f a1 (fun z => q.1.1 z.symm), b1.kp k⟩, ⟨x2, fr1 f a2 (fun z => q.1.2.1 z.symm), b2.kp k⟩, fr1 f sa (fun z => q.1.2.2 z.symm), nd⟩
  rw [h2, List.map_set]
end

theorem plain_small {cells : Nat} {os : List Ord} (g : OrdsOk cells os) (h4 : os.length ≤ 4) : ∀ (p : List Deed) (n : Nat) (S : PS), S.Small n → (p.foldl (PS.deed os) S).Small (n + p.length)
  | [], _, _, h => h
  | d :: p, n, S, h => by
    have := plain_small g h4 p (n + 1) _ (PS.small_step g h4 h d)
    rw [List.foldl_cons, List.length_cons, show n + (p.length + 1) = n + 1 + p.length by omega]
    exact this
theorem plainOf_small {b : Bd} (g : Good b) : (plainOf b).Small 60 := by
  have h := plain_small g.ordsOk g.ords b.prog 0 (PS.init b.mem) ⟨by simp [PS.init], by simp [PS.init], by simp [PS.init]⟩
  have hl := g.len
  exact ⟨Nat.le_trans h.r (by omega), Nat.le_trans h.f (by omega), Nat.le_trans h.s (by omega)⟩
theorem plain_mem_len (os : List Ord) : ∀ (p : List Deed) (S : PS), (p.foldl (PS.deed os) S).mem.length = S.mem.length
  | [], _ => rfl
  | d :: p, S => by
    rw [List.foldl_cons, plain_mem_len os p, PS.mem_len]
theorem im_ints {H : Hp} {t : Addr} {ns : List Int} (h : H t = some (.tup (ns.map V.int))) : Im H (pyMem ns) (.ref t) := im_tup h (ImL.ints.mpr rfl)
theorem putF_nil {f : Str} {v : V} : putF f v [] = [(f, v)] := rfl
end BC
/-! BCLc: comprehensions, shapes, isinstance, the box of draws. -/
namespace BC
open PySem PySem.Spec PyProof.Rows L2
/-! ### comprehensions -/
/-- the turns of a comprehension over what J gives -/
def LcT (J : It) (g : TG) (tt : TT) (te : TE) (own : List Nat) (σ : L2.St) (H0 : Hp) (Q : VK) : Prop :=
  ∀ D, H0 D = none → ∃ W : Nat → Nat → Hp → Prop, (∃ m, W 0 m (upd H0 D (.lst []))) ∧ ∀ i m Hi, W i m Hi →
    (J.stop i Hi ∧ Q (.ref D) Hi) ∨
    (J.go i Hi ∧ ∃ Nx : Hp → Prop, (∀ Hj, Nx Hj → ∃ k, k < m ∧ W (i + 1) k Hj) ∧ ∀ x Hj, J.yld i Hi x Hj →
      g x (wipe σ own) Hj fun σ2 H2 => wipe σ2 own = wipe σ own ∧ tt σ2 H2 fun b H3 =>
        if b = true then te σ2 H3 fun y H4 => ∃ acc, H4 D = some (.lst acc) ∧ acc.length < sizeLine ∧ Nx (upd H4 D (.lst (acc ++ [y])))
        else Nx H3)
def LcR (g : TG) (tt : TT) (te : TE) (vs : List Nat) (σ : L2.St) (us : List V) (H1 : Hp) (Q : VK) : Prop := ∃ j : Int, us = [.int j] ∧ -(2 ^ 62) ≤ j ∧ j < 2 ^ 62 ∧ LcT (Itr 0 j.toNat) g tt te vs σ H1 Q
def LcL (K : PySem.W.Frag) (g : TG) (tt : TT) (te : TE) (vs : List Nat) (σ : L2.St) (x : V) (H1 : Hp) (Q : VK) : Prop := ∃ a, x = .ref a ∧ (∃ xs, SqL K H1 a xs) ∧ LcT (Itl K a) g tt te vs σ H1 Q
def LcU (K : PySem.W.Frag) (g : TG) (tt : TT) (te : TE) (vs : List Nat) (σ : L2.St) (x : V) (H1 : Hp) (Q : VK) : Prop := ∃ a, x = .ref a ∧ (∃ xs, SqT K H1 a xs) ∧ LcT (Itt K a) g tt te vs σ H1 Q
section
variable {K : PySem.W.Frag} {σ : L2.St} {H H0 H1 : Hp} {Q : VK} {te tl : TE} {ta : TA} {g : TG} {tt : TT} {own : List Nat} {x : V} {l : Addr} {xs : List V} {ds : List PyData}
theorem st_lcR (h : ta σ H fun us H1 => LcR g tt te own σ us H1 Q) : tLc (iRng1 ta) g tt te own σ H Q := h
theorem st_lcL (h : tl σ H fun x H1 => LcL K g tt te own σ x H1 Q) : tLc (iList K tl) g tt te own σ H Q := h
theorem st_lcU (h : tl σ H fun x H1 => LcU K g tt te own σ x H1 Q) : tLc (iTup K tl) g tt te own σ H Q := h
/-- the new list at D gets y -/
def LcPut (D : Addr) (Nx : Hp → Prop) (y : V) (H4 : Hp) : Prop := ∃ acc, H4 D = some (.lst acc) ∧ acc.length < sizeLine ∧ Nx (upd H4 D (.lst (acc ++ [y])))
theorem st_lcPut {D : Addr} {Nx : Hp → Prop} {y : V} {acc : List V} (h : H D = some (.lst acc)) (hl : acc.length < 100000) (q : ∀ H5, Fr [D] H H5 → Kp H H5 → H5 D = some (.lst (acc ++ [y])) → Nx H5) : LcPut D Nx y H :=
  ⟨acc, h, sz_lt hl, q _ (Fr.mut (List.mem_singleton.mpr rfl) (Fr.refl _ _)) (Kp.mut (nt_of h trivial) (Kp.refl _)) upd_same⟩
/-- a turn of a comprehension: x is given; Nx is wanted behind it -/
abbrev LcTurn (g : TG) (tt : TT) (te : TE) (own : List Nat) (σ : L2.St) (D : Addr) (x : V) (H : Hp) (Nx : Hp → Prop) : Prop :=
  g x (wipe σ own) H fun σ2 H2 => wipe σ2 own = wipe σ own ∧ tt σ2 H2 fun b H3 => if b = true then te σ2 H3 fun y H4 => LcPut D Nx y H4 else Nx H3
theorem st_lcRange {n : Nat} (hn : n ≤ 1000000) (k : ∀ D H2, H1 D = none → Ex H1 H2 → H2 D = some (.lst []) → ∃ Pv : Nat → Hp → Prop, Pv 0 H2 ∧ (∀ (i : Nat) H, i < n → Pv i H → LcTurn g tt te own σ D (.int (i : Int)) H (Pv (i + 1))) ∧ ∀ H, Pv n H → Q (.ref D) H) :
    LcR g tt te own σ [.int (n : Int)] H1 Q := by
  refine ⟨(n : Int), rfl, by omega, by omega, fun D hD => ?_⟩
  obtain ⟨Pv, h0, hs, hd⟩ := k D _ hD (Ex.new hD) upd_same
  refine lc_range (lo := 0) (n := ((n : Int)).toNat) Pv h0 (fun i H hi p => ?_) (by simpa using hd)
  have e0 : (0 : Int) + (i : Int) = (i : Int) := Int.zero_add _
  rw [e0]
  exact hs i H (by omega) p
theorem st_lcList (h : SqL K H1 l xs) (k : ∀ D H2, H1 D = none → Ex H1 H2 → H2 D = some (.lst []) → ∃ Pv : Nat → Hp → Prop, Pv 0 H2 ∧ (∀ i H, Pv i H → SqL K H l xs) ∧ (∀ (i : Nat) v H, xs[i]? = some v → Pv i H → LcTurn g tt te own σ D v H (Pv (i + 1))) ∧ ∀ H, Pv xs.length H → Q (.ref D) H) :
    LcL K g tt te own σ (.ref l) H1 Q := by
  refine ⟨l, rfl, ⟨xs, h⟩, fun D hD => ?_⟩
  obtain ⟨Pv, h0, hk, hs, hd⟩ := k D _ hD (Ex.new hD) upd_same
  exact lc_list (K := K) (a := l) (xs := xs) Pv h0 (fun i H _ p => hk i H p) (fun i v H hv p => hs i v H hv p) hd
theorem st_lcTup (h : Im H0 (.tuple ds) x) (k0 : Kp H0 H1) (k : ∀ D H2, H1 D = none → Ex H1 H2 → H2 D = some (.lst []) → ∃ Pv : Nat → Hp → Prop, Pv 0 H2 ∧ (∀ i H, Pv i H → Kp H0 H) ∧ (∀ (i : Nat) d v H, ds[i]? = some d → Im H d v → Pv i H → LcTurn g tt te own σ D v H (Pv (i + 1))) ∧ ∀ H, Pv ds.length H → Q (.ref D) H) :
    LcU K g tt te own σ x H1 Q := by
  obtain ⟨a, xs, rfl, h1, h2⟩ := h.tup
  refine ⟨a, rfl, ⟨xs, SqT.of (k0 a xs h1)⟩, fun D hD => ?_⟩
  obtain ⟨Pv, p0, hk, hs, hd⟩ := k D _ hD (Ex.new hD) upd_same
  refine lc_tup (K := K) (a := a) (xs := xs) Pv p0 (fun i H _ p => SqT.of (hk i H p a xs h1)) (fun i v H hv p => ?_) (fun H p => hd H (h2.length ▸ p))
  obtain ⟨d, e1, e2⟩ := h2.get' hv
  exact hs i d v H e1 (e2.kp (hk i H p)) p
theorem ex_l {a : Addr} (e : Ex H H1) (h : SqL K H a xs) : SqL K H1 a xs := by
  rcases h with (h | ⟨o, h⟩) | h
  · exact Or.inl (.inl (e a _ h))
  · exact Or.inl (.inr ⟨o, e a _ h⟩)
  · exact Or.inr h
theorem st_walkLS {D : Ends} {tb : TS} (h : SqL K H l xs) (Pv : Nat → L2.St → Hp → Prop) (h0 : Pv 0 σ H) (hk : ∀ m σ' H', Pv m σ' H' → SqL K H' l xs)
    (hs : ∀ m v σ' H', xs[m]? = some v → Pv m σ' H' → g v σ' H' fun σ2 H2 => tb { D with nx := Pv (m + 1), ct := Pv (m + 1), bk := D.nx } σ2 H2) (hd : ∀ σ' H', Pv xs.length σ' H' → D.nx σ' H') : WalkL K g tb D σ (.ref l) H :=
  ⟨l, rfl, ⟨xs, h⟩, for_list (K := K) (a := l) (xs := xs) Pv h0 (fun m σ' H' _ p => hk m σ' H' p) hs hd⟩
theorem st_listS (h : SqL K H l xs) (q : ∀ a H2, H a = none → Ex H H2 → H2 a = some (.lst xs) → Q (.ref a) H2) : rListOf K [.ref l] H Q := ⟨l, xs, rfl, .inl h, fun a ha => q a _ ha (Ex.new ha) upd_same⟩
theorem st_lenS (h : SqL K H l xs) (q : Q (.int xs.length) H) : rLenS K [.ref l] H Q := ⟨l, xs, rfl, .inl h, q⟩
theorem st_fdivW {i j : Int} {f : Int → Int → V} (c : 0 < j ∧ j.natAbs.log2 < 9000) (h : Q (f i j) H) : rI CDivW f (.int i) (.int j) H Q := ⟨i, j, rfl, rfl, c, h⟩
theorem st_popAt0 {x : V} {r : List V} (h : H l = some (.lst (x :: r))) (q : ∀ H2, Fr [l] H H2 → Kp H H2 → H2 l = some (.lst r) → Q x H2) : rPopAt (.ref l) [.int 0] H Q := by
  refine ⟨l, x :: r, 0, 0, x, rfl, rfl, h, by decide, by decide, ?_, rfl, ?_⟩
  · rw [seqIndex_of (by omega) (by simp only [List.length_cons]; omega)]
    rfl
  · exact q _ (Fr.mut (List.mem_singleton.mpr rfl) (Fr.refl _ _)) (Kp.mut (nt_of h trivial) (Kp.refl _)) upd_same
end
section
variable {H : Hp} {Q : VK} {l : Addr} {xs : List V}
theorem st_clear (h : H l = some (.lst xs)) (q : ∀ H2, Fr [l] H H2 → Kp H H2 → H2 l = some (.lst []) → Q .non H2) : rClear (.ref l) [] H Q :=
  ⟨l, xs, rfl, rfl, h, q _ (Fr.mut (List.mem_singleton.mpr rfl) (Fr.refl _ _)) (Kp.mut (nt_of h trivial) (Kp.refl _)) upd_same⟩
end
theorem ix01 {b : Bool} {x y : V} : atI [x, y] (if b = true then 1 else 0) = some (if b = true then y else x) := by
  cases b with
  | true => exact atI_nat (j := 1) rfl
  | false => exact atI_nat (j := 0) rfl
/-! ### shapes -/
def Sh (n : Nat) (d : PyData) : Prop := d.canLay0 = true ∧ d.depth ≤ n
theorem Sh.shaped {n : Nat} {d : PyData} (h : Sh n d) (hn : n ≤ 64 := by decide) : SeqAt.shaped d = true := by
  unfold SeqAt.shaped
  rw [h.1, Bool.true_and, decide_eq_true_eq]
  exact Nat.le_trans h.2 hn
theorem sh_int {n : Nat} {i : Int} : Sh n (.int i) := ⟨rfl, Nat.zero_le _⟩
theorem sh_none {n : Nat} : Sh n .none := ⟨rfl, Nat.zero_le _⟩
theorem sh_bool {n : Nat} {b : Bool} : Sh n (.bool b) := ⟨rfl, Nat.zero_le _⟩
theorem sh_str {n : Nat} {s : Str} (h : PyData.strOk s = true) : Sh n (.str s) := ⟨h, Nat.zero_le _⟩
theorem sh_all {n : Nat} : ∀ {ds : List PyData}, (∀ d ∈ ds, Sh n d) → PyData.canLayAll0 ds = true ∧ PyData.depthAll ds ≤ n
  | [], _ => ⟨rfl, Nat.zero_le _⟩
  | d :: ds, h => by
    obtain ⟨h1, h2⟩ := h d List.mem_cons_self
    obtain ⟨h3, h4⟩ := sh_all (ds := ds) fun e he => h e (List.mem_cons_of_mem _ he)
    refine ⟨?_, ?_⟩
    · show (d.canLay0 && PyData.canLayAll0 ds) = true
      rw [h1, h3]
      rfl
    · show max d.depth (PyData.depthAll ds) ≤ n
      exact Nat.max_le.mpr ⟨h2, h4⟩
theorem sh_tup {n : Nat} {ds : List PyData} (h : ∀ d ∈ ds, Sh n d) : Sh (n + 1) (.tuple ds) := by
  obtain ⟨h1, h2⟩ := sh_all h
  exact ⟨h1, Nat.succ_le_succ h2⟩
theorem sh_lst {n : Nat} {ds : List PyData} (h : ∀ d ∈ ds, Sh n d) : Sh (n + 1) (.list ds) := by
  obtain ⟨h1, h2⟩ := sh_all h
  exact ⟨h1, Nat.succ_le_succ h2⟩
theorem sh_opt {n : Nat} {o : Option Int} : Sh n (pyOpt o) := by
  cases o with
  | none => exact sh_none
  | some i => exact sh_int
theorem sh_ints {n : Nat} {ns : List Int} : ∀ d ∈ ns.map PyData.int, Sh n d := fun d hd => by
  obtain ⟨i, _, rfl⟩ := List.mem_map.mp hd
  exact sh_int
/-- equal data -/
theorem eqv_same {n : Nat} {d : PyData} (h : Sh n d) : PyData.eqv d d = true := SeqAt.eqv_refl d h.1
/-! ### isinstance, items of any data -/
def tyN : PyData → String
  | .none => "NoneType"
  | .bool _ => "bool"
  | .int _ => "int"
  | .str _ => "str"
  | .list _ => "list"
  | .tuple _ => "tuple"
  | .dict _ => "dict"
section
variable {K : PySem.W.Frag} {H : Hp} {Q : VK} {v x : V} {d e : PyData} {ds : List PyData} {i : Int}
theorem Dp.ty (h : Dp K H v d) : TyX K H v (.type (tyN d)) := by
  cases h with
  | non => exact .base .non
  | bl b => exact .base (.bl b)
  | int i => exact .base (.int i)
  | str s => exact .base (.str s)
  | lst h _ =>
    rcases h with (h | ⟨o, h⟩) | ⟨o, its, n, h1, h2, _⟩
    · exact .base (.lst h)
    · exact .base (.frz h)
    · exact .kList h1 h2
  | tup h _ =>
    rcases h with (h | ⟨o, h⟩) | ⟨o, its, n, h1, h2, _⟩
    · exact .base (.tup h)
    · exact .fTuple h
    · exact .kTuple h1 h2
theorem st_isi {T : String} {b : Bool} (h : Dp K H x d) (e : kitB (tyN d) T = some b) (q : Q (.bl b) H) : rIsi K [x, .ty T] H Q := ⟨x, _, _, _, b, rfl, .ty T, Dp.ty h, kit_ty e, q⟩
theorem DpAll.length : ∀ {vs : List V} {ds : List PyData}, DpAll K H vs ds → vs.length = ds.length
  | _, _, .nil => rfl
  | _, _, .cons _ r => by rw [List.length_cons, List.length_cons, DpAll.length r]
theorem DpAll.get : ∀ {vs : List V} {ds : List PyData} {i : Nat} {d : PyData}, DpAll K H vs ds → ds[i]? = some d → ∃ v, vs[i]? = some v ∧ Dp K H v d
  | _, _, _, _, .nil, e => by simp at e
  | _, _, 0, _, .cons h _, e => by
    simp at e
    subst e
    exact ⟨_, by simp, h⟩
  | _, _, i + 1, _, .cons _ r, e => by
    obtain ⟨v, g1, g2⟩ := DpAll.get (i := i) r (by simpa using e)
    exact ⟨v, by simpa using g1, g2⟩
theorem Dp.lst_inv (h : Dp K H v (.list ds)) : ∃ a xs, v = .ref a ∧ SqL K H a xs ∧ DpAll K H xs ds := by
  cases h with
  | lst h1 h2 => exact ⟨_, _, rfl, h1, h2⟩
theorem Dp.tup_inv (h : Dp K H v (.tuple ds)) : ∃ a xs, v = .ref a ∧ SqT K H a xs ∧ DpAll K H xs ds := by
  cases h with
  | tup h1 h2 => exact ⟨_, _, rfl, h1, h2⟩
/-- a list or a tuple -/
def Seqs (d : PyData) (ds : List PyData) : Prop := d = .list ds ∨ d = .tuple ds
theorem st_ixD {j : Nat} (h : Dp K H x d) (s : Seqs d ds) (g : ds[j]? = some e) (q : ∀ v, Dp K H v e → Q v H) : rIx K x (.int (j : Int)) H Q := by
  rcases s with rfl | rfl
  · obtain ⟨a, xs, rfl, h1, h2⟩ := Dp.lst_inv h
    obtain ⟨v, g1, g2⟩ := DpAll.get h2 g
    exact .inl ⟨a, xs, j, v, rfl, rfl, h1, atI_nat g1, q v g2⟩
  · obtain ⟨a, xs, rfl, h1, h2⟩ := Dp.tup_inv h
    obtain ⟨v, g1, g2⟩ := DpAll.get h2 g
    exact .inr (.inl ⟨a, xs, j, v, rfl, rfl, h1, atI_nat g1, q v g2⟩)
theorem st_lenD (h : Dp K H x d) (s : Seqs d ds) (q : Q (.int (ds.length : Int)) H) : rLenS K [x] H Q := by
  rcases s with rfl | rfl
  · obtain ⟨a, xs, rfl, h1, h2⟩ := Dp.lst_inv h
    exact ⟨a, xs, rfl, .inl h1, by rw [DpAll.length h2]; exact q⟩
  · obtain ⟨a, xs, rfl, h1, h2⟩ := Dp.tup_inv h
    exact ⟨a, xs, rfl, .inr h1, by rw [DpAll.length h2]; exact q⟩
end
theorem kb_NoneType_bool : kitB "NoneType" "bool" = some false := by decide +kernel
theorem kb_NoneType_int : kitB "NoneType" "int" = some false := by decide +kernel
theorem kb_NoneType_str : kitB "NoneType" "str" = some false := by decide +kernel
theorem kb_NoneType_tuple : kitB "NoneType" "tuple" = some false := by decide +kernel
theorem kb_NoneType_list : kitB "NoneType" "list" = some false := by decide +kernel
theorem kb_bool_bool : kitB "bool" "bool" = some true := by decide +kernel
theorem kb_bool_int : kitB "bool" "int" = some true := by decide +kernel
theorem kb_bool_str : kitB "bool" "str" = some false := by decide +kernel
theorem kb_bool_tuple : kitB "bool" "tuple" = some false := by decide +kernel
theorem kb_bool_list : kitB "bool" "list" = some false := by decide +kernel
theorem kb_int_bool : kitB "int" "bool" = some false := by decide +kernel
theorem kb_int_int : kitB "int" "int" = some true := by decide +kernel
theorem kb_int_str : kitB "int" "str" = some false := by decide +kernel
theorem kb_int_tuple : kitB "int" "tuple" = some false := by decide +kernel
theorem kb_int_list : kitB "int" "list" = some false := by decide +kernel
theorem kb_str_bool : kitB "str" "bool" = some false := by decide +kernel
theorem kb_str_int : kitB "str" "int" = some false := by decide +kernel
theorem kb_str_str : kitB "str" "str" = some true := by decide +kernel
theorem kb_str_tuple : kitB "str" "tuple" = some false := by decide +kernel
theorem kb_str_list : kitB "str" "list" = some false := by decide +kernel
theorem kb_list_bool : kitB "list" "bool" = some false := by decide +kernel
theorem kb_list_int : kitB "list" "int" = some false := by decide +kernel
theorem kb_list_str : kitB "list" "str" = some false := by decide +kernel
theorem kb_list_tuple : kitB "list" "tuple" = some false := by decide +kernel
theorem kb_list_list : kitB "list" "list" = some true := by decide +kernel
theorem kb_tuple_bool : kitB "tuple" "bool" = some false := by decide +kernel
theorem kb_tuple_int : kitB "tuple" "int" = some false := by decide +kernel
theorem kb_tuple_str : kitB "tuple" "str" = some false := by decide +kernel
theorem kb_tuple_tuple : kitB "tuple" "tuple" = some true := by decide +kernel
theorem kb_tuple_list : kitB "tuple" "list" = some false := by decide +kernel
/-- what _law_alike goes through: lists and tuples of this depth -/
def Al : Nat → PyData → Prop
  | 0, d => d = .none ∨ (∃ b, d = .bool b) ∨ (∃ i, d = .int i) ∨ ∃ s, d = .str s ∧ PyData.strOk s = true
  | n + 1, d => (d = .none ∨ (∃ b, d = .bool b) ∨ (∃ i, d = .int i) ∨ ∃ s, d = .str s ∧ PyData.strOk s = true) ∨ ∃ ds, Seqs d ds ∧ ds.length ≤ 1000000 ∧ ∀ e ∈ ds, Al n e
theorem al_int {n : Nat} {i : Int} : Al n (.int i) := by cases n <;> simp [Al]
theorem al_none {n : Nat} : Al n .none := by cases n <;> simp [Al]
theorem al_bool {n : Nat} {b : Bool} : Al n (.bool b) := by cases n <;> simp [Al]
theorem al_str {n : Nat} {s : Str} (h : PyData.strOk s = true) : Al n (.str s) := by cases n <;> simp [Al, h]
theorem al_tup {n : Nat} {ds : List PyData} (hl : ds.length ≤ 1000000) (h : ∀ e ∈ ds, Al n e) : Al (n + 1) (.tuple ds) := .inr ⟨ds, .inr rfl, hl, h⟩
theorem al_lst {n : Nat} {ds : List PyData} (hl : ds.length ≤ 1000000) (h : ∀ e ∈ ds, Al n e) : Al (n + 1) (.list ds) := .inr ⟨ds, .inl rfl, hl, h⟩
theorem al_opt {n : Nat} {o : Option Int} : Al n (pyOpt o) := by
  cases o with
  | none => exact al_none
  | some i => exact al_int
theorem al_ints {n : Nat} {ns : List Int} : ∀ d ∈ ns.map PyData.int, Al n d := fun d hd => by
  obtain ⟨i, _, rfl⟩ := List.mem_map.mp hd
  exact al_int
theorem al_mono : ∀ {n m : Nat} {d : PyData}, n ≤ m → Al n d → Al m d
  | 0, 0, _, _, h => h
  | 0, m + 1, _, _, h => .inl h
  | n + 1, 0, _, hn, _ => absurd hn (by omega)
  | n + 1, m + 1, _, hn, h => by
    rcases h with h | ⟨ds, h1, h2, h3⟩
    · exact .inl h
    · exact .inr ⟨ds, h1, h2, fun e he => al_mono (by omega) (h3 e he)⟩
/-! ### the box of draws -/
/-- the box: its list of numbers stands at l -/
structure BoxAt (H : Hp) (b l : Addr) : Prop where
  box : ∃ st : Int, H b = some (.lst [.ref l, .int st]) ∧ 0 ≤ st ∧ st < 2147483647
  nums : ∃ ns : List Int, H l = some (.lst (ns.map V.int))
theorem BoxAt.ne {H : Hp} {b l : Addr} (h : BoxAt H b l) : b ≠ l := by
  obtain ⟨st, h1, _⟩ := h.box
  obtain ⟨ns, h2⟩ := h.nums
  refine ne_of h1 h2 fun z => ?_
  injection z with z
  cases ns with
  | nil => cases z
  | cons n ns => cases z
theorem BoxAt.keep {H H' : Hp} {b l : Addr} {F : List Addr} (h : BoxAt H b l) (f : Fr F H H') (h1 : b ∉ F) (h2 : l ∉ F) : BoxAt H' b l := by
  obtain ⟨st, a, r⟩ := h.box
  obtain ⟨ns, c⟩ := h.nums
  exact ⟨⟨st, f b _ a h1, r⟩, ⟨ns, f l _ c h2⟩⟩
theorem BoxAt.ex {H H' : Hp} {b l : Addr} (h : BoxAt H b l) (e : Ex H H') : BoxAt H' b l := h.keep (F := []) e.fr (by simp) (by simp)
/-- what a draw changes -/
def Dr (b l : Addr) (H H' : Hp) : Prop := Fr [b, l] H H' ∧ Kp H H' ∧ BoxAt H' b l
theorem Dr.trans {b l : Addr} {H H1 H2 : Hp} (a : Dr b l H H1) (c : Dr b l H1 H2) : Dr b l H H2 := ⟨a.1.trans c.1, a.2.1.trans c.2.1, c.2.2⟩
theorem Dr.ex {b l : Addr} {H H1 H2 : Hp} (a : Dr b l H H1) (e : Ex H1 H2) : Dr b l H H2 := ⟨a.1.trans e.fr, a.2.1.trans e.kp, a.2.2.ex e⟩
theorem Dr.put {b l D : Addr} {H H1 H2 : Hp} (h0 : BoxAt H b l) (a : Dr b l H H1) (nD : H D = none) (f : Fr [D] H1 H2) (k : Kp H1 H2) : Dr b l H H2 := by
  have hb : b ≠ D := fun z => by
    obtain ⟨st, h, _⟩ := h0.box
    rw [z, nD] at h
    cases h
  have hl : l ≠ D := fun z => by
    obtain ⟨ns, h⟩ := h0.nums
    rw [z, nD] at h
    cases h
  refine ⟨fun c o hc n => ?_, a.2.1.trans k, a.2.2.keep f (by simpa using hb) (by simpa using hl)⟩
  have : c ≠ D := fun z => by
    rw [z, nD] at hc
    cases hc
  exact f c o (a.1 c o hc n) (by simpa using this)
theorem Dr.start {b l : Addr} {H : Hp} (h : BoxAt H b l) : Dr b l H H := ⟨Fr.refl _ _, Kp.refl _, h⟩
end BC
/-! BCMS: the machine as plain data: what each of its methods does, and the law's own the same. -/
namespace BC
open PySem PySem.Spec PyProof.Rows L2
abbrev Row := Nat × Str × Nat × Int
abbrev pyRow (r : Row) : PyData := .tuple [.int (r.1 : Int), .str r.2.1, .int (r.2.2.1 : Int), .int r.2.2.2]
abbrev HE := Nat × List Int × Bool
def hget : List HE → Nat → Option (List Int × Bool)
  | [], _ => none
  | e :: r, l => if e.1 = l then some e.2 else hget r l
def hset (es : List HE) (l : Nat) (v : List Int × Bool) : List HE := es.map fun e => if e.1 = l then (l, v) else e
def hdel (es : List HE) (l : Nat) : List HE := es.filter fun e => decide (e.1 ≠ l)
structure MS where
  mem : List Int
  held : List HE
  left : List Mv
  at_ : Nat
  beats : Nat
  rows : List Row
  idle : Bool
  nr : Nat
  nf : Nat
namespace MS
def note (M : MS) (w : Str) (p : Nat) (n : Int) : MS := { M with rows := M.rows ++ [(M.beats, w, p, n)] }
def take (M : MS) (l : Nat) : MS := match hget M.held l with
  | some _ => M
  | none => ({ M with held := M.held ++ [(l, (M.mem.drop (4 * l)).take 4, false)] } : MS).note "take" l 0
def cells (M : MS) (l : Nat) : List Int := match hget M.held l with
  | some (c, _) => c
  | none => []
def val (M : MS) (c : Nat) : Int := ((M.take (c / 4)).cells (c / 4)).getD (c % 4) 0
def read (M : MS) (c : Nat) : MS := (M.take (c / 4)).note "read" c (M.val c)
def put (M : MS) (l : Nat) (v : List Int × Bool) : MS := { M with held := hset M.held l v }
def write (M : MS) (c : Nat) (n : Int) : MS := ((M.take (c / 4)).put (c / 4) (((M.take (c / 4)).cells (c / 4)).set (c % 4) n, true)).note "write" c n
def clean (M : MS) (l : Nat) : MS := match hget M.held l with
  | some (cs, true) => ({ M with mem := M.mem.take (4 * l) ++ cs ++ M.mem.drop (4 * l + 4), held := hset M.held l (cs, false) } : MS).note "clean" l 0
  | _ => M
def drop (M : MS) (l : Nat) : MS := match hget M.held l with
  | some _ => ({ M with held := hdel M.held l } : MS).note "drop" l 0
  | none => M
def isIdle (prog : List Deed) (M : MS) : Bool := decide (prog.length ≤ M.at_) || (decide (prog[M.at_]? = some .wait) && !M.left.isEmpty)
def deed (os : List Ord) (M : MS) : Deed → MS
  | .set c n => M.write c (n : Int)
  | .add c o => ((M.read c).read o).write c ((M.val c + (M.read c).val o) % 10)
  | .say c => (M.read c).note "say" c (M.val c)
  | .start k => ({ M with left := M.left ++ movesOf os k } : MS).note "start" k 0
  | .wait => M
  | .clean l => M.clean l
  | .drop l => M.drop l
def process (b : Bd) (M : MS) : MS := if M.isIdle b.prog = true then { M with idle := true } else match b.prog[M.at_]? with
  | some d => ({ M with idle := false, at_ := M.at_ + 1 } : MS).deed b.ords d
  | none => M
def bell (M : MS) : Option Nat → MS
  | none => M
  | some k => M.note "bell" k 0
def carry (M : MS) : MS := match M.left with
  | [] => M
  | m :: r => (({ (({ M with left := r } : MS).note "fetch" m.src (M.mem.getD m.src 0)) with mem := M.mem.set m.dst (M.mem.getD m.src 0) } : MS).note "put" m.dst (M.mem.getD m.src 0)).bell m.bell
def mayRest (M : MS) : Bool := !M.left.isEmpty && !M.idle
def over (b : Bd) (M : MS) : Bool := decide (b.prog.length ≤ M.at_) && M.left.isEmpty
def finish (M : MS) : MS := (List.range 4).foldl MS.clean M
def init (b : Bd) : MS := ⟨b.mem, [], [], 0, 0, [], false, 0, 0⟩
/-- whether it moves, and the pace that is left -/
def pick (M : MS) (pace : List Bool) : Bool × List Bool := if M.mayRest = true then (match pace with | [] => (true, []) | x :: r => (x, r)) else (true, pace)
def moved (M : MS) (mv : Bool) : MS := if mv = true then M.carry else M
def tick (M : MS) : MS := { M with beats := M.beats + 1 }
def beat (b : Bd) (M : MS) (pace : List Bool) : MS := ((M.process b).moved ((M.process b).pick pace).1).tick
def run (b : Bd) : Nat → MS → List Bool → MS
  | 0, M, _ => M
  | n + 1, M, pace => if M.over b = true then M else run b n (M.beat b pace) ((M.process b).pick pace).2
def fuel (b : Bd) (M : MS) : Nat := (b.prog.length - M.at_) * 33 + M.left.length
end MS
def goneOf (b : Bd) (pace : List Bool) : MS := (MS.run b 1980 (MS.init b) pace).finish

theorem nodup_bound : ∀ (n : Nat) (xs : List Nat), xs.Nodup → (∀ x ∈ xs, x < n) → xs.length ≤ n
  | 0, xs, _, h => by
    cases xs with
    | nil => exact Nat.le_refl _
    | cons x r => exact absurd (h x List.mem_cons_self) (Nat.not_lt_zero _)
  | n + 1, xs, nd, h => by
    by_cases hn : n ∈ xs
    · have h1 := nodup_bound n (xs.erase n) (nd.erase n) fun x hx => by
        have h2 := (nd.mem_erase_iff).mp hx
        have h3 := h x h2.2
        have h4 := h2.1
        omega
      rw [List.length_erase_of_mem hn] at h1
      omega
    · have h1 := nodup_bound n xs nd fun x hx => by
        have h3 := h x hx
        have h4 : x ≠ n := fun z => hn (z ▸ hx)
        omega
      omega
theorem splice_set {m cs : List Int} {a i : Nat} (h : a + cs.length ≤ m.length) (hi : i < cs.length) : (m.take a ++ cs.take i ++ m.drop (a + i)).set (a + i) (cs.getD i 0) = m.take a ++ cs.take (i + 1) ++ m.drop (a + (i + 1)) := by
  have l : (m.take a ++ cs.take i).length = a + i := by
    rw [List.length_append, List.length_take, List.length_take]
    omega
  have hm : a + i < m.length := by omega
  rw [List.set_append_right _ _ (Nat.le_of_eq l), l, Nat.sub_self, List.drop_eq_getElem_cons hm, List.set_cons_zero, List.take_add_one, List.getElem?_eq_getElem hi, List.getD_eq_getElem?_getD, List.getElem?_eq_getElem hi]
  show m.take a ++ cs.take i ++ cs[i] :: m.drop (a + i + 1) = m.take a ++ (cs.take i ++ [cs[i]]) ++ m.drop (a + i + 1)
  rw [List.append_assoc, List.append_assoc, List.append_assoc]
  rfl
/-! ### laws of the held lines -/
theorem hget_append {es : List HE} {l k : Nat} {v : List Int × Bool} (h : hget es l = none) : hget (es ++ [(l, v)]) k = if k = l then some v else hget es k := by
  induction es with
  | nil =>
    show (if l = k then some v else none) = _
    by_cases e : k = l
    · rw [if_pos e, if_pos e.symm]
    · rw [if_neg e, if_neg (fun z => e z.symm)]
      rfl
  | cons e r ih =>
    show (if e.1 = k then some e.2 else hget (r ++ [(l, v)]) k) = _
    have h' : (if e.1 = l then some e.2 else hget r l) = none := h
    by_cases e1 : e.1 = l
    · rw [if_pos e1] at h'
      cases h'
    · rw [if_neg e1] at h'
      rw [ih h']
      by_cases e2 : e.1 = k
      · rw [if_pos e2, if_neg (fun z => e1 (e2.trans z))]
        show _ = if e.1 = k then some e.2 else hget r k
        rw [if_pos e2]
      · rw [if_neg e2]
        show _ = if k = l then some v else if e.1 = k then some e.2 else hget r k
        rw [if_neg e2]
theorem hget_set {es : List HE} {l k : Nat} {v : List Int × Bool} : hget (hset es l v) k = if k = l then (hget es l).map fun _ => v else hget es k := by
  induction es with
  | nil => simp [hset, hget]
  | cons e r ih =>
    have ih' : hget (r.map fun e => if e.1 = l then (l, v) else e) k = if k = l then (hget r l).map fun _ => v else hget r k := ih
    show hget ((if e.1 = l then (l, v) else e) :: r.map fun e => if e.1 = l then (l, v) else e) k = _
    by_cases e1 : e.1 = l
    · rw [if_pos e1]
      show (if l = k then some v else _) = _
      by_cases e2 : k = l
      · rw [if_pos e2.symm, if_pos e2]
        simp [hget, e1]
      · rw [if_neg (fun z => e2 z.symm), if_neg e2, ih', if_neg e2]
        simp [hget, e1, Ne.symm e2]
    · rw [if_neg e1]
      show (if e.1 = k then some e.2 else _) = _
      rw [ih']
      by_cases e2 : k = l
      · rw [if_neg (fun z => e1 (z.trans e2)), if_pos e2, if_pos e2]
        simp [hget, e1]
      · rw [if_neg e2, if_neg e2]
        rfl
theorem hset_hset {es : List HE} {l : Nat} {v u : List Int × Bool} : hset (hset es l v) l u = hset es l u := by
  unfold hset
  rw [List.map_map]
  apply List.map_congr_left
  intro e _
  simp only [Function.comp]
  by_cases h : e.1 = l
  · rw [if_pos h, if_pos h]
    exact if_pos rfl
  · rw [if_neg h, if_neg h]
theorem hget_same {es : List HE} {l : Nat} {v u : List Int × Bool} (h : hget es l = some u) : hget (hset es l v) l = some v := by
  rw [hget_set, if_pos rfl, h]
  rfl
theorem hset_keys (es : List HE) (l : Nat) (v : List Int × Bool) : (hset es l v).map (·.1) = es.map (·.1) := by
  simp only [hset, List.map_map]
  apply List.map_congr_left
  intro e _
  simp only [Function.comp]
  split
  · rename_i h
    exact h.symm
  · rfl
theorem hget_mem {es : List HE} {l : Nat} : (hget es l).isSome = true ↔ l ∈ es.map (·.1) := by
  induction es with
  | nil => simp [hget]
  | cons e r ih =>
    show (if e.1 = l then some e.2 else hget r l).isSome = true ↔ _
    by_cases e1 : e.1 = l
    · simp [e1]
    · rw [if_neg e1, ih]
      simp only [List.map_cons, List.mem_cons]
      constructor
      · exact .inr
      · rintro (z | z)
        · exact absurd z.symm e1
        · exact z
/-- what holds of a machine all the while -/
structure MS.Ok (cells : Nat) (M : MS) : Prop where
  len : M.mem.length = cells
  nd : (M.held.map (·.1)).Nodup
  lines : ∀ e ∈ M.held, e.1 < cells / 4 ∧ e.2.1.length = 4
  left : ∀ m ∈ M.left, m.src < cells ∧ m.dst < cells
theorem hget_in {es : List HE} {l : Nat} {v : List Int × Bool} (h : hget es l = some v) : (l, v) ∈ es := by
  induction es with
  | nil => cases h
  | cons e r ih =>
    have h' : (if e.1 = l then some e.2 else hget r l) = some v := h
    by_cases e1 : e.1 = l
    · rw [if_pos e1] at h'
      cases h'
      rw [← e1]
      exact List.mem_cons_self
    · rw [if_neg e1] at h'
      exact List.mem_cons_of_mem _ (ih h')
theorem MS.Ok.cells4 {n : Nat} {M : MS} (h : M.Ok n) {l : Nat} {c : List Int} {t : Bool} (e : hget M.held l = some (c, t)) : c.length = 4 ∧ l < n / 4 := by
  have := h.lines _ (hget_in e)
  exact ⟨this.2, this.1⟩
theorem MS.Ok.heldLen {n : Nat} {M : MS} (h : M.Ok n) : M.held.length ≤ n / 4 := by
  have h1 := nodup_bound (n / 4) _ h.nd fun l hl => by
    obtain ⟨e, he, rfl⟩ := List.mem_map.mp hl
    exact (h.lines e he).1
  rwa [List.length_map] at h1
section
variable {n : Nat} {M : MS}
theorem MS.Ok.note (h : M.Ok n) (w : Str) (p : Nat) (k : Int) : (M.note w p k).Ok n := ⟨h.len, h.nd, h.lines, h.left⟩
theorem MS.Ok.take (h : M.Ok n) (h4 : n % 4 = 0) {l : Nat} (hl : l < n / 4) : (M.take l).Ok n := by
  unfold MS.take
  cases e : hget M.held l with
  | some v => exact h
  | none =>
    refine MS.Ok.note (M := { M with held := M.held ++ [(l, (M.mem.drop (4 * l)).take 4, false)] }) ⟨h.len, ?_, ?_, h.left⟩ _ _ _
    · simp only [List.map_append, List.map_cons, List.map_nil]
      rw [List.nodup_append]
      refine ⟨h.nd, by simp, ?_⟩
      intro a ha b hb
      simp only [List.mem_cons, List.not_mem_nil, or_false] at hb
      subst hb
      rintro rfl
      have := hget_mem.mpr ha
      rw [e] at this
      cases this
    · intro e' he'
      rcases List.mem_append.mp he' with he' | he'
      · exact h.lines e' he'
      · simp only [List.mem_cons, List.not_mem_nil, or_false] at he'
        subst he'
        refine ⟨hl, ?_⟩
        simp only [List.length_take, List.length_drop, h.len]
        omega
theorem MS.take_some (M : MS) (l : Nat) : ∃ v, hget (M.take l).held l = some v := by
  unfold MS.take
  cases e : hget M.held l with
  | some v => exact ⟨v, e⟩
  | none => exact ⟨_, (hget_append e).trans (if_pos rfl)⟩
theorem MS.Ok.put (h : M.Ok n) (l : Nat) (v : List Int × Bool) (hv : v.1.length = 4) : (M.put l v).Ok n := by
  refine ⟨h.len, ?_, ?_, h.left⟩
  · show ((hset M.held l v).map (·.1)).Nodup
    rw [hset_keys]
    exact h.nd
  · intro e he
    obtain ⟨e0, h0, rfl⟩ := List.mem_map.mp he
    have := h.lines e0 h0
    split
    · rename_i hh
      rw [← hh]
      exact ⟨this.1, hv⟩
    · exact this
theorem MS.Ok.cellsLen (h : M.Ok n) {l : Nat} {v : List Int × Bool} (e : hget M.held l = some v) : (M.cells l).length = 4 := by
  unfold MS.cells
  obtain ⟨c, t⟩ := v
  rw [e]
  exact (h.cells4 e).1
theorem MS.Ok.read (h : M.Ok n) (h4 : n % 4 = 0) {c : Nat} (hc : c < n) : (M.read c).Ok n := (h.take h4 (by omega)).note _ _ _
theorem MS.Ok.write (h : M.Ok n) (h4 : n % 4 = 0) {c : Nat} (hc : c < n) (k : Int) : (M.write c k).Ok n := by
  have h1 := h.take h4 (l := c / 4) (by omega)
  refine MS.Ok.note (h1.put _ _ ?_) _ _ _
  obtain ⟨v, e⟩ := MS.take_some M (c / 4)
  rw [List.length_set]
  exact h1.cellsLen e
theorem MS.Ok.clean (h : M.Ok n) (l : Nat) : (M.clean l).Ok n := by
  unfold MS.clean
  split
  · rename_i cs e
    obtain ⟨h1, h2⟩ := h.cells4 e
    refine MS.Ok.note (M := { M with mem := M.mem.take (4 * l) ++ cs ++ M.mem.drop (4 * l + 4), held := hset M.held l (cs, false) }) ⟨?_, ?_, ?_, h.left⟩ _ _ _
    · simp only [List.length_append, List.length_take, List.length_drop, h.len, h1]
      omega
    · show ((hset M.held l (cs, false)).map (·.1)).Nodup
      rw [hset_keys]
      exact h.nd
    · intro e he
      obtain ⟨e0, h0, rfl⟩ := List.mem_map.mp he
      have := h.lines e0 h0
      split
      · rename_i hh
        rw [← hh]
        exact ⟨this.1, h1⟩
      · exact this
  · exact h
theorem MS.Ok.drop (h : M.Ok n) (l : Nat) : (M.drop l).Ok n := by
  unfold MS.drop
  split
  · refine MS.Ok.note (M := { M with held := hdel M.held l }) ⟨h.len, ?_, ?_, h.left⟩ _ _ _
    · exact (List.Sublist.map _ List.filter_sublist).nodup h.nd
    · exact fun e he => h.lines e ((List.mem_filter.mp he).1)
  · exact h
theorem MS.Ok.left' (h : M.Ok n) {r : List Mv} (hr : ∀ m ∈ r, m.src < n ∧ m.dst < n) : ({ M with left := r } : MS).Ok n := ⟨h.len, h.nd, h.lines, hr⟩
theorem MS.Ok.deed {os : List Ord} (h : M.Ok n) (h4 : n % 4 = 0) (g : OrdsOk n os) {d : Deed} (hd : d.Ok n os.length) : (M.deed os d).Ok n := by
  cases d with
  | set c k => exact h.write h4 hd.1 _
  | add c o => exact ((h.read h4 hd.1).read h4 hd.2).write h4 hd.1 _
  | say c => exact (h.read h4 hd).note _ _ _
  | start k =>
    refine MS.Ok.note (h.left' ?_) _ _ _
    intro m hm
    rcases List.mem_append.mp hm with hm | hm
    · exact h.left m hm
    · exact moves_in g _ _ m hm
  | wait => exact h
  | clean l => exact h.clean l
  | drop l => exact h.drop l
theorem MS.Ok.process {b : Bd} (h : M.Ok b.mem.length) (g : Good b) : (M.process b).Ok b.mem.length := by
  unfold MS.process
  split
  · exact ⟨h.len, h.nd, h.lines, h.left⟩
  · split
    · rename_i d e
      exact MS.Ok.deed (M := { M with idle := false, at_ := M.at_ + 1 }) ⟨h.len, h.nd, h.lines, h.left⟩ g.four g.ordsOk (g.deeds d (List.mem_of_getElem? e))
    · exact h
theorem MS.Ok.bell (h : M.Ok n) (o : Option Nat) : (M.bell o).Ok n := by
  cases o with
  | none => exact h
  | some k => exact h.note _ _ _
theorem MS.Ok.carry (h : M.Ok n) : M.carry.Ok n := by
  unfold MS.carry
  split
  · exact h
  · rename_i m r e
    have hl : ∀ m' ∈ r, m'.src < n ∧ m'.dst < n := fun m' hm' => h.left m' (e ▸ List.mem_cons_of_mem _ hm')
    refine MS.Ok.bell (MS.Ok.note (M := { (({ M with left := r } : MS).note "fetch" m.src (M.mem.getD m.src 0)) with mem := M.mem.set m.dst (M.mem.getD m.src 0) }) ⟨?_, h.nd, h.lines, hl⟩ _ _ _) _
    show (M.mem.set m.dst (M.mem.getD m.src 0)).length = n
    rw [List.length_set]
    exact h.len
theorem MS.Ok.beat {b : Bd} (h : M.Ok b.mem.length) (g : Good b) (pace : List Bool) : (M.beat b pace).Ok b.mem.length := by
  have h1 := h.process g
  have h2 : ((M.process b).moved ((M.process b).pick pace).1).Ok b.mem.length := by
    unfold MS.moved
    split
    · exact h1.carry
    · exact h1
  exact ⟨h2.len, h2.nd, h2.lines, h2.left⟩
theorem MS.Ok.init {b : Bd} : (MS.init b).Ok b.mem.length := ⟨rfl, by simp [MS.init], by simp [MS.init], by simp [MS.init]⟩
end
end BC
/-! BCMach: a machine as an object. -/
namespace BC
open PySem PySem.Spec PyProof.Rows L2
def machF (ml : Addr) (vo vp : V) (hd ll : Addr) (at_ beats : Nat) (rl : Addr) (idle : Bool) (nr nf : Nat) : List (Str × V) :=
  [("memory", .ref ml), ("orders", vo), ("program", vp), ("held", .ref hd), ("left", .ref ll), ("at", .int (at_ : Int)), ("beats", .int (beats : Int)), ("rows", .ref rl), ("idle", .bl idle), ("many_reads", .int (nr : Int)), ("many_fetches", .int (nf : Int))]
section
variable {ml hd ll rl x : Addr} {vo vp v : V} {at_ beats nr nf k : Nat} {idle b : Bool}
theorem lk_M_memory : (machF ml vo vp hd ll at_ beats rl idle nr nf).lookup ("memory" : Str) = some (.ref ml) := by simp [machF, List.lookup, ofS_beq]
theorem lk_M_orders : (machF ml vo vp hd ll at_ beats rl idle nr nf).lookup ("orders" : Str) = some vo := by simp [machF, List.lookup, ofS_beq]
theorem lk_M_program : (machF ml vo vp hd ll at_ beats rl idle nr nf).lookup ("program" : Str) = some vp := by simp [machF, List.lookup, ofS_beq]
theorem lk_M_held : (machF ml vo vp hd ll at_ beats rl idle nr nf).lookup ("held" : Str) = some (.ref hd) := by simp [machF, List.lookup, ofS_beq]
theorem lk_M_left : (machF ml vo vp hd ll at_ beats rl idle nr nf).lookup ("left" : Str) = some (.ref ll) := by simp [machF, List.lookup, ofS_beq]
theorem lk_M_at : (machF ml vo vp hd ll at_ beats rl idle nr nf).lookup ("at" : Str) = some (.int (at_ : Int)) := by simp [machF, List.lookup, ofS_beq]
theorem lk_M_beats : (machF ml vo vp hd ll at_ beats rl idle nr nf).lookup ("beats" : Str) = some (.int (beats : Int)) := by simp [machF, List.lookup, ofS_beq]
theorem lk_M_rows : (machF ml vo vp hd ll at_ beats rl idle nr nf).lookup ("rows" : Str) = some (.ref rl) := by simp [machF, List.lookup, ofS_beq]
theorem lk_M_idle : (machF ml vo vp hd ll at_ beats rl idle nr nf).lookup ("idle" : Str) = some (.bl idle) := by simp [machF, List.lookup, ofS_beq]
theorem lk_M_many_reads : (machF ml vo vp hd ll at_ beats rl idle nr nf).lookup ("many_reads" : Str) = some (.int (nr : Int)) := by simp [machF, List.lookup, ofS_beq]
theorem lk_M_many_fetches : (machF ml vo vp hd ll at_ beats rl idle nr nf).lookup ("many_fetches" : Str) = some (.int (nf : Int)) := by simp [machF, List.lookup, ofS_beq]
theorem pt_M_at : putF "at" (.int (k : Int)) (machF ml vo vp hd ll at_ beats rl idle nr nf) = machF ml vo vp hd ll k beats rl idle nr nf := by simp [putF, machF, ofS_inj]
theorem pt_M_at' : putF "at" (.int ((at_ : Int) + 1)) (machF ml vo vp hd ll at_ beats rl idle nr nf) = machF ml vo vp hd ll (at_ + 1) beats rl idle nr nf := pt_M_at (k := at_ + 1)
theorem pt_M_beats : putF "beats" (.int (k : Int)) (machF ml vo vp hd ll at_ beats rl idle nr nf) = machF ml vo vp hd ll at_ k rl idle nr nf := by simp [putF, machF, ofS_inj]
theorem pt_M_beats' : putF "beats" (.int ((beats : Int) + 1)) (machF ml vo vp hd ll at_ beats rl idle nr nf) = machF ml vo vp hd ll at_ (beats + 1) rl idle nr nf := pt_M_beats (k := beats + 1)
theorem pt_M_reads : putF "many_reads" (.int (k : Int)) (machF ml vo vp hd ll at_ beats rl idle nr nf) = machF ml vo vp hd ll at_ beats rl idle k nf := by simp [putF, machF, ofS_inj]
theorem pt_M_reads' : putF "many_reads" (.int ((nr : Int) + 1)) (machF ml vo vp hd ll at_ beats rl idle nr nf) = machF ml vo vp hd ll at_ beats rl idle (nr + 1) nf := pt_M_reads (k := nr + 1)
theorem pt_M_fetches : putF "many_fetches" (.int (k : Int)) (machF ml vo vp hd ll at_ beats rl idle nr nf) = machF ml vo vp hd ll at_ beats rl idle nr k := by simp [putF, machF, ofS_inj]
theorem pt_M_fetches' : putF "many_fetches" (.int ((nf : Int) + 1)) (machF ml vo vp hd ll at_ beats rl idle nr nf) = machF ml vo vp hd ll at_ beats rl idle nr (nf + 1) := pt_M_fetches (k := nf + 1)
theorem pt_M_idle : putF "idle" (.bl b) (machF ml vo vp hd ll at_ beats rl idle nr nf) = machF ml vo vp hd ll at_ beats rl b nr nf := by simp [putF, machF, ofS_inj]
theorem pt_M_left : putF "left" (.ref x) (machF ml vo vp hd ll at_ beats rl idle nr nf) = machF ml vo vp hd x at_ beats rl idle nr nf := by simp [putF, machF, ofS_inj]
theorem pt_M_rows : putF "rows" (.ref x) (machF ml vo vp hd ll at_ beats rl idle nr nf) = machF ml vo vp hd ll at_ beats x idle nr nf := by simp [putF, machF, ofS_inj]
theorem len_M : (machF ml vo vp hd ll at_ beats rl idle nr nf).length < 1000 := by simp [machF]
theorem no_M_note : (machF ml vo vp hd ll at_ beats rl idle nr nf).lookup ("note" : Str) = none := by simp [machF, List.lookup, ofS_beq]
theorem no_M_take : (machF ml vo vp hd ll at_ beats rl idle nr nf).lookup ("take" : Str) = none := by simp [machF, List.lookup, ofS_beq]
theorem no_M_read : (machF ml vo vp hd ll at_ beats rl idle nr nf).lookup ("read" : Str) = none := by simp [machF, List.lookup, ofS_beq]
theorem no_M_write : (machF ml vo vp hd ll at_ beats rl idle nr nf).lookup ("write" : Str) = none := by simp [machF, List.lookup, ofS_beq]
theorem no_M_clean : (machF ml vo vp hd ll at_ beats rl idle nr nf).lookup ("clean" : Str) = none := by simp [machF, List.lookup, ofS_beq]
theorem no_M_drop : (machF ml vo vp hd ll at_ beats rl idle nr nf).lookup ("drop" : Str) = none := by simp [machF, List.lookup, ofS_beq]
theorem no_M_process : (machF ml vo vp hd ll at_ beats rl idle nr nf).lookup ("process" : Str) = none := by simp [machF, List.lookup, ofS_beq]
theorem no_M_may_rest : (machF ml vo vp hd ll at_ beats rl idle nr nf).lookup ("may_rest" : Str) = none := by simp [machF, List.lookup, ofS_beq]
theorem no_M_carry : (machF ml vo vp hd ll at_ beats rl idle nr nf).lookup ("carry" : Str) = none := by simp [machF, List.lookup, ofS_beq]
theorem no_M_is_over : (machF ml vo vp hd ll at_ beats rl idle nr nf).lookup ("is_over" : Str) = none := by simp [machF, List.lookup, ofS_beq]
theorem no_M_finish : (machF ml vo vp hd ll at_ beats rl idle nr nf).lookup ("finish" : Str) = none := by simp [machF, List.lookup, ofS_beq]
theorem no_M_copied : (machF ml vo vp hd ll at_ beats rl idle nr nf).lookup ("copied" : Str) = none := by simp [machF, List.lookup, ofS_beq]
theorem no_M_key : (machF ml vo vp hd ll at_ beats rl idle nr nf).lookup ("key" : Str) = none := by simp [machF, List.lookup, ofS_beq]
end
/-- what the dict of held lines holds -/
inductive HeldR (H : Hp) : List (Key × V) → List HE → List Addr → Prop
  | nil : HeldR H [] [] []
  | cons {l : Nat} {ns : List Int} {b : Bool} {t c : Addr} {kvs : List (Key × V)} {es : List HE} {cs : List Addr} (h1 : H t = some (.tup [.ref c, .bl b])) (h2 : H c = some (.lst (ns.map V.int))) (h3 : HeldR H kvs es cs) :
      HeldR H ((Sum.inl (l : Int), .ref t) :: kvs) ((l, ns, b) :: es) (c :: cs)
section
variable {H H2 : Hp} {kvs : List (Key × V)} {es : List HE} {cs : List Addr}
theorem key_inj {l k : Nat} : (Sum.inl (l : Int) : Key) = Sum.inl (k : Int) ↔ l = k := by
  constructor
  · intro h
    exact Int.ofNat.inj (Sum.inl.inj h)
  · intro h
    rw [h]
theorem HeldR.keep {G : List Addr} (h : HeldR H kvs es cs) (f : Fr G H H2) (k : Kp H H2) (n : ∀ c ∈ cs, c ∉ G) : HeldR H2 kvs es cs := by
  induction h with
  | nil => exact .nil
  | cons h1 h2 h3 ih => exact .cons (k _ _ h1) (f _ _ h2 (n _ List.mem_cons_self)) (ih fun c hc => n c (List.mem_cons_of_mem _ hc))
theorem HeldR.ex (h : HeldR H kvs es cs) (e : Ex H H2) : HeldR H2 kvs es cs := h.keep (G := []) e.fr e.kp fun _ _ => by simp
theorem HeldR.len (h : HeldR H kvs es cs) : kvs.length = es.length := by
  induction h with
  | nil => rfl
  | cons h1 h2 h3 ih => simp [ih]
theorem HeldR.keys (h : HeldR H kvs es cs) : kvs.map (·.1) = (es.map fun e => (e.1 : Int)).map Sum.inl := by
  induction h with
  | nil => rfl
  | cons h1 h2 h3 ih => simp [ih]
theorem HeldR.lost {l : Nat} (h : HeldR H kvs es cs) (e : hget es l = none) : valV kvs (Sum.inl (l : Int)) = none := by
  induction h with
  | nil => rfl
  | @cons l' ns b t c kvs es cs h1 h2 h3 ih =>
    have e' : (if l' = l then some (ns, b) else hget es l) = none := e
    by_cases q : l' = l
    · rw [if_pos q] at e'
      cases e'
    · rw [if_neg q] at e'
      rw [valV_neg (fun z => q (key_inj.mp z))]
      exact ih e'
theorem HeldR.get {l : Nat} {ns : List Int} {b : Bool} (h : HeldR H kvs es cs) (e : hget es l = some (ns, b)) : ∃ t c, valV kvs (Sum.inl (l : Int)) = some (.ref t) ∧ H t = some (.tup [.ref c, .bl b]) ∧ H c = some (.lst (ns.map V.int)) ∧ c ∈ cs := by
  induction h with
  | nil => cases e
  | @cons l' ns' b' t c kvs es cs h1 h2 h3 ih =>
    have e' : (if l' = l then some (ns', b') else hget es l) = some (ns, b) := e
    by_cases q : l' = l
    · rw [if_pos q] at e'
      cases e'
      exact ⟨t, c, valV_pos (key_inj.mpr q), h1, h2, List.mem_cons_self⟩
    · rw [if_neg q] at e'
      obtain ⟨t', c', g1, g2, g3, g4⟩ := ih e'
      exact ⟨t', c', by rw [valV_neg (fun z => q (key_inj.mp z))]; exact g1, g2, g3, List.mem_cons_of_mem _ g4⟩
theorem HeldR.add {l : Nat} {ns : List Int} {b : Bool} {t c : Addr} (h : HeldR H kvs es cs) (h1 : H t = some (.tup [.ref c, .bl b])) (h2 : H c = some (.lst (ns.map V.int))) : HeldR H (kvs ++ [(Sum.inl (l : Int), .ref t)]) (es ++ [(l, ns, b)]) (cs ++ [c]) := by
  induction h with
  | nil => exact .cons h1 h2 .nil
  | cons g1 g2 g3 ih => exact .cons g1 g2 ih
theorem HeldR.del {l : Nat} (h : HeldR H kvs es cs) : ∃ cs', HeldR H (dropK kvs (Sum.inl (l : Int))) (hdel es l) cs' ∧ cs'.Sublist cs := by
  induction h with
  | nil => exact ⟨[], .nil, .slnil⟩
  | @cons l' ns' b' t c kvs es cs h1 h2 h3 ih =>
    obtain ⟨cs', g1, g2⟩ := ih
    by_cases q : l' = l
    · refine ⟨cs', ?_, g2.cons _⟩
      have e1 : dropK ((Sum.inl (l' : Int), V.ref t) :: kvs) (Sum.inl (l : Int)) = dropK kvs (Sum.inl (l : Int)) := by simp [dropK, q]
      have e2 : hdel ((l', ns', b') :: es) l = hdel es l := by simp [hdel, q]
      rw [e1, e2]
      exact g1
    · refine ⟨c :: cs', ?_, g2.cons₂ _⟩
      have e1 : dropK ((Sum.inl (l' : Int), V.ref t) :: kvs) (Sum.inl (l : Int)) = (Sum.inl (l' : Int), V.ref t) :: dropK kvs (Sum.inl (l : Int)) := by
        have : (Sum.inl (l' : Int) : Key) ≠ Sum.inl (l : Int) := fun z => q (key_inj.mp z)
        simp only [dropK, List.filter_cons]
        rw [if_pos (decide_eq_true this)]
      have e2 : hdel ((l', ns', b') :: es) l = (l', ns', b') :: hdel es l := by simp [hdel, q]
      rw [e1, e2]
      exact .cons h1 h2 g1
/-- another list of cells in the same place -/
theorem HeldR.cell {l : Nat} {ns ms : List Int} {b : Bool} {t c : Addr} (h : HeldR H kvs es cs) (hk : (es.map (·.1)).Nodup) (hc : cs.Nodup) (e : hget es l = some (ns, b)) (ev : valV kvs (Sum.inl (l : Int)) = some (.ref t)) (ht : H t = some (.tup [.ref c, .bl b])) (f : Fr [c] H H2) (k : Kp H H2) (h2 : H2 c = some (.lst (ms.map V.int))) : HeldR H2 kvs (hset es l (ms, b)) cs := by
  induction h with
  | nil => cases e
  | @cons l' ns' b' t' c' kvs es cs g1 g2 g3 ih =>
    have e' : (if l' = l then some (ns', b') else hget es l) = some (ns, b) := e
    simp only [List.map_cons, List.nodup_cons] at hk hc
    by_cases q : l' = l
    · rw [if_pos q] at e'
      cases e'
      rw [valV_pos (key_inj.mpr q)] at ev
      cases ev
      rw [g1] at ht
      cases ht
      have e2 : hset ((l', ns, b) :: es) l (ms, b) = (l', ms, b) :: es := by
        show (if l' = l then (l, ms, b) else (l', ns, b)) :: hset es l (ms, b) = _
        rw [if_pos q, ← q]
        congr 1
        unfold hset
        rw [List.map_congr_left (g := id), List.map_id]
        intro a ha
        rw [if_neg]
        · rfl
        · intro z
          exact hk.1 (z ▸ List.mem_map_of_mem ha)
      rw [e2]
      refine .cons (k _ _ g1) h2 (g3.keep f k fun c hcs => ?_)
      intro z
      rw [List.mem_singleton.mp z] at hcs
      exact hc.1 hcs
    · rw [if_neg q] at e'
      rw [valV_neg (fun z => q (key_inj.mp z))] at ev
      have e2 : hset ((l', ns', b') :: es) l (ms, b) = (l', ns', b') :: hset es l (ms, b) := by
        show (if l' = l then (l, ms, b) else (l', ns', b')) :: hset es l (ms, b) = _
        rw [if_neg q]
      rw [e2]
      obtain ⟨t2, c2, z1, z2, z3, z4⟩ := g3.get e'
      rw [ev] at z1
      cases z1
      rw [ht] at z2
      cases z2
      exact .cons (k _ _ g1) (fr1 f g2 (fun z => hc.1 (z ▸ z4))) (ih hk.2 hc.2 e' ev)
/-- another mark -/
theorem HeldR.mark {l : Nat} {ns : List Int} {b b2 : Bool} {t c t2 : Addr} (h : HeldR H kvs es cs) (hk : (es.map (·.1)).Nodup) (e : hget es l = some (ns, b)) (ev : valV kvs (Sum.inl (l : Int)) = some (.ref t)) (ht : H t = some (.tup [.ref c, .bl b])) (ht2 : H t2 = some (.tup [.ref c, .bl b2])) : HeldR H (putK kvs (Sum.inl (l : Int)) (.ref t2)) (hset es l (ns, b2)) cs := by
  have ea : (kvs.any fun kv => decide (kv.1 = Sum.inl (l : Int))) = true := by
    rw [valV_any, ev]
    rfl
  unfold putK
  rw [if_pos ea]
  clear ea
  induction h with
  | nil => cases e
  | @cons l' ns' b' t' c' kvs es cs g1 g2 g3 ih =>
    have e' : (if l' = l then some (ns', b') else hget es l) = some (ns, b) := e
    simp only [List.map_cons, List.nodup_cons] at hk
    rw [List.map_cons]
    by_cases q : l' = l
    · rw [if_pos q] at e'
      cases e'
      rw [valV_pos (key_inj.mpr q)] at ev
      cases ev
      rw [g1] at ht
      cases ht
      rw [if_pos (key_inj.mpr q)]
      have e2 : hset ((l', ns, b) :: es) l (ns, b2) = (l', ns, b2) :: es := by
        show (if l' = l then (l, ns, b2) else (l', ns, b)) :: hset es l (ns, b2) = _
        rw [if_pos q, ← q]
        congr 1
        unfold hset
        rw [List.map_congr_left (g := id), List.map_id]
        intro a ha
        rw [if_neg]
        · rfl
        · intro z
          exact hk.1 (z ▸ List.mem_map_of_mem ha)
      rw [e2]
      have e3 : (kvs.map fun kv => if kv.1 = Sum.inl (l : Int) then (kv.1, V.ref t2) else kv) = kvs := by
        rw [List.map_congr_left (g := id), List.map_id]
        intro a ha
        rw [if_neg]
        · rfl
        · intro z
          have : a.1 ∈ kvs.map (·.1) := List.mem_map_of_mem ha
          rw [g3.keys, z] at this
          simp only [List.mem_map] at this
          obtain ⟨i, ⟨e0, he, rfl⟩, z2⟩ := this
          have z3 := key_inj.mp z2
          exact hk.1 (by rw [q, ← z3]; exact List.mem_map_of_mem he)
      rw [e3]
      exact .cons ht2 g2 g3
    · rw [if_neg q] at e'
      rw [valV_neg (fun z => q (key_inj.mp z))] at ev
      rw [if_neg (fun z => q (key_inj.mp z))]
      have e2 : hset ((l', ns', b') :: es) l (ns, b2) = (l', ns', b') :: hset es l (ns, b2) := by
        show (if l' = l then (l, ns, b2) else (l', ns', b')) :: hset es l (ns, b2) = _
        rw [if_neg q]
      rw [e2]
      exact .cons g1 g2 (ih hk.2 e' ev)
end
structure MA (C : Addr) (vo vp : V) (H : Hp) (p dx hd ml ll rl : Addr) (cs : List Addr) (M : MS) : Prop where
  ob : H p = some (.ins C dx (machF ml vo vp hd ll M.at_ M.beats rl M.idle M.nr M.nf))
  me : H ml = some (.lst (M.mem.map V.int))
  he : ∃ kvs, H hd = some (.dK kvs) ∧ HeldR H kvs M.held cs
  le : ∃ xs, H ll = some (.lst xs) ∧ ImL H (M.left.map pyMv) xs
  ro : ∃ xs, H rl = some (.lst xs) ∧ ImL H (M.rows.map pyRow) xs
  nd : (p :: hd :: ml :: ll :: rl :: cs).Nodup
section
variable {C : Addr} {vo vp : V} {H H2 : Hp} {p dx hd ml ll rl : Addr} {cs : List Addr} {M : MS}
theorem MA.ex (h : MA C vo vp H p dx hd ml ll rl cs M) (e : Ex H H2) : MA C vo vp H2 p dx hd ml ll rl cs M := by
  obtain ⟨ob, me, ⟨k, h1, h2⟩, ⟨x, l1, l2⟩, ⟨y, r1, r2⟩, nd⟩ := h
  exact ⟨e _ _ ob, e _ _ me, ⟨k, e _ _ h1, h2.ex e⟩, ⟨x, e _ _ l1, l2.ex e⟩, ⟨y, e _ _ r1, r2.ex e⟩, nd⟩
theorem MA.keep {G : List Addr} (h : MA C vo vp H p dx hd ml ll rl cs M) (f : Fr G H H2) (k : Kp H H2) (n : ∀ a ∈ p :: hd :: ml :: ll :: rl :: cs, a ∉ G) : MA C vo vp H2 p dx hd ml ll rl cs M := by
  obtain ⟨ob, me, ⟨kv, h1, h2⟩, ⟨x, l1, l2⟩, ⟨y, r1, r2⟩, nd⟩ := h
  exact ⟨f _ _ ob (n _ (by simp)), f _ _ me (n _ (by simp)), ⟨kv, f _ _ h1 (n _ (by simp)), h2.keep f k fun c hc => n c (by simp [hc])⟩, ⟨x, f _ _ l1 (n _ (by simp)), l2.kp k⟩, ⟨y, f _ _ r1 (n _ (by simp)), r2.kp k⟩, nd⟩
structure Nes (p hd ml ll rl : Addr) (cs : List Addr) : Prop where
  p1 : p ≠ hd
  p2 : p ≠ ml
  p3 : p ≠ ll
  p4 : p ≠ rl
  p5 : ∀ c ∈ cs, c ≠ p
  h1 : hd ≠ ml
  h2 : hd ≠ ll
  h3 : hd ≠ rl
  h4 : ∀ c ∈ cs, c ≠ hd
  m1 : ml ≠ ll
  m2 : ml ≠ rl
  m3 : ∀ c ∈ cs, c ≠ ml
  l1 : ll ≠ rl
  l2 : ∀ c ∈ cs, c ≠ ll
  r1 : ∀ c ∈ cs, c ≠ rl
  cs : cs.Nodup
theorem MA.nes (h : MA C vo vp H p dx hd ml ll rl cs M) : Nes p hd ml ll rl cs := by
  have q := h.nd
  simp only [List.nodup_cons, List.mem_cons, not_or] at q
  obtain ⟨⟨a1, a2, a3, a4, a5⟩, ⟨b1, b2, b3, b4⟩, ⟨c1, c2, c3⟩, ⟨d1, d2⟩, e1, g⟩ := q
  exact ⟨a1, a2, a3, a4, fun c hc z => a5 (z ▸ hc), b1, b2, b3, fun c hc z => b4 (z ▸ hc), c1, c2, fun c hc z => c3 (z ▸ hc), d1, fun c hc z => d2 (z ▸ hc), fun c hc z => e1 (z ▸ hc), g⟩
theorem not1 {a : Addr} {cs : List Addr} (h : ∀ c ∈ cs, c ≠ a) : ∀ c ∈ cs, c ∉ [a] := fun c hc z => h c hc (List.mem_singleton.mp z)
theorem MA.mutRows {rows : List Row} {ys : List V} (h : MA C vo vp H p dx hd ml ll rl cs M) (f : Fr [rl] H H2) (k : Kp H H2) (h2 : H2 rl = some (.lst ys)) (iy : ImL H2 (rows.map pyRow) ys) : MA C vo vp H2 p dx hd ml ll rl cs { M with rows := rows } := by
  have n := h.nes
  obtain ⟨ob, me, ⟨kv, h1, h2⟩, ⟨x, l1, l2⟩, ⟨y, r1, r2⟩, nd⟩ := h
  exact ⟨fr1 f ob n.p4, fr1 f me n.m2, ⟨kv, fr1 f h1 n.h3, h2.keep f k (not1 n.r1)⟩, ⟨x, fr1 f l1 n.l1, l2.kp k⟩, ⟨ys, by assumption, iy⟩, nd⟩
theorem MA.mutLeft {left : List Mv} {ys : List V} (h : MA C vo vp H p dx hd ml ll rl cs M) (f : Fr [ll] H H2) (k : Kp H H2) (h2 : H2 ll = some (.lst ys)) (iy : ImL H2 (left.map pyMv) ys) : MA C vo vp H2 p dx hd ml ll rl cs { M with left := left } := by
  have n := h.nes
  obtain ⟨ob, me, ⟨kv, h1, h2⟩, ⟨x, l1, l2⟩, ⟨y, r1, r2⟩, nd⟩ := h
  exact ⟨fr1 f ob n.p3, fr1 f me n.m1, ⟨kv, fr1 f h1 n.h2, h2.keep f k (not1 n.l2)⟩, ⟨ys, by assumption, iy⟩, ⟨y, fr1 f r1 (Ne.symm n.l1), r2.kp k⟩, nd⟩
theorem MA.mutMem {mem : List Int} (h : MA C vo vp H p dx hd ml ll rl cs M) (f : Fr [ml] H H2) (k : Kp H H2) (h2 : H2 ml = some (.lst (mem.map V.int))) : MA C vo vp H2 p dx hd ml ll rl cs { M with mem := mem } := by
  have n := h.nes
  obtain ⟨ob, me, ⟨kv, h1, h2⟩, ⟨x, l1, l2⟩, ⟨y, r1, r2⟩, nd⟩ := h
  exact ⟨fr1 f ob n.p2, by assumption, ⟨kv, fr1 f h1 n.h1, h2.keep f k (not1 n.m3)⟩, ⟨x, fr1 f l1 (Ne.symm n.m1), l2.kp k⟩, ⟨y, fr1 f r1 (Ne.symm n.m2), r2.kp k⟩, nd⟩
theorem MA.mutOb {at_ beats nr nf : Nat} {idle : Bool} (h : MA C vo vp H p dx hd ml ll rl cs M) (f : Fr [p] H H2) (k : Kp H H2) (h2 : H2 p = some (.ins C dx (machF ml vo vp hd ll at_ beats rl idle nr nf))) : MA C vo vp H2 p dx hd ml ll rl cs { M with at_ := at_, beats := beats, idle := idle, nr := nr, nf := nf } := by
  have n := h.nes
  obtain ⟨ob, me, ⟨kv, h1, h2⟩, ⟨x, l1, l2⟩, ⟨y, r1, r2⟩, nd⟩ := h
  exact ⟨by assumption, fr1 f me (Ne.symm n.p2), ⟨kv, fr1 f h1 (Ne.symm n.p1), h2.keep f k (not1 n.p5)⟩, ⟨x, fr1 f l1 (Ne.symm n.p3), l2.kp k⟩, ⟨y, fr1 f r1 (Ne.symm n.p4), r2.kp k⟩, nd⟩
/-- another list of moves -/
theorem MA.newLeft {left : List Mv} {ys : List V} {l2 : Addr} (h : MA C vo vp H p dx hd ml ll rl cs M) (nl : ∀ a ∈ p :: hd :: ml :: ll :: rl :: cs, l2 ≠ a) (f : Fr [p] H H2) (k : Kp H H2) (h2 : H2 p = some (.ins C dx (machF ml vo vp hd l2 M.at_ M.beats rl M.idle M.nr M.nf)))
    (hl : H2 l2 = some (.lst ys)) (iy : ImL H2 (left.map pyMv) ys) : MA C vo vp H2 p dx hd ml l2 rl cs { M with left := left } := by
  have n := h.nes
  obtain ⟨ob, me, ⟨kv, h1, h2⟩, ⟨x, l1, _⟩, ⟨y, r1, r2⟩, nd⟩ := h
  refine ⟨by assumption, fr1 f me (Ne.symm n.p2), ⟨kv, fr1 f h1 (Ne.symm n.p1), h2.keep f k (not1 n.p5)⟩, ⟨ys, hl, iy⟩, ⟨y, fr1 f r1 (Ne.symm n.p4), r2.kp k⟩, ?_⟩
  simp only [List.nodup_cons, List.mem_cons, not_or] at nd ⊢
  obtain ⟨⟨a1, a2, a3, a4, a5⟩, ⟨b1, b2, b3, b4⟩, ⟨c1, c2, c3⟩, ⟨d1, d2⟩, e1, g⟩ := nd
  exact ⟨⟨a1, a2, (nl p (by simp)).symm, a4, a5⟩, ⟨b1, (nl hd (by simp)).symm, b3, b4⟩, ⟨(nl ml (by simp)).symm, c2, c3⟩, ⟨nl rl (by simp), fun z => nl l2 (by simp [z]) rfl⟩, e1, g⟩
/-- another list of rows -/
theorem MA.newRows {rows : List Row} {ys : List V} {l2 : Addr} (h : MA C vo vp H p dx hd ml ll rl cs M) (nl : ∀ a ∈ p :: hd :: ml :: ll :: rl :: cs, l2 ≠ a) (f : Fr [p] H H2) (k : Kp H H2) (h2 : H2 p = some (.ins C dx (machF ml vo vp hd ll M.at_ M.beats l2 M.idle M.nr M.nf)))
    (hl : H2 l2 = some (.lst ys)) (iy : ImL H2 (rows.map pyRow) ys) : MA C vo vp H2 p dx hd ml ll l2 cs { M with rows := rows } := by
  have n := h.nes
  obtain ⟨ob, me, ⟨kv, h1, h2⟩, ⟨x, l1, l3⟩, ⟨y, r1, r2⟩, nd⟩ := h
  refine ⟨by assumption, fr1 f me (Ne.symm n.p2), ⟨kv, fr1 f h1 (Ne.symm n.p1), h2.keep f k (not1 n.p5)⟩, ⟨x, fr1 f l1 (Ne.symm n.p3), l3.kp k⟩, ⟨ys, hl, iy⟩, ?_⟩
  simp only [List.nodup_cons, List.mem_cons, not_or] at nd ⊢
  obtain ⟨⟨a1, a2, a3, a4, a5⟩, ⟨b1, b2, b3, b4⟩, ⟨c1, c2, c3⟩, ⟨d1, d2⟩, e1, g⟩ := nd
  exact ⟨⟨a1, a2, a3, (nl p (by simp)).symm, a5⟩, ⟨b1, b2, (nl hd (by simp)).symm, b4⟩, ⟨c1, (nl ml (by simp)).symm, c3⟩, ⟨(nl ll (by simp)).symm, d2⟩, fun z => nl l2 (by simp [z]) rfl, g⟩
theorem MA.mutHd {held : List HE} {kvs : List (Key × V)} {ds : List Addr} (h : MA C vo vp H p dx hd ml ll rl cs M) (f : Fr [hd] H H2) (k : Kp H H2) (h2 : H2 hd = some (.dK kvs)) (hr : HeldR H2 kvs held ds) (nd2 : (p :: hd :: ml :: ll :: rl :: ds).Nodup) : MA C vo vp H2 p dx hd ml ll rl ds { M with held := held } := by
  have n := h.nes
  obtain ⟨ob, me, _, ⟨x, l1, l2⟩, ⟨y, r1, r2⟩, nd⟩ := h
  exact ⟨fr1 f ob n.p1, fr1 f me (Ne.symm n.h1), ⟨kvs, by assumption, hr⟩, ⟨x, fr1 f l1 (Ne.symm n.h2), l2.kp k⟩, ⟨y, fr1 f r1 (Ne.symm n.h3), r2.kp k⟩, nd2⟩
theorem MA.mutCell {l : Nat} {ns ms : List Int} {b : Bool} {t c : Addr} {kvs : List (Key × V)} (h : MA C vo vp H p dx hd ml ll rl cs M) (hk : (M.held.map (·.1)).Nodup) (e : hget M.held l = some (ns, b)) (hh : H hd = some (.dK kvs)) (ev : valV kvs (Sum.inl (l : Int)) = some (.ref t)) (ht : H t = some (.tup [.ref c, .bl b]))
    (hc : c ∈ cs) (f : Fr [c] H H2) (k : Kp H H2) (h2 : H2 c = some (.lst (ms.map V.int))) : MA C vo vp H2 p dx hd ml ll rl cs (M.put l (ms, b)) := by
  have n := h.nes
  obtain ⟨ob, me, ⟨kv, h1, hr⟩, ⟨x, l1, l2⟩, ⟨y, r1, r2⟩, nd⟩ := h
  rw [h1] at hh
  cases hh
  exact ⟨fr1 f ob (n.p5 c hc).symm, fr1 f me (n.m3 c hc).symm, ⟨_, fr1 f h1 (n.h4 c hc).symm, hr.cell hk n.cs e ev ht f k h2⟩, ⟨x, fr1 f l1 (n.l2 c hc).symm, l2.kp k⟩, ⟨y, fr1 f r1 (n.r1 c hc).symm, r2.kp k⟩, nd⟩
end
theorem HeldR.there {H : Hp} {kvs : List (Key × V)} {es : List HE} {cs : List Addr} (h : HeldR H kvs es cs) : ∀ a ∈ cs, ∃ o, H a = some o := by
  induction h with
  | nil => exact fun a ha => by cases ha
  | cons g1 g2 g3 ih =>
    intro a ha
    rcases List.mem_cons.mp ha with z | z
    · exact ⟨_, z ▸ g2⟩
    · exact ih a z
theorem MA.there {C : Addr} {vo vp : V} {H : Hp} {p dx hd ml ll rl : Addr} {cs : List Addr} {M : MS} (h : MA C vo vp H p dx hd ml ll rl cs M) : ∀ a ∈ p :: hd :: ml :: ll :: rl :: cs, ∃ o, H a = some o := by
  obtain ⟨ob, me, ⟨k, h1, h2⟩, ⟨x, l1, l2⟩, ⟨y, r1, r2⟩, nd⟩ := h
  intro a ha
  simp only [List.mem_cons] at ha
  rcases ha with z | z | z | z | z | z
  · exact ⟨_, z ▸ ob⟩
  · exact ⟨_, z ▸ h1⟩
  · exact ⟨_, z ▸ me⟩
  · exact ⟨_, z ▸ l1⟩
  · exact ⟨_, z ▸ r1⟩
  · exact h2.there a z
theorem MA.free {C : Addr} {vo vp : V} {H : Hp} {p dx hd ml ll rl c : Addr} {cs : List Addr} {M : MS} (h : MA C vo vp H p dx hd ml ll rl cs M) (n : H c = none) : ∀ a ∈ p :: hd :: ml :: ll :: rl :: cs, a ≠ c := fun a ha z => by
  obtain ⟨o, e⟩ := h.there a ha
  rw [z, n] at e
  cases e
theorem nodup_snoc {p hd ml ll rl c : Addr} {cs : List Addr} (h : (p :: hd :: ml :: ll :: rl :: cs).Nodup) (n : ∀ a ∈ p :: hd :: ml :: ll :: rl :: cs, a ≠ c) : (p :: hd :: ml :: ll :: rl :: (cs ++ [c])).Nodup := by
  have e : p :: hd :: ml :: ll :: rl :: (cs ++ [c]) = (p :: hd :: ml :: ll :: rl :: cs) ++ [c] := rfl
  rw [e, List.nodup_append]
  exact ⟨h, by simp, fun a ha b hb => by rw [List.mem_singleton.mp hb]; exact n a ha⟩
/-- a machine, with all that it holds (F) -/
def Mac (C : Addr) (vo vp : V) (p : Addr) (F : List Addr) (H : Hp) (M : MS) : Prop := ∃ dx hd ml ll rl cs, F = p :: hd :: ml :: ll :: rl :: cs ∧ MA C vo vp H p dx hd ml ll rl cs M
/-- only what was in F, and what is new -/
structure Chg (F : List Addr) (H : Hp) (F2 : List Addr) (H2 : Hp) : Prop where
  fr : Fr F H H2
  kp : Kp H H2
  own : ∀ a ∈ F2, a ∈ F ∨ H a = none
theorem Chg.refl (F : List Addr) (H : Hp) : Chg F H F H := ⟨Fr.refl _ _, Kp.refl _, fun _ h => .inl h⟩
theorem Chg.trans {F F1 F2 : List Addr} {H H1 H2 : Hp} (a : Chg F H F1 H1) (b : Chg F1 H1 F2 H2) : Chg F H F2 H2 := by
  refine ⟨fun x o hx hn => ?_, a.kp.trans b.kp, fun x hx => ?_⟩
  · refine b.fr x o (a.fr x o hx hn) fun z => ?_
    rcases a.own x z with z | z
    · exact hn z
    · rw [hx] at z
      cases z
  · rcases b.own x hx with z | z
    · exact a.own x z
    · by_cases hF : x ∈ F
      · exact .inl hF
      · cases e : H x with
        | none => exact .inr rfl
        | some o =>
          rw [a.fr x o e hF] at z
          cases z
theorem Chg.grow {F F2 : List Addr} {a : Addr} {H H2 : Hp} (h : a ∈ F) (f : Fr [a] H H2) (k : Kp H H2) (n : ∀ a ∈ F2, a ∈ F ∨ H a = none) : Chg F H F2 H2 := ⟨f.mono (by simpa using h), k, n⟩
theorem Chg.ex {F : List Addr} {H H2 : Hp} (e : Ex H H2) : Chg F H F H2 := ⟨e.fr, e.kp, fun _ h => .inl h⟩
theorem Chg.mut {F : List Addr} {a : Addr} {H H2 : Hp} (h : a ∈ F) (f : Fr [a] H H2) (k : Kp H H2) : Chg F H F H2 := ⟨f.mono (by simpa using h), k, fun _ h => .inl h⟩
/-- what is new at first -/
theorem Chg.fresh {F : List Addr} {H H2 : Hp} (c : Chg [] H F H2) : Ex H H2 := fun a o h => c.fr a o h (by simp)
theorem Chg.into {F F2 : List Addr} {H H1 H2 : Hp} (e : Ex H H1) (n : ∀ a ∈ F, H a = none) (c : Chg F H1 F2 H2) : Chg [] H F2 H2 := by
  refine ⟨fun a o h _ => c.fr a o (e a o h) (fun z => by rw [n a z] at h; cases h), e.kp.trans c.kp, fun a h => .inr ?_⟩
  rcases c.own a h with z | z
  · exact n a z
  · exact e.free z
theorem Mac.ex {C : Addr} {vo vp : V} {p : Addr} {F : List Addr} {H H2 : Hp} {M : MS} (h : Mac C vo vp p F H M) (e : Ex H H2) : Mac C vo vp p F H2 M := by
  obtain ⟨dx, hd, ml, ll, rl, cs, h1, h2⟩ := h
  exact ⟨dx, hd, ml, ll, rl, cs, h1, h2.ex e⟩
end BC
/-! BCDict: d.update, pops, displays, slices, sums of lists. -/
namespace BC
open PySem PySem.Spec PyProof.Rows L2
section
variable {X : Cx} {pins : List (Addr × Obj)} {σ : L2.St} {H : Hp} {s : Shared} {a b : Addr} {A : Around} {E : Value → Shared → Prop} {kvs ls : List (Key × V)}
theorem d_update {Q : Value → Shared → Prop} (I : Inv X pins σ H s) (e : H a = some (.dK kvs)) (eb : Rd H b (.dK ls)) (hne : a ≠ b) (hz : kvs.length + ls.length ≤ 100000)
    (h : ∀ s', Inv X pins σ (upd H a (.dK (mergeK kvs ls))) s' → Q .none s') : wpAny (model X.prog X.w) A (call (.builtin "dict.update") [.ref a, .ref b]) Q E s := by
  obtain ⟨z, hd, vs, rel, dd⟩ := dk_of I.hok e
  obtain ⟨z2, hd2, rs, rel2, dd2⟩ := dk_rd I.hok eb
  refine call_meetsIn PySem.F.slot_dict_update dd.typeIs PySem.F.entry_dict_update (PySem.F.args_dict_update_2 _ _) (meets_dict_update (mixKind X.prog X.w) a b hne hd2)
    ⟨vs, rs, dd, dd2, by rw [← rel.length, ← rel2.length]; exact sz_le hz, fun h' dd' _ hs => h _ ?_⟩
  have he : ∃ q, h'.get? a = some q := let ⟨q, _, _, hq, _⟩ := dd'; ⟨q, hq⟩
  exact d_write (t' := s.toks) I (by rw [e]; exact True.intro) hs he (dk_new (Nat.le_trans (length_mergeK ls kvs) (sz_le hz)) hd (rel2.merge rel) dd')
end
/-- d.update(e) -/
def DUpdP (a : Addr) (y : V) (H2 : Hp) (Q : VK) : Prop := ∃ b kvs ls, y = .ref b ∧ a ≠ b ∧ H2 a = some (.dK kvs) ∧ Rd H2 b (.dK ls) ∧ kvs.length + ls.length ≤ 100000 ∧ Q .non (upd H2 a (.dK (mergeK kvs ls)))
def tDUpd (td ty : TE) : TE := fun σ H Q => td σ H fun x H1 => ∃ a, x = .ref a ∧ IsD H1 a ∧ ty σ H1 fun y H2 => DUpdP a y H2 Q
theorem pe_dupd {X : Cx} {o e : Expr} {apos cpos : Pos} {td ty : TE} (ho : PE X o td) (he : PE X e ty) (m : M1 X o "update" apos e cpos) : PE X (.Call (.Attribute o "update" apos) [e] [] cpos) (tDUpd td ty) := by
  refine ⟨fun pins s σ H Q I h => ?_⟩
  refine wpAny_Call_method m.base m.few m.line PySem.F.plainAttrs_dict PySem.F.slot_dict_update PySem.F.type_dict_update (thn (ho.run pins s σ H _ I h) fun u s1 ⟨x, H1, I1, rx, a, ex, d, q1⟩ => ?_)
  subst ex
  obtain rfl : u = Value.ref a := rx
  obtain ⟨t1, t2, _⟩ := isD_at I1 d
  refine ⟨t1, t2, ?_⟩
  rw [m.trees]
  refine Calls.callWith_builtin rfl (Calls.evalArgs_plain (Calls.spliced_cons (thn (he.run pins s1 σ H1 _ I1 q1) fun iv s2 ⟨y, H2, I2, ry, b, kvs, ls, ey, hne, ea, eb, hz, q2⟩ => Calls.spliced_nil ?_)))
  subst ey
  obtain rfl : iv = Value.ref b := ry
  exact d_update I2 ea eb hne hz fun s3 I3 => ⟨.non, _, I3, rfl, q2⟩
section
variable {K : PySem.W.Frag} {σ : L2.St} {H H0 H1 : Hp} {D : Ends} {Q : VK} {td ty te ta tb : TE} {v x y : V} {xs ys : List V} {a b l p : Addr} {kvs ls : List (Key × V)} {k : Key}
theorem st_dupd (h : td σ H fun x H1 => ∃ a, x = .ref a ∧ IsD H1 a ∧ ty σ H1 fun y H2 => DUpdP a y H2 Q) : tDUpd td ty σ H Q := h
theorem st_isD (h : H a = some (.dK kvs)) {A : Prop} {F : Addr → Prop} (q : F a) : ∃ c, V.ref a = .ref c ∧ IsD H c ∧ F c := ⟨a, rfl, .inl ⟨kvs, .inl h⟩, q⟩
theorem st_dupdP (ha : H a = some (.dK kvs)) (hb : H b = some (.dK ls)) (hne : a ≠ b) (hz : kvs.length + ls.length ≤ 100000) (q : ∀ H2, Fr [a] H H2 → Kp H H2 → H2 a = some (.dK (mergeK kvs ls)) → Q .non H2) : DUpdP a (.ref b) H Q :=
  ⟨b, kvs, ls, rfl, hne, ha, .inl hb, hz, q _ (Fr.mut (List.mem_singleton.mpr rfl) (Fr.refl _ _)) (Kp.mut (nt_of ha trivial) (Kp.refl _)) upd_same⟩
def DPopP (a : Addr) (y : V) (H2 : Hp) (Q : VK) : Prop := ∃ kvs k v, H2 a = some (.dK kvs) ∧ y = kV k ∧ valV kvs k = some v ∧ Q v (upd H2 a (.dK (dropK kvs k)))
theorem st_dpop (h : td σ H fun x H1 => ∃ a, x = .ref a ∧ IsD H1 a ∧ ty σ H1 fun y H2 => DPopP a y H2 Q) : tDPop1 td ty σ H Q := h
theorem st_dpopP (h : H a = some (.dK kvs)) (hy : y = kV k) (e : valV kvs k = some v) (q : ∀ H2, Fr [a] H H2 → Kp H H2 → H2 a = some (.dK (dropK kvs k)) → Q v H2) : DPopP a y H Q :=
  ⟨kvs, k, v, h, hy, e, q _ (Fr.mut (List.mem_singleton.mpr rfl) (Fr.refl _ _)) (Kp.mut (nt_of h trivial) (Kp.refl _)) upd_same⟩
/-! displays -/
def DispP (p : Addr) (Q : VK) (ps : List (V × V)) (H2 : Hp) : Prop := H2 p = some (.dK []) ∧ ∃ kvs : List (Key × V), ps = kvs.map (fun kv => (kV kv.1, kv.2)) ∧ kvs.length ≤ 15 ∧ Q (.ref p) (upd H2 p (.dK (mergeK [] kvs)))
theorem st_disp {trs : List (TE × TE)} (q : ∀ p H2, H p = none → Ex H H2 → H2 p = some (.dK []) → tPairs trs σ H2 (DispP p Q)) : tDisp trs σ H Q := fun p hp => q p _ hp (Ex.new hp) upd_same
theorem st_pcons {tk tv : TE} {r : List (TE × TE)} {QP : List (V × V) → Hp → Prop} (h : tk σ H fun x H1 => tv σ H1 fun y H2 => tPairs r σ H2 fun ps H3 => QP ((x, y) :: ps) H3) : tPairs ((tk, tv) :: r) σ H QP := h
theorem st_pnil {QP : List (V × V) → Hp → Prop} (h : QP [] H) : tPairs [] σ H QP := h
theorem st_dispP {ps : List (V × V)} (h : H p = some (.dK [])) (kvs : List (Key × V)) (e : ps = kvs.map fun kv => (kV kv.1, kv.2)) (hl : kvs.length ≤ 15) (q : ∀ H2, Fr [p] H H2 → Kp H H2 → H2 p = some (.dK (mergeK [] kvs)) → Q (.ref p) H2) : DispP p Q ps H :=
  ⟨h, kvs, e, hl, q _ (Fr.mut (List.mem_singleton.mpr rfl) (Fr.refl _ _)) (Kp.mut (nt_of h trivial) (Kp.refl _)) upd_same⟩
/-! slices -/
theorem st_sl {r : V → Option Int → Option Int → Hp → VK → Prop} {tl th : TO} (h : te σ H fun x H1 => tl σ H1 fun lo H2 => th σ H2 fun hi H3 => r x lo hi H3 Q) : L2.tSl r te tl th σ H Q := h
theorem st_npart {QO : Option Int → Hp → Prop} (h : QO none H) : tNoPart σ H QO := h
theorem st_part {QO : Option Int → Hp → Prop} (h : te σ H fun x H1 => ∃ i, x = .int i ∧ QO (some i) H1) : tPart te σ H QO := h
theorem st_pint {i : Int} {F : Int → Prop} (h : F i) : ∃ j, V.int i = .int j ∧ F j := ⟨i, rfl, h⟩
theorem st_slL {lo hi : Option Int} {zs : List V} (h : H l = some (.lst xs)) (e : cutV xs lo hi = zs) (q : ∀ p H2, H p = none → Ex H H2 → H2 p = some (.lst zs) → Q (.ref p) H2) : rSlL K (.ref l) lo hi H Q :=
  ⟨l, xs, rfl, SqL.of h, fun p hp => q p _ hp (Ex.new hp) (by rw [e]; exact upd_same)⟩
theorem cut_both {lo hi : Nat} (h : hi ≤ xs.length) (h2 : lo ≤ hi) : cutV xs (some (lo : Int)) (some (hi : Int)) = (xs.drop lo).take (hi - lo) := by
  unfold cutV
  rw [HT.sIx_nat, HT.sIx_nat, Nat.min_eq_left h, Nat.min_eq_left (Nat.le_trans h2 h)]
theorem cut_to {hi : Nat} (h : hi ≤ xs.length) : cutV xs none (some (hi : Int)) = xs.take hi := by
  unfold cutV
  rw [HT.sIx_nat, Nat.min_eq_left h]
  rfl
theorem cut_from {lo : Nat} (h : lo ≤ xs.length) : cutV xs (some (lo : Int)) none = xs.drop lo := by
  unfold cutV
  rw [HT.sIx_nat, Nat.min_eq_left h]
  show (xs.drop lo).take (xs.length - lo) = _
  rw [List.take_of_length_le (by rw [List.length_drop]; omega)]
theorem st_cat (ha : H a = some (.lst xs)) (hb : H b = some (.lst ys)) (hl : xs.length + ys.length ≤ 100000) (q : ∀ p H2, H p = none → Ex H H2 → H2 p = some (.lst (xs ++ ys)) → Q (.ref p) H2) : rCat (.ref a) (.ref b) H Q :=
  ⟨a, b, xs, ys, rfl, rfl, ha, hb, sz_le hl, fun p hp => q p _ hp (Ex.new hp) upd_same⟩
end
theorem u1 {k : Nat} {A : Around} (h : Room k A) : A.units + 1 < cLine := Nat.lt_of_le_of_lt (Nat.add_le_add_left (by decide) _) h.units
theorem cut_line {ns : List Int} {l : Nat} (h : 4 * l + 4 ≤ ns.length) : cutV (ns.map V.int) (some (4 * (l : Int))) (some (4 * (l : Int) + 4)) = ((ns.drop (4 * l)).take 4).map V.int := by
  have e1 : (4 * (l : Int)) = ((4 * l : Nat) : Int) := by omega
  have e2 : (4 * (l : Int) + 4) = ((4 * l + 4 : Nat) : Int) := by omega
  rw [e2, e1, cut_both (by rw [List.length_map]; exact h) (Nat.le_add_right _ _), Nat.add_sub_cancel_left, List.map_take, List.map_drop]
theorem div4 (c : Nat) : (c : Int) / 4 = ((c / 4 : Nat) : Int) := by omega
theorem mod4 (c : Nat) : (c : Int) % 4 = ((c % 4 : Nat) : Int) := by omega
/-! whether a list is empty -/
theorem eqv_lnil (ds : List PyData) : PyData.eqv (.list ds) (.list []) = ds.isEmpty := by
  cases ds <;> simp [PyData.eqv, PyData.eqvAll]
theorem sh_mv {n : Nat} {m : Mv} : Sh (n + 1) (pyMv m) := by
  refine sh_tup fun d hd => ?_
  simp only [List.mem_cons, List.not_mem_nil, or_false] at hd
  rcases hd with rfl | rfl | rfl
  · exact sh_int
  · exact sh_int
  · exact sh_opt
theorem sh_mvs {ms : List Mv} : SeqAt.shaped (.list (ms.map pyMv)) = true := (sh_lst (n := 1) fun d hd => by
  obtain ⟨m, _, rfl⟩ := List.mem_map.mp hd
  exact sh_mv).shaped
theorem sh_lnil : SeqAt.shaped (.list []) = true := (sh_lst (n := 0) (by simp)).shaped
section
variable {K : PySem.W.Frag} {H : Hp} {Q : VK} {a b : Addr} {xs : List V} {ms : List Mv}
theorem st_neMv (ha : H a = some (.lst xs)) (hi : ImL H (ms.map pyMv) xs) (hb : H b = some (.lst [])) (q : Q (.bl (!ms.isEmpty)) H) : rNeD K (.ref a) (.ref b) H Q := by
  refine st_neD (lst_dp ha hi) (lst_dp hb iml_nil) sh_mvs sh_lnil ?_
  rw [eqv_lnil, show (ms.map pyMv).isEmpty = ms.isEmpty by cases ms <;> rfl]
  exact q
theorem st_eqMv (ha : H a = some (.lst xs)) (hi : ImL H (ms.map pyMv) xs) (hb : H b = some (.lst [])) (q : Q (.bl ms.isEmpty) H) : rEqD K (.ref a) (.ref b) H Q := by
  refine st_eqD (lst_dp ha hi) (lst_dp hb iml_nil) sh_mvs sh_lnil ?_
  rw [eqv_lnil, show (ms.map pyMv).isEmpty = ms.isEmpty by cases ms <;> rfl]
  exact q
end
end BC
/-! BCGo: the run as data: how far it goes, what grows. -/
namespace BC
open PySem PySem.Spec PyProof.Rows L2
/-- only memory, lines and rows differ; rows by n at the most -/
structure Grew (n : Nat) (M M2 : MS) : Prop where
  at_ : M2.at_ = M.at_
  beats : M2.beats = M.beats
  left : M2.left = M.left
  idle : M2.idle = M.idle
  rows : M2.rows.length ≤ M.rows.length + n
section
variable {M : MS}
theorem Grew.refl (n : Nat) (M : MS) : Grew n M M := ⟨rfl, rfl, rfl, rfl, Nat.le_add_right _ _⟩
theorem Grew.trans {a b : Nat} {M M1 M2 : MS} (h : Grew a M M1) (g : Grew b M1 M2) : Grew (a + b) M M2 :=
  ⟨g.at_.trans h.at_, g.beats.trans h.beats, g.left.trans h.left, g.idle.trans h.idle, by have := h.rows; have := g.rows; omega⟩
theorem Grew.mono {a b : Nat} {M M1 : MS} (h : Grew a M M1) (l : a ≤ b) : Grew b M M1 := ⟨h.at_, h.beats, h.left, h.idle, Nat.le_trans h.rows (by omega)⟩
theorem grew_note (w : Str) (p : Nat) (k : Int) : Grew 1 M (M.note w p k) := ⟨rfl, rfl, rfl, rfl, by simp [MS.note]⟩
theorem grew_take (l : Nat) : Grew 1 M (M.take l) := by
  unfold MS.take
  split
  · exact Grew.refl _ _
  · exact ⟨rfl, rfl, rfl, rfl, by simp [MS.note]⟩
theorem grew_read (c : Nat) : Grew 2 M (M.read c) := (grew_take _).trans (grew_note _ _ _)
theorem grew_put (l : Nat) (v : List Int × Bool) : Grew 0 M (M.put l v) := ⟨rfl, rfl, rfl, rfl, Nat.le_refl _⟩
theorem grew_write (c : Nat) (v : Int) : Grew 2 M (M.write c v) := ((grew_take (c / 4)).trans (grew_put (c / 4) _)).trans (grew_note "write" c v)
theorem grew_clean (l : Nat) : Grew 1 M (M.clean l) := by
  unfold MS.clean
  split
  · exact ⟨rfl, rfl, rfl, rfl, by simp [MS.note]⟩
  · exact Grew.refl _ _
theorem grew_drop (l : Nat) : Grew 1 M (M.drop l) := by
  unfold MS.drop
  split
  · exact ⟨rfl, rfl, rfl, rfl, by simp [MS.note]⟩
  · exact Grew.refl _ _
theorem grew_bell (o : Option Nat) : Grew 1 M (M.bell o) := by
  cases o with
  | none => exact Grew.refl _ _
  | some k => exact grew_note _ _ _
/-- what a deed does to the counts -/
theorem deed_grew {cells : Nat} {os : List Ord} (g : OrdsOk cells os) (h4 : os.length ≤ 4) (d : Deed) : (M.deed os d).at_ = M.at_ ∧ (M.deed os d).beats = M.beats ∧ (M.deed os d).idle = M.idle ∧ (M.deed os d).left.length ≤ M.left.length + 32 ∧ (M.deed os d).rows.length ≤ M.rows.length + 6 := by
  have u : ∀ {M2 : MS}, Grew 6 M M2 → M2.at_ = M.at_ ∧ M2.beats = M.beats ∧ M2.idle = M.idle ∧ M2.left.length ≤ M.left.length + 32 ∧ M2.rows.length ≤ M.rows.length + 6 := fun h => ⟨h.at_, h.beats, h.idle, by rw [h.left]; omega, h.rows⟩
  cases d with
  | set c k => exact u ((grew_write c _).mono (by decide))
  | add c o => exact u (((grew_read c).trans (grew_read o)).trans (grew_write c _))
  | say c => exact u (((grew_read c).trans (grew_note "say" c _)).mono (by decide))
  | start k =>
    have hl := moves_len g (os.length - k) k
    refine ⟨rfl, rfl, rfl, ?_, ?_⟩
    · show (M.left ++ movesOf os k).length ≤ _
      rw [List.length_append]
      have : (movesOf os k).length ≤ 8 * os.length := moves_len g _ _
      omega
    · show (M.rows ++ [_]).length ≤ _
      rw [List.length_append, List.length_singleton]
      omega
  | wait => exact u (Grew.refl _ _)
  | clean l => exact u ((grew_clean l).mono (by decide))
  | drop l => exact u ((grew_drop l).mono (by decide))
theorem carry_grew : M.carry.at_ = M.at_ ∧ M.carry.beats = M.beats ∧ M.carry.idle = M.idle ∧ M.carry.left = M.left.tail ∧ M.carry.rows.length ≤ M.rows.length + 3 := by
  unfold MS.carry
  split
  · rename_i e
    rw [e]
    exact ⟨rfl, rfl, rfl, rfl, Nat.le_add_right _ _⟩
  · rename_i m r e
    have h := grew_bell (M := ({ (({ M with left := r } : MS).note "fetch" m.src (M.mem.getD m.src 0)) with mem := M.mem.set m.dst (M.mem.getD m.src 0) } : MS).note "put" m.dst (M.mem.getD m.src 0)) m.bell
    refine ⟨h.at_, h.beats, h.idle, ?_, Nat.le_trans h.rows ?_⟩
    · rw [h.left, e]
      rfl
    · simp [MS.note]
end
/-- what holds while it goes -/
structure Going (b : Bd) (M : MS) : Prop where
  ok : M.Ok b.mem.length
  far : M.beats + M.fuel b ≤ 1980
  rows : M.rows.length ≤ 9 * M.beats
  le : M.at_ ≤ b.prog.length
theorem Going.left {b : Bd} {M : MS} (h : Going b M) : M.left.length ≤ 1980 := by
  have := h.far
  unfold MS.fuel at this
  omega
theorem Going.rows' {b : Bd} {M : MS} (h : Going b M) : M.rows.length ≤ 18000 := by
  have := h.far
  have := h.rows
  omega
theorem Going.init {b : Bd} (g : Good b) : Going b (MS.init b) := by
  have := g.len
  refine ⟨MS.Ok.init, ?_, Nat.le_refl _, Nat.zero_le _⟩
  simp only [MS.init, MS.fuel, List.length_nil]
  omega
section
variable {b : Bd} {M : MS}
/-- the processor's part -/
theorem process_grew (g : Good b) : (M.process b).beats = M.beats ∧ (M.process b).rows.length ≤ M.rows.length + 6 ∧ (M.process b).left.length ≤ M.left.length + 32 ∧
    ((M.process b).idle = true → (M.process b).left = M.left ∧ (M.process b).at_ = M.at_) ∧ ((M.process b).idle = false → (M.process b).fuel b + 1 ≤ M.fuel b) ∧ (M.process b).idle = M.isIdle b.prog := by
  unfold MS.process
  by_cases hi : M.isIdle b.prog = true
  · rw [if_pos hi]
    exact ⟨rfl, Nat.le_add_right _ _, Nat.le_add_right _ _, fun _ => ⟨rfl, rfl⟩, fun z => (by cases z), hi.symm⟩
  · rw [if_neg hi]
    have hlt : M.at_ < b.prog.length := by
      unfold MS.isIdle at hi
      simp only [Bool.or_eq_true, decide_eq_true_eq, not_or] at hi
      omega
    have e : b.prog[M.at_]? = some b.prog[M.at_] := List.getElem?_eq_getElem hlt
    rw [e]
    obtain ⟨h1, h2, h3, h4, h5⟩ := deed_grew (M := { M with idle := false, at_ := M.at_ + 1 }) g.ordsOk g.ords b.prog[M.at_]
    refine ⟨h2, h5, h4, fun z => ?_, fun _ => ?_, ?_⟩
    · have z' : (MS.deed b.ords { M with idle := false, at_ := M.at_ + 1 } b.prog[M.at_]).idle = true := z
      rw [h3] at z'
      cases z'
    · show (b.prog.length - (MS.deed b.ords { M with idle := false, at_ := M.at_ + 1 } b.prog[M.at_]).at_) * 33 + _ + 1 ≤ (b.prog.length - M.at_) * 33 + M.left.length
      rw [h1]
      have h4' : (MS.deed b.ords { M with idle := false, at_ := M.at_ + 1 } b.prog[M.at_]).left.length ≤ M.left.length + 32 := h4
      show (b.prog.length - (M.at_ + 1)) * 33 + (MS.deed b.ords { M with idle := false, at_ := M.at_ + 1 } b.prog[M.at_]).left.length + 1 ≤ _
      omega
    · refine Eq.trans h3 ?_
      show false = _
      exact ((Bool.not_eq_true _).mp hi).symm
theorem beat_less (g : Good b) (ho : M.over b = false) (pace : List Bool) : (M.beat b pace).fuel b < M.fuel b := by
  obtain ⟨h1, h2, h3, h4, h5, h6⟩ := process_grew (M := M) g
  obtain ⟨c1, c2, c3, c4, c5⟩ := carry_grew (M := M.process b)
  unfold MS.beat MS.tick MS.moved
  by_cases hi : (M.process b).idle = true
  · have hp : ((M.process b).pick pace).1 = true := by
      unfold MS.pick MS.mayRest
      rw [hi]
      simp
    rw [hp]
    obtain ⟨e1, e2⟩ := h4 hi
    have hne : M.left ≠ [] := by
      intro z
      rw [hi] at h6
      unfold MS.isIdle at h6
      unfold MS.over at ho
      rw [z] at h6 ho
      simp at h6 ho
      omega
    show (b.prog.length - (M.process b).carry.at_) * 33 + (M.process b).carry.left.length < _
    rw [c1, c4, e2, e1]
    unfold MS.fuel
    cases hl : M.left with
    | nil => exact absurd hl hne
    | cons m r => simp
  · have h5' := h5 (by simpa using hi)
    by_cases hm : ((M.process b).pick pace).1 = true
    · rw [if_pos hm]
      show (b.prog.length - (M.process b).carry.at_) * 33 + (M.process b).carry.left.length < _
      rw [c1, c4]
      unfold MS.fuel at h5' ⊢
      have : (M.process b).left.tail.length ≤ (M.process b).left.length := by simp
      omega
    · rw [if_neg hm]
      show (b.prog.length - (M.process b).at_) * 33 + (M.process b).left.length < _
      unfold MS.fuel at h5' ⊢
      omega
theorem Going.beat (h : Going b M) (g : Good b) (ho : M.over b = false) (pace : List Bool) : Going b (M.beat b pace) := by
  have hf := beat_less g ho pace
  obtain ⟨h1, h2, h3, h4, h5, h6⟩ := process_grew (M := M) g
  obtain ⟨c1, c2, c3, c4, c5⟩ := carry_grew (M := M.process b)
  have hb : (M.beat b pace).beats = M.beats + 1 := by
    unfold MS.beat MS.tick MS.moved
    split
    · show (M.process b).carry.beats + 1 = _
      rw [c2, h1]
    · show (M.process b).beats + 1 = _
      rw [h1]
  have hr : (M.beat b pace).rows.length ≤ M.rows.length + 9 := by
    unfold MS.beat MS.tick MS.moved
    split
    · show (M.process b).carry.rows.length ≤ _
      omega
    · show (M.process b).rows.length ≤ _
      omega
  have := h.far
  have := h.rows
  refine ⟨h.ok.beat g pace, by omega, by omega, ?_⟩
  have ha : (M.process b).at_ ≤ b.prog.length := by
    unfold MS.process
    split
    · exact h.le
    · split
      · rename_i d e
        have := (deed_grew (M := { M with idle := false, at_ := M.at_ + 1 }) g.ordsOk g.ords d).1
        rw [this]
        exact (List.getElem?_eq_some_iff.mp e).1
      · exact h.le
  unfold MS.beat MS.tick MS.moved
  split
  · show (M.process b).carry.at_ ≤ _
    rw [c1]
    exact ha
  · exact ha
end
/-! ### the end -/
theorem clean_out {M : MS} {l : Nat} (h : l ∉ M.held.map (·.1)) : M.clean l = M := by
  unfold MS.clean
  split
  · rename_i e
    have : (hget M.held l).isSome = true := by rw [e]; rfl
    exact absurd (hget_mem.mp this) h
  · rfl
theorem clean_keys (M : MS) (l : Nat) : (M.clean l).held.map (·.1) = M.held.map (·.1) := by
  unfold MS.clean
  split
  · show (hset M.held l _).map (·.1) = _
    rw [hset_keys]
  · rfl
theorem cleans_keys : ∀ (ls : List Nat) (M : MS), (ls.foldl MS.clean M).held.map (·.1) = M.held.map (·.1)
  | [], _ => rfl
  | l :: r, M => by
    rw [List.foldl_cons, cleans_keys r, clean_keys]
theorem cleans_filter : ∀ (ls : List Nat) (M : MS), ls.foldl MS.clean M = (ls.filter fun l => decide (l ∈ M.held.map (·.1))).foldl MS.clean M
  | [], _ => rfl
  | l :: r, M => by
    rw [List.foldl_cons, cleans_filter r, clean_keys]
    by_cases h : l ∈ M.held.map (·.1)
    · rw [List.filter_cons, if_pos (decide_eq_true h), List.foldl_cons]
    · rw [List.filter_cons, if_neg (by simpa using h), clean_out h]
theorem cleans_ok {n : Nat} : ∀ (ls : List Nat) {M : MS}, M.Ok n → (ls.foldl MS.clean M).Ok n
  | [], _, h => h
  | l :: r, M, h => by
    rw [List.foldl_cons]
    exact cleans_ok r (h.clean l)
theorem cleans_grew : ∀ (ls : List Nat) (M : MS), Grew ls.length M (ls.foldl MS.clean M)
  | [], _ => Grew.refl _ _
  | l :: r, M => by
    rw [List.foldl_cons]
    exact ((grew_clean l).trans (cleans_grew r _)).mono (by simp only [List.length_cons]; omega)
/-- the keys in order -/
theorem sorted_keys {n : Nat} {M : MS} (h : M.Ok n) (h16 : n / 4 ≤ 4) {ys : List Int} (hp : ys.Perm (M.held.map fun e => (e.1 : Int))) (hs : ys.Pairwise (· ≤ ·)) :
    ys = ((List.range 4).filter fun l => decide (l ∈ M.held.map (·.1))).map fun l : Nat => (l : Int) := by
  have inj : ∀ {a b : Nat}, (a : Int) = (b : Int) → a = b := fun h => Int.ofNat.inj h
  have nd1 : (M.held.map fun e => (e.1 : Int)).Nodup := by
    have e : (M.held.map fun e => (e.1 : Int)) = (M.held.map (·.1)).map fun l : Nat => (l : Int) := by rw [List.map_map]; rfl
    rw [e]
    exact List.Pairwise.map _ (fun a b hab z => hab (inj z)) h.nd
  have nd2 : (((List.range 4).filter fun l => decide (l ∈ M.held.map (·.1))).map fun l : Nat => (l : Int)).Nodup := by
    refine List.Pairwise.map _ (fun a b hab z => hab (inj z)) (List.Pairwise.filter _ List.nodup_range)
  refine List.Perm.eq_of_pairwise (le := (· ≤ ·)) (fun a b _ _ h1 h2 => Int.le_antisymm h1 h2) hs ?_ (hp.trans ?_)
  · refine List.Pairwise.map (R := fun a b : Nat => a < b) _ (fun a b hab => ?_) (List.Pairwise.filter _ List.pairwise_lt_range)
    show (a : Int) ≤ (b : Int)
    omega
  · rw [List.perm_ext_iff_of_nodup nd1 nd2]
    intro a
    simp only [List.mem_map, List.mem_filter, List.mem_range, decide_eq_true_eq]
    constructor
    · rintro ⟨e, he, rfl⟩
      have := (h.lines e he).1
      exact ⟨e.1, ⟨by omega, ⟨e, he, rfl⟩⟩, rfl⟩
    · rintro ⟨l, ⟨_, ⟨e, he, rfl⟩⟩, rfl⟩
      exact ⟨e, he, rfl⟩
/-! ### a board that a machine goes by -/
def BoardAt (H : Hp) (b : Bd) (vo vp : V) : Prop := Im H (pyOrds (b.ords.map Ord.raw)) vo ∧ Im H (pyProg (b.prog.map Deed.raw)) vp
theorem BoardAt.kp {H H2 : Hp} {b : Bd} {vo vp : V} (h : BoardAt H b vo vp) (k : Kp H H2) : BoardAt H2 b vo vp := ⟨h.1.kp k, h.2.kp k⟩
theorem eqv_wait (d : Deed) : PyData.eqv (pyDeed d.raw) (.tuple [.str "wait"]) = decide (d = .wait) := by
  cases d <;> simp [pyDeed, Deed.raw, PyData.eqv, PyData.eqvAll, ofS_inj, ofS_beq]
theorem sh_deed (d : Deed) : SeqAt.shaped (pyDeed d.raw) = true := by
  refine (sh_tup (n := 0) fun e he => ?_).shaped
  cases d <;> simp only [Deed.raw, List.map_cons, List.map_nil, List.mem_cons, List.not_mem_nil, or_false] at he
  · rcases he with rfl | rfl | rfl
    · exact sh_str (by decide +kernel)
    · exact sh_int
    · exact sh_int
  · rcases he with rfl | rfl | rfl
    · exact sh_str (by decide +kernel)
    · exact sh_int
    · exact sh_int
  · rcases he with rfl | rfl
    · exact sh_str (by decide +kernel)
    · exact sh_int
  · rcases he with rfl | rfl
    · exact sh_str (by decide +kernel)
    · exact sh_int
  · rcases he with rfl
    exact sh_str (by decide +kernel)
  · rcases he with rfl | rfl
    · exact sh_str (by decide +kernel)
    · exact sh_int
  · rcases he with rfl | rfl
    · exact sh_str (by decide +kernel)
    · exact sh_int
theorem st_eqWait {K : PySem.W.Frag} {H H0 : Hp} {Q : VK} {v : V} {t : Addr} {d : Deed} (h : Im H0 (pyDeed d.raw) v) (k : Kp H0 H) (ht : H t = some (.tup [.str "wait"])) (q : Q (.bl (decide (d = .wait))) H) : rEqD K v (.ref t) H Q := by
  refine st_eqD ((h.kp k).dp _ _) ((im_tup ht (iml_cons im_str iml_nil)).dp _ _) (sh_deed d) (sh_deed .wait) ?_
  rw [eqv_wait]
  exact q
theorem st_sorted {K : PySem.W.Frag} {H : Hp} {Q : VK} {a : Addr} {kvs : List (Key × V)} {es : List HE} {cs : List Addr} (h : H a = some (.dK kvs)) (hR : HeldR H kvs es cs) (hl : es.length < 64)
    (q : ∀ (ys : List Int) p H2, ys.Perm (es.map fun e => (e.1 : Int)) → ys.Pairwise (· ≤ ·) → H p = none → Ex H H2 → H2 p = some (.lst (ys.map V.int)) → Q (.ref p) H2) :
    ∃ (a' : Addr) (kvs : List (Key × V)) (ks : List Int), [V.ref a] = [.ref a'] ∧ Rd H a' (.dK kvs) ∧ kvs.map (·.1) = ks.map Sum.inl ∧ ks.length < 64 ∧
      ∀ (ys : List Int) (p : Addr), ys.Perm ks → ys.Pairwise (· ≤ ·) → H p = none → Q (.ref p) (upd H p (.lst (ys.map V.int))) :=
  ⟨a, kvs, _, rfl, .inl h, hR.keys, by rw [List.length_map]; exact hl, fun ys p h1 h2 hp => q ys p _ h1 h2 hp (Ex.new hp) upd_same⟩
theorem iml_bls {H : Hp} : ∀ {bs : List Bool}, ImL H (bs.map PyData.bool) (bs.map V.bl)
  | [] => iml_nil
  | _ :: _ => iml_cons im_bl iml_bls
theorem sh_bls {bs : List Bool} : SeqAt.shaped (.list (bs.map PyData.bool)) = true := (sh_lst (n := 0) fun d hd => by
  obtain ⟨m, _, rfl⟩ := List.mem_map.mp hd
  exact sh_bool).shaped
theorem st_neBl {K : PySem.W.Frag} {H : Hp} {Q : VK} {a b : Addr} {bs : List Bool} (ha : H a = some (.lst (bs.map V.bl))) (hb : H b = some (.lst [])) (q : Q (.bl (!bs.isEmpty)) H) : rNeD K (.ref a) (.ref b) H Q := by
  refine st_neD (lst_dp ha iml_bls) (lst_dp hb iml_nil) sh_bls sh_lnil ?_
  rw [eqv_lnil, show (bs.map PyData.bool).isEmpty = bs.isEmpty by cases bs <;> rfl]
  exact q
def saidOf (rs : List Row) : List Int := (rs.filter fun r => decide (r.2.1 = ("say" : Str))).map fun r => r.2.2.2
/-- [row[3] for row in rows if row[1] == "say"] -/
theorem st_said {K : PySem.W.Frag} {σ : L2.St} {H1 : Hp} {Q : VK} {l : Addr} {i : Nat} {own : List Nat} {rs : List Row} {xs : List V} (h : H1 l = some (.lst xs)) (hi : ImL H1 (rs.map pyRow) xs) (hn : rs.length ≤ 50000)
    (hv : ∀ v, ((wipe σ own).set i (some v))[i]? = some (some v)) (hw : ∀ v, wipe ((wipe σ own).set i (some v)) own = wipe σ own)
    (q : ∀ D H2, H1 D = none → Ex H1 H2 → H2 D = some (.lst ((saidOf rs).map V.int)) → Q (.ref D) H2) :
    LcL K (gName i) (tTest (tOp rEq (tOp (rIxT K) (tVar i) (tC (.int 1))) (tC (.str "say")))) (tOp (rIxT K) (tVar i) (tC (.int 3))) own σ (.ref l) H1 Q := by
  refine st_lcList (SqL.of h) fun D H2 nD e2 hD => ?_
  refine ⟨fun j H' => Ex H1 H' ∧ H' D = some (.lst ((saidOf (rs.take j)).map V.int)), ⟨e2, hD⟩, fun j H' hh => SqL.of (hh.1 _ _ h), fun j v H' hv1 hh => ?_, fun H' hh => ?_⟩
  · obtain ⟨e', hacc⟩ := hh
    obtain ⟨dd, g1, g2⟩ := hi.get' hv1
    obtain ⟨r, g3, rfl⟩ := map_at' g1
    refine st_name ⟨hw v, ?_⟩
    have g2' := g2.ex e'
    refine st_test (st_op (st_op (st_var (hv v) (st_c ?_))))
    refine st_ixT_str g2' (Kp.refl _) (atI_nat (j := 1) rfl) ?_
    refine st_c (st_eqS (st_bl ?_))
    have ht : rs.take (j + 1) = rs.take j ++ [r] := by rw [List.take_add_one, g3]; rfl
    refine st_D (fun hs => ?_) (fun hs => ?_)
    · refine st_op (st_var (hv v) (st_c ?_))
      refine st_ixT_int g2' (Kp.refl _) (atI_nat (j := 3) rfl) ?_
      have hl : ((saidOf (rs.take j)).map V.int).length ≤ rs.length := by
        rw [List.length_map]
        unfold saidOf
        rw [List.length_map]
        exact Nat.le_trans (List.length_filter_le _ _) (by rw [List.length_take]; omega)
      refine st_lcPut hacc (by omega) fun H5 f5 k5 h5 => ?_
      refine ⟨Fr.ex e' (fun a ha => by rw [List.mem_singleton.mp ha]; exact nD) f5, ?_⟩
      rw [h5, ht]
      unfold saidOf
      rw [List.filter_append, List.filter_cons, if_pos (decide_eq_true hs)]
      simp
    · refine ⟨e', ?_⟩
      rw [hacc, ht]
      unfold saidOf
      rw [List.filter_append, List.filter_cons, if_neg (by simpa using hs)]
      simp
  · obtain ⟨e', hacc⟩ := hh
    rw [hi.length, List.length_map, List.take_length] at hacc
    exact q D H' nD e' hacc
/-- how much a run tells -/
theorem run_going {b : Bd} (g : Good b) : ∀ (n : Nat) {M : MS} (pace : List Bool), Going b M → Going b (MS.run b n M pace)
  | 0, _, _, h => h
  | n + 1, M, pace, h => by
    show Going b (if M.over b = true then M else _)
    by_cases ho : M.over b = true
    · rw [if_pos ho]
      exact h
    · rw [if_neg ho]
      exact run_going g n _ (h.beat g (by simpa using ho) pace)
theorem gone_ok {b : Bd} (g : Good b) (pace : List Bool) : (goneOf b pace).Ok b.mem.length ∧ (goneOf b pace).rows.length ≤ 18010 ∧ (goneOf b pace).beats ≤ 1980 := by
  have h := run_going g 1980 pace (Going.init g)
  have gr := cleans_grew (List.range 4) (MS.run b 1980 (MS.init b) pace)
  have h1 := h.rows'
  have h2 := h.far
  have h3 := gr.rows
  have h4 := gr.beats
  rw [List.length_range] at h3
  have e : goneOf b pace = (List.range 4).foldl MS.clean (MS.run b 1980 (MS.init b) pace) := rfl
  rw [e]
  exact ⟨cleans_ok _ h.ok, by omega, by rw [h4]; omega⟩
def MS.start (ns : List Int) : MS := ⟨ns, [], [], 0, 0, [], false, 0, 0⟩
/-- the parts of a board, memory a list or a tuple -/
def Parts (H : Hp) (x vo vp : V) (ns : List Int) : Prop := ∃ ax am, x = .ref ax ∧ H ax = some (.tup [.ref am, vo, vp]) ∧ (H am = some (.lst (ns.map V.int)) ∨ H am = some (.tup (ns.map V.int)))
theorem Im.parts {H : Hp} {b : Bd} {x : V} (h : Im H (pyB b.raw) x) : ∃ vo vp, Parts H x vo vp b.mem ∧ BoardAt H b vo vp := by
  obtain ⟨ax, xs, rfl, hax, hxs⟩ := h.tup
  obtain ⟨vm, xs, rfl, hm, hxs⟩ := hxs.cons_inv
  obtain ⟨vo, xs, rfl, hos, hxs⟩ := hxs.cons_inv
  obtain ⟨vp, xs, rfl, hpr, hxs⟩ := hxs.cons_inv
  cases hxs.nil_inv
  obtain ⟨am, xm, rfl, ham, hxm⟩ := hm.tup
  cases ImL.ints.mp hxm
  exact ⟨vo, vp, ⟨ax, am, rfl, hax, .inr ham⟩, hos, hpr⟩
theorem BoxAt.new {H : Hp} {b l D : Addr} (h : BoxAt H b l) (n : H D = none) : D ∉ [b, l] := by
  obtain ⟨_, h1, _⟩ := h.box
  obtain ⟨_, h2⟩ := h.nums
  simp only [List.mem_cons, List.not_mem_nil, or_false, not_or]
  exact ⟨fun z => (by rw [z, h1] at n; cases n), fun z => (by rw [z, h2] at n; cases n)⟩
theorem Dr.free {b l D : Addr} {H H1 : Hp} (d : Dr b l H H1) (n : H1 D = none) : H D = none := by
  cases e : H D with
  | none => rfl
  | some o =>
    have := d.1 D o e (d.2.2.new n)
    rw [this] at n
    cases n
theorem log_small {z : Int} (hz : z.natAbs < 512) : z.natAbs.log2 < 9000 := by
  have := Nat.log2_le_self z.natAbs
  omega
/-! ### the words of the rows -/
def RowsOk (M : MS) : Prop := ∀ r ∈ M.rows, PyData.strOk r.2.1 = true
section
variable {M : MS}
theorem RowsOk.note (h : RowsOk M) {w : Str} (hw : PyData.strOk w = true) (p : Nat) (k : Int) : RowsOk (M.note w p k) := fun r hr => by
  rcases List.mem_append.mp hr with hr | hr
  · exact h r hr
  · rw [List.mem_singleton.mp hr]
    exact hw
theorem RowsOk.take (h : RowsOk M) (l : Nat) : RowsOk (M.take l) := by
  unfold MS.take
  split
  · exact h
  · exact RowsOk.note (M := { M with held := _ }) h (by decide +kernel) _ _
theorem RowsOk.read (h : RowsOk M) (c : Nat) : RowsOk (M.read c) := (h.take _).note (by decide +kernel) _ _
theorem RowsOk.write (h : RowsOk M) (c : Nat) (v : Int) : RowsOk (M.write c v) := RowsOk.note (M := (M.take (c / 4)).put (c / 4) _) (h.take _) (by decide +kernel) _ _
theorem RowsOk.clean (h : RowsOk M) (l : Nat) : RowsOk (M.clean l) := by
  unfold MS.clean
  split
  · exact RowsOk.note (M := { M with mem := _, held := _ }) h (by decide +kernel) _ _
  · exact h
theorem RowsOk.drop (h : RowsOk M) (l : Nat) : RowsOk (M.drop l) := by
  unfold MS.drop
  split
  · exact RowsOk.note (M := { M with held := _ }) h (by decide +kernel) _ _
  · exact h
theorem RowsOk.deed (h : RowsOk M) (os : List Ord) (d : Deed) : RowsOk (M.deed os d) := by
  cases d with
  | set c k => exact h.write c _
  | add c o => exact ((h.read c).read o).write c _
  | say c => exact (h.read c).note (by decide +kernel) _ _
  | start k => exact RowsOk.note (M := { M with left := _ }) h (by decide +kernel) _ _
  | wait => exact h
  | clean l => exact h.clean l
  | drop l => exact h.drop l
theorem RowsOk.process (h : RowsOk M) (b : Bd) : RowsOk (M.process b) := by
  unfold MS.process
  split
  · exact h
  · split
    · exact RowsOk.deed (M := { M with idle := false, at_ := M.at_ + 1 }) h _ _
    · exact h
theorem RowsOk.bell (h : RowsOk M) (o : Option Nat) : RowsOk (M.bell o) := by
  cases o with
  | none => exact h
  | some k => exact h.note (by decide +kernel) _ _
theorem RowsOk.carry (h : RowsOk M) : RowsOk M.carry := by
  unfold MS.carry
  split
  · exact h
  · rename_i m r e
    have h1 : RowsOk (({ M with left := r } : MS).note "fetch" m.src (M.mem.getD m.src 0)) := RowsOk.note (M := { M with left := r }) h (by decide +kernel) _ _
    exact RowsOk.bell (RowsOk.note (M := { (({ M with left := r } : MS).note "fetch" m.src (M.mem.getD m.src 0)) with mem := M.mem.set m.dst (M.mem.getD m.src 0) }) h1 (by decide +kernel) _ _) _
theorem RowsOk.beat (h : RowsOk M) (b : Bd) (pace : List Bool) : RowsOk (M.beat b pace) := by
  unfold MS.beat MS.tick MS.moved
  split
  · exact (h.process b).carry
  · exact h.process b
theorem RowsOk.run (b : Bd) : ∀ (n : Nat) {M : MS} (pace : List Bool), RowsOk M → RowsOk (MS.run b n M pace)
  | 0, _, _, h => h
  | n + 1, M, pace, h => by
    show RowsOk (if M.over b = true then M else _)
    split
    · exact h
    · exact RowsOk.run b n _ (h.beat b pace)
theorem RowsOk.cleans : ∀ (ls : List Nat) {M : MS}, RowsOk M → RowsOk (ls.foldl MS.clean M)
  | [], _, h => h
  | l :: r, M, h => by
    rw [List.foldl_cons]
    exact RowsOk.cleans r (h.clean l)
theorem gone_rows (b : Bd) (pace : List Bool) : RowsOk (goneOf b pace) := RowsOk.cleans _ (RowsOk.run b 1980 pace fun r hr => by cases hr)
end
theorem al_rows {n : Nat} {M : MS} (h : RowsOk M) (hl : M.rows.length ≤ 100000) : Al (n + 2) (.list (M.rows.map pyRow)) := al_lst (by rw [List.length_map]; omega) fun d hd => by
  obtain ⟨r, hr, rfl⟩ := List.mem_map.mp hd
  refine al_tup (by simp) fun e he => ?_
  simp only [List.mem_cons, List.not_mem_nil, or_false] at he
  rcases he with rfl | rfl | rfl | rfl
  · exact al_int
  · exact al_str (h r hr)
  · exact al_int
  · exact al_int
theorem saidOf_len (rs : List Row) : (saidOf rs).length ≤ rs.length := by
  unfold saidOf
  rw [List.length_map]
  exact List.length_filter_le _ _
theorem st_neSame {K : PySem.W.Frag} {H : Hp} {Q : VK} {a b : Addr} {bs : List Bool} (ha : H a = some (.lst (bs.map V.bl))) (hb : H b = some (.lst (bs.map V.bl))) (q : Q (.bl false) H) : rNeD K (.ref a) (.ref b) H Q := by
  refine st_neD (lst_dp ha iml_bls) (lst_dp hb iml_bls) sh_bls sh_bls ?_
  rw [eqv_same (n := 1) (sh_lst fun d hd => by
    obtain ⟨m, _, rfl⟩ := List.mem_map.mp hd
    exact sh_bool)]
  exact q
end BC
/-! BCAmiss: the readings of a run stand in turn with those that are due. -/
namespace BC
open PySem PySem.Spec PyProof.Rows L2
def cellsOf (w : Str) (rs : List Row) : List Nat := (rs.filter fun r => decide (r.2.1 = w)).map fun r => r.2.2.1
theorem cellsOf_snoc (w w' : Str) (rs : List Row) (t p : Nat) (k : Int) : cellsOf w (rs ++ [(t, w', p, k)]) = cellsOf w rs ++ (if w' = w then [p] else []) := by
  unfold cellsOf
  rw [List.filter_append, List.filter_cons]
  by_cases h : w' = w
  · rw [if_pos (decide_eq_true h), if_pos h]
    simp
  · rw [if_neg (by simpa using h), if_neg h]
    simp
def readsOf : Deed → List Nat
  | .add c o => [c, o]
  | .say c => [c]
  | _ => []
def startMoves (os : List Ord) : Deed → List Mv
  | .start k => movesOf os k
  | _ => []
/-- what the rows tell more -/
structure Tells (M M2 : MS) (rd ft : List Nat) : Prop where
  rd : cellsOf "read" M2.rows = cellsOf "read" M.rows ++ rd
  ft : cellsOf "fetch" M2.rows = cellsOf "fetch" M.rows ++ ft
section
variable {M : MS}
theorem Tells.none {M2 : MS} (h : M2.rows = M.rows) : Tells M M2 [] [] := ⟨by rw [h]; simp, by rw [h]; simp⟩
theorem Tells.trans {M1 M2 : MS} {a b c d : List Nat} (h : Tells M M1 a b) (g : Tells M1 M2 c d) : Tells M M2 (a ++ c) (b ++ d) := ⟨by rw [g.rd, h.rd, List.append_assoc], by rw [g.ft, h.ft, List.append_assoc]⟩
theorem tells_note {w : Str} {p : Nat} {k : Int} : Tells M (M.note w p k) (if w = ("read" : Str) then [p] else []) (if w = ("fetch" : Str) then [p] else []) := ⟨cellsOf_snoc _ _ _ _ _ _, cellsOf_snoc _ _ _ _ _ _⟩
theorem tells_other {w : String} {p : Nat} {k : Int} (h1 : w ≠ "read") (h2 : w ≠ "fetch") : Tells M (M.note (Str.ofString w) p k) [] [] := by
  have := tells_note (M := M) (w := Str.ofString w) (p := p) (k := k)
  rwa [if_neg (fun z => h1 (ofS_inj.mp z)), if_neg (fun z => h2 (ofS_inj.mp z))] at this
theorem tells_via {M0 : MS} {w : String} {p : Nat} {k : Int} (h : M0.rows = M.rows) (h1 : w ≠ "read") (h2 : w ≠ "fetch") : Tells M (M0.note (Str.ofString w) p k) [] [] := by
  have := tells_other (M := M0) (p := p) (k := k) h1 h2
  exact ⟨by rw [this.rd, h], by rw [this.ft, h]⟩
theorem tells_take (l : Nat) : Tells M (M.take l) [] [] := by
  unfold MS.take
  split
  · exact Tells.none rfl
  · exact tells_via (w := "take") rfl (by decide) (by decide)
theorem tells_read (c : Nat) : Tells M (M.read c) [c] [] := by
  have h : Tells (M.take (c / 4)) (M.read c) [c] [] := by
    have := tells_note (M := M.take (c / 4)) (w := "read") (p := c) (k := M.val c)
    rwa [if_pos rfl, if_neg (fun z => by have := ofS_inj.mp z; simp at this)] at this
  exact (tells_take _).trans h
theorem tells_write (c : Nat) (v : Int) : Tells M (M.write c v) [] [] := by
  exact (tells_take (c / 4)).trans (tells_via (w := "write") (M0 := (M.take (c / 4)).put (c / 4) (((M.take (c / 4)).cells (c / 4)).set (c % 4) v, true)) rfl (by decide) (by decide))
theorem tells_clean (l : Nat) : Tells M (M.clean l) [] [] := by
  unfold MS.clean
  split
  · exact tells_via (w := "clean") rfl (by decide) (by decide)
  · exact Tells.none rfl
theorem tells_drop (l : Nat) : Tells M (M.drop l) [] [] := by
  unfold MS.drop
  split
  · exact tells_via (w := "drop") rfl (by decide) (by decide)
  · exact Tells.none rfl
theorem tells_deed (os : List Ord) (d : Deed) : Tells M (M.deed os d) (readsOf d) [] := by
  cases d with
  | set c k => exact tells_write c _
  | add c o => exact ((tells_read c).trans (tells_read o)).trans (tells_write c _)
  | say c => exact (tells_read c).trans (tells_other (w := "say") (by decide) (by decide))
  | start k => exact tells_via (w := "start") rfl (by decide) (by decide)
  | wait => exact Tells.none rfl
  | clean l => exact tells_clean l
  | drop l => exact tells_drop l
theorem deed_left (os : List Ord) (d : Deed) : (M.deed os d).left = M.left ++ startMoves os d ∧ (M.deed os d).at_ = M.at_ := by
  cases d with
  | set c k => exact ⟨by rw [show (M.deed os (.set c k)).left = M.left from (grew_write c _).left]; simp [startMoves], (grew_write c _).at_⟩
  | add c o =>
    have h := ((grew_read (M := M) c).trans (grew_read o)).trans (grew_write c ((M.val c + (M.read c).val o) % 10))
    exact ⟨by rw [show (M.deed os (.add c o)).left = M.left from h.left]; simp [startMoves], h.at_⟩
  | say c => exact ⟨by rw [show (M.deed os (.say c)).left = M.left from (grew_read c).left]; simp [startMoves], (grew_read c).at_⟩
  | start k => exact ⟨rfl, rfl⟩
  | wait => exact ⟨by simp [MS.deed, startMoves], rfl⟩
  | clean l => exact ⟨by rw [show (M.deed os (.clean l)).left = M.left from (grew_clean l).left]; simp [startMoves], (grew_clean l).at_⟩
  | drop l => exact ⟨by rw [show (M.deed os (.drop l)).left = M.left from (grew_drop l).left]; simp [startMoves], (grew_drop l).at_⟩
theorem tells_bell (o : Option Nat) : Tells M (M.bell o) [] [] := by
  cases o with
  | none => exact Tells.none rfl
  | some k => exact tells_other (w := "bell") (by decide) (by decide)
theorem tells_carry : Tells M M.carry [] (M.left.take 1 |>.map (·.src)) := by
  unfold MS.carry
  split
  · rename_i e
    rw [e]
    exact Tells.none rfl
  · rename_i m r e
    rw [e]
    have h1 : Tells ({ M with left := r } : MS) (({ M with left := r } : MS).note "fetch" m.src (M.mem.getD m.src 0)) [] [m.src] := by
      have := tells_note (M := { M with left := r }) (w := "fetch") (p := m.src) (k := M.mem.getD m.src 0)
      rwa [if_neg (fun z => by have := ofS_inj.mp z; simp at this), if_pos rfl] at this
    have h2 := (Tells.none (M := (({ M with left := r } : MS).note "fetch" m.src (M.mem.getD m.src 0))) (M2 := { (({ M with left := r } : MS).note "fetch" m.src (M.mem.getD m.src 0)) with mem := M.mem.set m.dst (M.mem.getD m.src 0) }) rfl).trans (tells_other (w := "put") (p := m.dst) (k := M.mem.getD m.src 0) (by decide) (by decide))
    exact (((Tells.none (M := M) (M2 := { M with left := r }) rfl).trans h1).trans h2).trans (tells_bell m.bell)
end
/-- the rows so far tell of just what is done so far -/
structure Told (b : Bd) (M : MS) : Prop where
  rd : cellsOf "read" M.rows = (b.prog.take M.at_).flatMap readsOf
  ft : cellsOf "fetch" M.rows ++ M.left.map (·.src) = ((b.prog.take M.at_).flatMap (startMoves b.ords)).map (·.src)
theorem Told.init (b : Bd) : Told b (MS.init b) := ⟨by simp [MS.init, cellsOf], by simp [MS.init, cellsOf]⟩
section
variable {b : Bd} {M : MS}
theorem Told.process (h : Told b M) : Told b (M.process b) := by
  unfold MS.process
  split
  · exact ⟨h.rd, h.ft⟩
  · split
    · rename_i d e
      obtain ⟨h1, h2⟩ := deed_left (M := { M with idle := false, at_ := M.at_ + 1 }) b.ords d
      have t := tells_deed (M := { M with idle := false, at_ := M.at_ + 1 }) b.ords d
      have et : b.prog.take (M.at_ + 1) = b.prog.take M.at_ ++ [d] := by rw [List.take_add_one, e]; rfl
      constructor
      · rw [t.rd, h2]
        show cellsOf "read" M.rows ++ readsOf d = (b.prog.take (M.at_ + 1)).flatMap readsOf
        rw [et, h.rd, List.flatMap_append]
        simp
      · rw [t.ft, h1, h2]
        show (cellsOf "fetch" M.rows ++ []) ++ (M.left ++ startMoves b.ords d).map (·.src) = ((b.prog.take (M.at_ + 1)).flatMap (startMoves b.ords)).map (·.src)
        rw [et, List.flatMap_append, List.map_append, List.map_append, ← h.ft]
        simp
    · exact h
theorem Told.carry (h : Told b M) : Told b M.carry := by
  obtain ⟨c1, c2, c3, c4, c5⟩ := carry_grew (M := M)
  have t := tells_carry (M := M)
  constructor
  · rw [t.rd, c1, List.append_nil]
    exact h.rd
  · rw [t.ft, c1, c4, ← h.ft, List.append_assoc]
    congr 1
    cases M.left <;> simp
theorem Told.beat (h : Told b M) (pace : List Bool) : Told b (M.beat b pace) := by
  unfold MS.beat MS.tick MS.moved
  split
  · exact ⟨h.process.carry.rd, h.process.carry.ft⟩
  · exact ⟨h.process.rd, h.process.ft⟩
theorem Told.run (b : Bd) : ∀ (n : Nat) {M : MS} (pace : List Bool), Told b M → Told b (MS.run b n M pace)
  | 0, _, _, h => h
  | n + 1, M, pace, h => by
    show Told b (if M.over b = true then M else _)
    split
    · exact h
    · exact Told.run b n _ (h.beat pace)
theorem run_over (g : Good b) : ∀ (n : Nat) {M : MS} (pace : List Bool), M.fuel b ≤ n → (MS.run b n M pace).over b = true
  | 0, M, _, h => by
    show M.over b = true
    unfold MS.fuel at h
    unfold MS.over
    rw [List.length_eq_zero_iff.mp (show M.left.length = 0 by omega), decide_eq_true (by omega)]
    rfl
  | n + 1, M, pace, h => by
    show (if M.over b = true then M else _).over b = true
    by_cases ho : M.over b = true
    · rw [if_pos ho]
      exact ho
    · rw [if_neg ho]
      have := beat_less g (by simpa using ho) pace
      exact run_over g n _ (by omega)
theorem cleans_tells : ∀ (ls : List Nat) (M : MS), Tells M (ls.foldl MS.clean M) [] []
  | [], _ => Tells.none rfl
  | l :: r, M => by
    rw [List.foldl_cons]
    exact (tells_clean l).trans (cleans_tells r _)
end
/-- the whole run -/
theorem gone_told {b : Bd} (g : Good b) (pace : List Bool) : cellsOf "read" (goneOf b pace).rows = b.prog.flatMap readsOf ∧ cellsOf "fetch" (goneOf b pace).rows = (b.prog.flatMap (startMoves b.ords)).map (·.src) := by
  have h := Told.run b 1980 pace (Told.init b)
  have ho := run_over g 1980 pace (show (MS.init b).fuel b ≤ 1980 by have := (Going.init g).far; omega)
  have t := cleans_tells (List.range 4) (MS.run b 1980 (MS.init b) pace)
  have e : goneOf b pace = (List.range 4).foldl MS.clean (MS.run b 1980 (MS.init b) pace) := rfl
  rw [e, t.rd, t.ft, List.append_nil, List.append_nil]
  unfold MS.over at ho
  simp only [Bool.and_eq_true, decide_eq_true_eq, List.isEmpty_iff] at ho
  have h1 := h.rd
  have h2 := h.ft
  rw [List.take_of_length_le ho.1] at h1 h2
  rw [ho.2] at h2
  exact ⟨h1, by simpa using h2⟩
theorem plain_fetches : ∀ (ms : List Mv) (S : PS), (ms.foldl PS.move S).fetches.map (·.1) = S.fetches.map (·.1) ++ ms.map (·.src) ∧ (ms.foldl PS.move S).reads = S.reads
  | [], S => by simp
  | m :: r, S => by
    obtain ⟨h1, h2⟩ := plain_fetches r (S.move m)
    rw [List.foldl_cons, h1, h2]
    simp [PS.move]
theorem plain_deed (os : List Ord) (S : PS) (d : Deed) : (PS.deed os S d).reads.map (·.1) = S.reads.map (·.1) ++ readsOf d ∧ (PS.deed os S d).fetches.map (·.1) = S.fetches.map (·.1) ++ (startMoves os d).map (·.src) := by
  cases d with
  | start k =>
    obtain ⟨h1, h2⟩ := plain_fetches (movesOf os k) S
    exact ⟨by show (((movesOf os k).foldl PS.move S).reads).map _ = _; rw [h2]; simp [readsOf], h1⟩
  | _ => simp [PS.deed, PS.set, PS.look, readsOf, startMoves]
theorem plain_told (os : List Ord) : ∀ (p : List Deed) (S : PS), (p.foldl (PS.deed os) S).reads.map (·.1) = S.reads.map (·.1) ++ p.flatMap readsOf ∧ (p.foldl (PS.deed os) S).fetches.map (·.1) = S.fetches.map (·.1) ++ (p.flatMap (startMoves os)).map (·.src)
  | [], S => by simp
  | d :: r, S => by
    obtain ⟨h1, h2⟩ := plain_told os r (PS.deed os S d)
    obtain ⟨g1, g2⟩ := plain_deed os S d
    rw [List.foldl_cons, h1, h2, g1, g2]
    simp
/-- as many readings as are due -/
theorem reads_due {b : Bd} (g : Good b) (pace : List Bool) : cellsOf "read" (goneOf b pace).rows = (plainOf b).reads.map (·.1) ∧ cellsOf "fetch" (goneOf b pace).rows = (plainOf b).fetches.map (·.1) := by
  obtain ⟨h1, h2⟩ := gone_told g pace
  obtain ⟨p1, p2⟩ := plain_told b.ords b.prog (PS.init b.mem)
  constructor
  · rw [h1]
    exact p1.symm
  · rw [h2]
    exact p2.symm
/-! ### what is amiss -/
structure AS where
  rs : List (Nat × Int)
  fs : List (Nat × Int)
  found : List Row
def AS.step (S : AS) (r : Row) : AS :=
  if r.2.1 = ("read" : Str) then { S with rs := S.rs.tail, found := S.found ++ (if S.rs.head? = some r.2.2 then [] else [r]) }
  else if r.2.1 = ("fetch" : Str) then { S with fs := S.fs.tail, found := S.found ++ (if S.fs.head? = some r.2.2 then [] else [r]) } else S
def endRow (beats : Nat) (mem aim : List Int) (c : Nat) : List Row := if mem.getD c 0 = aim.getD c 0 then [] else [(beats, "end", c, mem.getD c 0)]
def amissRows (b : Bd) (pace : List Bool) : AS := (goneOf b pace).rows.foldl AS.step ⟨(plainOf b).reads, (plainOf b).fetches, []⟩
def amissOf (b : Bd) (pace : List Bool) : List Row := (amissRows b pace).found ++ (List.range (goneOf b pace).mem.length).flatMap (endRow (goneOf b pace).beats (goneOf b pace).mem (plainOf b).mem)
theorem step_lens (rows : List Row) (S : AS) : (rows.foldl AS.step S).rs.length = S.rs.length - (cellsOf "read" rows).length ∧ (rows.foldl AS.step S).fs.length = S.fs.length - (cellsOf "fetch" rows).length ∧ (rows.foldl AS.step S).found.length ≤ S.found.length + rows.length := by
  induction rows generalizing S with
  | nil => simp [cellsOf]
  | cons r rest ih =>
    obtain ⟨h1, h2, h3⟩ := ih (S.step r)
    have ne : (Str.ofString "fetch") ≠ Str.ofString "read" := fun z => by have := ofS_inj.mp z; simp at this
    rw [List.foldl_cons, h1, h2]
    unfold AS.step at h3 ⊢
    by_cases e1 : r.2.1 = ("read" : Str)
    · rw [if_pos e1] at h3 ⊢
      have c1 : cellsOf "read" (r :: rest) = r.2.2.1 :: cellsOf "read" rest := by
        unfold cellsOf
        rw [List.filter_cons, if_pos (decide_eq_true e1)]
        rfl
      have c2 : cellsOf "fetch" (r :: rest) = cellsOf "fetch" rest := by
        unfold cellsOf
        rw [List.filter_cons, if_neg (by rw [e1]; simpa using ne.symm)]
      rw [c1, c2]
      refine ⟨by simp; omega, rfl, Nat.le_trans h3 ?_⟩
      simp only [List.length_append, List.length_cons]
      split <;> simp <;> omega
    · rw [if_neg e1] at h3 ⊢
      have c1 : cellsOf "read" (r :: rest) = cellsOf "read" rest := by
        unfold cellsOf
        rw [List.filter_cons, if_neg (by simpa using e1)]
      rw [c1]
      by_cases e2 : r.2.1 = ("fetch" : Str)
      · rw [if_pos e2] at h3 ⊢
        have c2 : cellsOf "fetch" (r :: rest) = r.2.2.1 :: cellsOf "fetch" rest := by
          unfold cellsOf
          rw [List.filter_cons, if_pos (decide_eq_true e2)]
          rfl
        rw [c2]
        refine ⟨rfl, by simp; omega, Nat.le_trans h3 ?_⟩
        simp only [List.length_append, List.length_cons]
        split <;> simp <;> omega
      · rw [if_neg e2] at h3 ⊢
        have c2 : cellsOf "fetch" (r :: rest) = cellsOf "fetch" rest := by
          unfold cellsOf
          rw [List.filter_cons, if_neg (by simpa using e2)]
        rw [c2]
        exact ⟨rfl, rfl, by simp only [List.length_cons]; omega⟩
/-- where the next row is a read there is one that is due -/
theorem due_left {b : Bd} (g : Good b) (pace : List Bool) {i : Nat} {r : Row} (hi : (goneOf b pace).rows[i]? = some r) :
    (r.2.1 = ("read" : Str) → (((goneOf b pace).rows.take i).foldl AS.step ⟨(plainOf b).reads, (plainOf b).fetches, []⟩).rs ≠ []) ∧ (r.2.1 = ("fetch" : Str) → (((goneOf b pace).rows.take i).foldl AS.step ⟨(plainOf b).reads, (plainOf b).fetches, []⟩).fs ≠ []) := by
  obtain ⟨d1, d2⟩ := reads_due g pace
  obtain ⟨s1, s2, _⟩ := step_lens ((goneOf b pace).rows.take i) ⟨(plainOf b).reads, (plainOf b).fetches, []⟩
  have key : ∀ (w : Str), r.2.1 = w → (cellsOf w ((goneOf b pace).rows.take i)).length < (cellsOf w (goneOf b pace).rows).length := by
    intro w hw
    have e : (goneOf b pace).rows = (goneOf b pace).rows.take i ++ r :: (goneOf b pace).rows.drop (i + 1) := by
      have := List.getElem?_eq_some_iff.mp hi
      obtain ⟨h, e⟩ := this
      rw [← e, ← List.drop_eq_getElem_cons h, List.take_append_drop]
    rw [e]
    unfold cellsOf
    simp only [List.take_append_drop, List.filter_append, List.map_append, List.length_append, List.filter_cons, if_pos (decide_eq_true hw), List.map_cons, List.length_cons]
    rw [← e]
    omega
  constructor
  · intro hw z
    have := key _ hw
    rw [d1] at this
    rw [z] at s1
    simp at s1 this
    omega
  · intro hw z
    have := key _ hw
    rw [d2] at this
    rw [z] at s2
    simp at s2 this
    omega
theorem amissOf_len {b : Bd} (g : Good b) (pace : List Bool) : (amissOf b pace).length ≤ 18100 := by
  obtain ⟨g1, g2, g3⟩ := gone_ok g pace
  obtain ⟨_, _, s3⟩ := step_lens (goneOf b pace).rows ⟨(plainOf b).reads, (plainOf b).fetches, []⟩
  have hl := g1.len
  have gl := g.lines
  have key : ∀ (ls : List Nat), (ls.flatMap (endRow (goneOf b pace).beats (goneOf b pace).mem (plainOf b).mem)).length ≤ ls.length := by
    intro ls
    induction ls with
    | nil => simp
    | cons l r ih =>
      rw [List.flatMap_cons, List.length_append, List.length_cons]
      have : (endRow (goneOf b pace).beats (goneOf b pace).mem (plainOf b).mem l).length ≤ 1 := by
        unfold endRow
        split <;> simp
      omega
  unfold amissOf
  rw [List.length_append]
  have h1 := key (List.range (goneOf b pace).mem.length)
  rw [List.length_range] at h1
  have h2 : (amissRows b pace).found.length ≤ 0 + (goneOf b pace).rows.length := s3
  omega
end BC
/-! BCTurn: the rows of a run in turn: beats, moves, bells. -/
namespace BC
open PySem PySem.Spec PyProof.Rows L2
/-- the beats of the rows of a word -/
def beatsOf (w : Str) (rs : List Row) : List Nat := (rs.filter fun r => decide (r.2.1 = w)).map fun r => r.1
theorem beatsOf_snoc (w w' : Str) (rs : List Row) (t p : Nat) (k : Int) : beatsOf w (rs ++ [(t, w', p, k)]) = beatsOf w rs ++ (if w' = w then [t] else []) := by
  unfold beatsOf
  rw [List.filter_append, List.filter_cons]
  by_cases h : w' = w
  · rw [if_pos (decide_eq_true h), if_pos h]
    simp
  · rw [if_neg (by simpa using h), if_neg h]
    simp
/-- where the law's own check of the moves stands -/
structure WS where
  left : List Mv
  at_ : Nat
  here : Nat × Int
def WS.step (os : List Ord) (S : WS) (r : Row) : Option WS :=
  if r.2.1 = ("start" : Str) then some { S with left := S.left ++ movesOf os r.2.2.1 }
  else if r.2.1 = ("fetch" : Str) then (match S.left[S.at_]? with | some m => if m.src = r.2.2.1 then some { S with here := (r.1, r.2.2.2) } else none | none => none)
  else if r.2.1 = ("put" : Str) then (match S.left[S.at_]? with | some m => if m.dst = r.2.2.1 ∧ (r.1, r.2.2.2) = S.here then some { S with at_ := S.at_ + 1 } else none | none => none)
  else if r.2.1 = ("bell" : Str) then (if S.at_ = 0 then none else match S.left[S.at_ - 1]? with | some m => if m.bell = some r.2.2.1 then some S else none | none => none)
  else some S
def WS.walk (os : List Ord) (S : WS) : List Row → Option WS
  | [] => some S
  | r :: rest => match S.step os r with
    | some T => T.walk os rest
    | none => none
theorem WS.walk_append (os : List Ord) : ∀ (a b : List Row) (S : WS), S.walk os (a ++ b) = (S.walk os a).bind fun T => T.walk os b
  | [], b, S => rfl
  | r :: a, b, S => by
    show (match S.step os r with | some T => T.walk os (a ++ b) | none => none) = _
    cases e : S.step os r with
    | none =>
      show none = (match S.step os r with | some T => T.walk os a | none => none).bind _
      rw [e]
      rfl
    | some T =>
      show T.walk os (a ++ b) = (match S.step os r with | some T => T.walk os a | none => none).bind _
      rw [e, WS.walk_append os a b T]
/-- a word that the check passes over -/
def Plainword (w : Str) : Prop := w ≠ Str.ofString "start" ∧ w ≠ Str.ofString "fetch" ∧ w ≠ Str.ofString "put" ∧ w ≠ Str.ofString "bell"
theorem WS.step_plain {os : List Ord} {S : WS} {r : Row} (h : Plainword r.2.1) : S.step os r = some S := by
  unfold WS.step
  rw [if_neg h.1, if_neg h.2.1, if_neg h.2.2.1, if_neg h.2.2.2]
/-- rows that follow: none of the moves', none of the bells', none of the starts'; of this beat -/
structure Quiet (M M2 : MS) : Prop where
  more : ∃ rs : List Row, M2.rows = M.rows ++ rs ∧ ∀ r ∈ rs, Plainword r.2.1 ∧ r.1 = M.beats
  beats : M2.beats = M.beats
  left : M2.left = M.left
  at_ : M2.at_ = M.at_
section
variable {M : MS}
theorem Quiet.same {M2 : MS} (h : M2.rows = M.rows) (b : M2.beats = M.beats) (l : M2.left = M.left) (a : M2.at_ = M.at_) : Quiet M M2 := ⟨⟨[], by rw [h]; simp, by simp⟩, b, l, a⟩
theorem Quiet.trans {M1 M2 : MS} (h : Quiet M M1) (g : Quiet M1 M2) : Quiet M M2 := by
  obtain ⟨⟨a, a1, a2⟩, h2, h3, h4⟩ := h
  obtain ⟨⟨b, b1, b2⟩, g2, g3, g4⟩ := g
  refine ⟨⟨a ++ b, by rw [b1, a1, List.append_assoc], fun r hr => ?_⟩, g2.trans h2, g3.trans h3, g4.trans h4⟩
  rcases List.mem_append.mp hr with z | z
  · exact a2 r z
  · exact ⟨(b2 r z).1, (b2 r z).2.trans h2⟩
theorem pw {w : String} (h : w ≠ "start" ∧ w ≠ "fetch" ∧ w ≠ "put" ∧ w ≠ "bell") : Plainword (Str.ofString w) := ⟨fun z => h.1 (ofS_inj.mp z), fun z => h.2.1 (ofS_inj.mp z), fun z => h.2.2.1 (ofS_inj.mp z), fun z => h.2.2.2 (ofS_inj.mp z)⟩
theorem quiet_via {M0 : MS} {w : String} {p : Nat} {k : Int} (h : M0.rows = M.rows) (b : M0.beats = M.beats) (l : M0.left = M.left) (a : M0.at_ = M.at_) (hw : w ≠ "start" ∧ w ≠ "fetch" ∧ w ≠ "put" ∧ w ≠ "bell") : Quiet M (M0.note (Str.ofString w) p k) :=
  ⟨⟨[(M0.beats, Str.ofString w, p, k)], by show M0.rows ++ _ = _; rw [h], fun r hr => by rw [List.mem_singleton.mp hr]; exact ⟨pw hw, b⟩⟩, b, l, a⟩
theorem quiet_take (l : Nat) : Quiet M (M.take l) := by
  unfold MS.take
  split
  · exact Quiet.same rfl rfl rfl rfl
  · exact quiet_via (w := "take") rfl rfl rfl rfl (by decide)
theorem quiet_read (c : Nat) : Quiet M (M.read c) := (quiet_take _).trans (quiet_via (w := "read") rfl rfl rfl rfl (by decide))
theorem quiet_write (c : Nat) (v : Int) : Quiet M (M.write c v) := (quiet_take (c / 4)).trans (quiet_via (w := "write") (M0 := (M.take (c / 4)).put (c / 4) (((M.take (c / 4)).cells (c / 4)).set (c % 4) v, true)) rfl rfl rfl rfl (by decide))
theorem quiet_clean (l : Nat) : Quiet M (M.clean l) := by
  unfold MS.clean
  split
  · exact quiet_via (w := "clean") rfl rfl rfl rfl (by decide)
  · exact Quiet.same rfl rfl rfl rfl
theorem quiet_drop (l : Nat) : Quiet M (M.drop l) := by
  unfold MS.drop
  split
  · exact quiet_via (w := "drop") rfl rfl rfl rfl (by decide)
  · exact Quiet.same rfl rfl rfl rfl
theorem quiet_cleans : ∀ (ls : List Nat) (M : MS), Quiet M (ls.foldl MS.clean M)
  | [], _ => Quiet.same rfl rfl rfl rfl
  | l :: r, M => by
    rw [List.foldl_cons]
    exact (quiet_clean l).trans (quiet_cleans r _)
end
/-- the number of a start -/
def startNo : Deed → Option Nat
  | .start k => some k
  | _ => none
/-- what holds of the rows so far (t: the beat that may still tell) -/
structure Turn (b : Bd) (n : Nat) (M : MS) (ps ss : Nat) : Prop where
  sorted : (M.rows.map (·.1)).Pairwise (· ≤ ·)
  top : ∀ r ∈ M.rows, r.1 ≤ M.beats
  puts : (beatsOf "put" M.rows).Pairwise (· < ·)
  putTop : ∀ t ∈ beatsOf "put" M.rows, t < M.beats + ps
  starts : (beatsOf "start" M.rows).Pairwise (· < ·)
  startTop : ∀ t ∈ beatsOf "start" M.rows, t < M.beats + ss
  walk : ∃ S : WS, WS.walk b.ords ⟨[], 0, (0, 0)⟩ M.rows = some S ∧ S.left = (b.prog.take n).flatMap (startMoves b.ords) ∧ S.left.drop S.at_ = M.left ∧ S.at_ ≤ S.left.length ∧ (cellsOf "fetch" M.rows).length = S.at_ ∧ (beatsOf "put" M.rows).length = S.at_ ∧
    cellsOf "bell" M.rows = (S.left.take S.at_).filterMap (·.bell)
  startNos : cellsOf "start" M.rows = (b.prog.take n).filterMap startNo
theorem Turn.init (b : Bd) : Turn b 0 (MS.init b) 0 0 := by
  refine ⟨by simp [MS.init], by simp [MS.init], by simp [MS.init, beatsOf], by simp [MS.init, beatsOf], by simp [MS.init, beatsOf], by simp [MS.init, beatsOf], ⟨⟨[], 0, (0, 0)⟩, rfl, by simp [MS.init], by simp [MS.init], by simp, by simp [MS.init, cellsOf], by simp [MS.init, beatsOf], by simp [MS.init, cellsOf]⟩, by simp [MS.init, cellsOf]⟩
theorem plain_none {w : Str} {rs : List Row} (h : ∀ r ∈ rs, Plainword r.2.1) (hw : w = Str.ofString "start" ∨ w = Str.ofString "fetch" ∨ w = Str.ofString "put" ∨ w = Str.ofString "bell") : cellsOf w rs = [] ∧ beatsOf w rs = [] := by
  have e : (rs.filter fun r => decide (r.2.1 = w)) = [] := by
    rw [List.filter_eq_nil_iff]
    intro r hr z
    have z' := of_decide_eq_true z
    have hp := h r hr
    rcases hw with rfl | rfl | rfl | rfl
    · exact hp.1 z'
    · exact hp.2.1 z'
    · exact hp.2.2.1 z'
    · exact hp.2.2.2 z'
  unfold cellsOf beatsOf
  rw [e]
  exact ⟨rfl, rfl⟩
theorem walk_plain (os : List Ord) : ∀ {rs : List Row} (S : WS), (∀ r ∈ rs, Plainword r.2.1) → S.walk os rs = some S
  | [], _, _ => rfl
  | r :: rest, S, h => by
    show (match S.step os r with | some T => T.walk os rest | none => none) = _
    rw [WS.step_plain (h r List.mem_cons_self)]
    exact walk_plain os S fun r hr => h r (List.mem_cons_of_mem _ hr)
theorem cellsOf_append (w : Str) (a c : List Row) : cellsOf w (a ++ c) = cellsOf w a ++ cellsOf w c := by
  unfold cellsOf
  rw [List.filter_append, List.map_append]
theorem beatsOf_append (w : Str) (a c : List Row) : beatsOf w (a ++ c) = beatsOf w a ++ beatsOf w c := by
  unfold beatsOf
  rw [List.filter_append, List.map_append]
section
variable {b : Bd} {n : Nat} {M : MS} {ps ss : Nat}
theorem Turn.rowsTop (h : Turn b n M ps ss) {rs : List Row} (hr : ∀ r ∈ rs, r.1 = M.beats) : ((M.rows ++ rs).map (·.1)).Pairwise (· ≤ ·) ∧ ∀ r ∈ M.rows ++ rs, r.1 ≤ M.beats := by
  constructor
  · rw [List.map_append, List.pairwise_append]
    refine ⟨h.sorted, ?_, fun x hx y hy => ?_⟩
    · have : rs.map (·.1) = List.replicate rs.length M.beats := by
        rw [List.eq_replicate_iff]
        refine ⟨by simp, fun x hx => ?_⟩
        obtain ⟨r, h1, rfl⟩ := List.mem_map.mp hx
        exact hr r h1
      rw [this]
      exact List.pairwise_replicate.mpr (.inr (Nat.le_refl _))
    · obtain ⟨r, h1, rfl⟩ := List.mem_map.mp hx
      obtain ⟨r2, h2, rfl⟩ := List.mem_map.mp hy
      rw [hr r2 h2]
      exact h.top r h1
  · intro r hr'
    rcases List.mem_append.mp hr' with z | z
    · exact h.top r z
    · exact Nat.le_of_eq (hr r z)
theorem Turn.quiet {M2 : MS} (h : Turn b n M ps ss) (q : Quiet M M2) : Turn b n M2 ps ss := by
  obtain ⟨⟨rs, e, hr⟩, qb, ql, qa⟩ := q
  obtain ⟨h1, h2⟩ := h.rowsTop (rs := rs) fun r z => (hr r z).2
  have pl : ∀ r ∈ rs, Plainword r.2.1 := fun r z => (hr r z).1
  obtain ⟨p1, p2⟩ := plain_none (w := "put") pl (.inr (.inr (.inl rfl)))
  obtain ⟨s1, s2⟩ := plain_none (w := "start") pl (.inl rfl)
  obtain ⟨f1, f2⟩ := plain_none (w := "fetch") pl (.inr (.inl rfl))
  obtain ⟨b1, b2⟩ := plain_none (w := "bell") pl (.inr (.inr (.inr rfl)))
  obtain ⟨S, w1, w2, w3, w4, w5, w6, w7⟩ := h.walk
  refine ⟨by rw [e]; exact h1, by rw [e, qb]; exact h2, ?_, ?_, ?_, ?_, ⟨S, ?_, w2, by rw [ql]; exact w3, w4, ?_, ?_, ?_⟩, ?_⟩
  · rw [e, beatsOf_append, p2, List.append_nil]
    exact h.puts
  · rw [e, beatsOf_append, p2, List.append_nil, qb]
    exact h.putTop
  · rw [e, beatsOf_append, s2, List.append_nil]
    exact h.starts
  · rw [e, beatsOf_append, s2, List.append_nil, qb]
    exact h.startTop
  · rw [e, WS.walk_append, w1]
    exact walk_plain _ S pl
  · rw [e, cellsOf_append, f1, List.append_nil]
    exact w5
  · rw [e, beatsOf_append, p2, List.append_nil]
    exact w6
  · rw [e, cellsOf_append, b1, List.append_nil]
    exact w7
  · rw [e, cellsOf_append, s1, List.append_nil]
    exact h.startNos
theorem Turn.done {d : Deed} (h : Turn b n M ps ss) (e : b.prog[n]? = some d) (h1 : startMoves b.ords d = []) (h2 : startNo d = none) : Turn b (n + 1) M ps ss := by
  have et : b.prog.take (n + 1) = b.prog.take n ++ [d] := by rw [List.take_add_one, e]; rfl
  obtain ⟨S, w1, w2, w3⟩ := h.walk
  refine ⟨h.sorted, h.top, h.puts, h.putTop, h.starts, h.startTop, ⟨S, w1, ?_, w3⟩, ?_⟩
  · rw [et, List.flatMap_append, w2]
    simp [h1]
  · rw [et, List.filterMap_append, h.startNos]
    simp [h2]
theorem snoc_sorted {xs : List Nat} {t : Nat} (h : xs.Pairwise (· < ·)) (ht : ∀ x ∈ xs, x < t) : (xs ++ [t]).Pairwise (· < ·) := by
  rw [List.pairwise_append]
  exact ⟨h, by simp, fun x hx y hy => by rw [List.mem_singleton.mp hy]; exact ht x hx⟩
theorem nes : (Str.ofString "start" ≠ Str.ofString "fetch" ∧ Str.ofString "start" ≠ Str.ofString "put" ∧ Str.ofString "start" ≠ Str.ofString "bell") ∧ (Str.ofString "fetch" ≠ Str.ofString "put" ∧ Str.ofString "fetch" ≠ Str.ofString "bell" ∧ Str.ofString "put" ≠ Str.ofString "bell") := by
  refine ⟨⟨?_, ?_, ?_⟩, ?_, ?_, ?_⟩ <;> intro z <;> have := ofS_inj.mp z <;> simp at this
theorem Turn.startDeed {k : Nat} (h : Turn b n M ps 0) (e : b.prog[n]? = some (.start k)) : Turn b (n + 1) (M.deed b.ords (.start k)) ps 1 := by
  have et : b.prog.take (n + 1) = b.prog.take n ++ [.start k] := by rw [List.take_add_one, e]; rfl
  obtain ⟨S, w1, w2, w3, w4, w5, w6, w7⟩ := h.walk
  obtain ⟨h1, h2⟩ := h.rowsTop (rs := [(M.beats, Str.ofString "start", k, (0 : Int))]) fun r z => by rw [List.mem_singleton.mp z]
  obtain ⟨⟨n1, n2, n3⟩, _⟩ := nes
  refine ⟨h1, h2, ?_, ?_, ?_, ?_, ⟨{ S with left := S.left ++ movesOf b.ords k }, ?_, ?_, ?_, ?_, ?_, ?_, ?_⟩, ?_⟩
  · show (beatsOf "put" (M.rows ++ [_])).Pairwise (· < ·)
    rw [beatsOf_snoc, if_neg n2, List.append_nil]
    exact h.puts
  · show ∀ t ∈ beatsOf "put" (M.rows ++ [_]), _
    rw [beatsOf_snoc, if_neg n2, List.append_nil]
    exact h.putTop
  · show (beatsOf "start" (M.rows ++ [_])).Pairwise (· < ·)
    rw [beatsOf_snoc, if_pos rfl]
    exact snoc_sorted h.starts h.startTop
  · show ∀ t ∈ beatsOf "start" (M.rows ++ [_]), t < M.beats + 1
    rw [beatsOf_snoc, if_pos rfl]
    intro t ht
    rcases List.mem_append.mp ht with z | z
    · exact Nat.lt_succ_of_lt (h.startTop t z)
    · rw [List.mem_singleton.mp z]
      exact Nat.lt_succ_self _
  · show WS.walk b.ords _ (M.rows ++ [_]) = _
    rw [WS.walk_append, w1]
    show (match S.step b.ords (M.beats, Str.ofString "start", k, (0 : Int)) with | some T => some T | none => none) = _
    unfold WS.step
    rw [if_pos rfl]
  · show S.left ++ movesOf b.ords k = _
    rw [et, List.flatMap_append, w2]
    simp [startMoves]
  · show (S.left ++ movesOf b.ords k).drop S.at_ = M.left ++ movesOf b.ords k
    rw [List.drop_append_of_le_length w4, w3]
  · show S.at_ ≤ (S.left ++ movesOf b.ords k).length
    rw [List.length_append]
    omega
  · show (cellsOf "fetch" (M.rows ++ [_])).length = S.at_
    rw [cellsOf_snoc, if_neg n1, List.append_nil]
    exact w5
  · show (beatsOf "put" (M.rows ++ [_])).length = S.at_
    rw [beatsOf_snoc, if_neg n2, List.append_nil]
    exact w6
  · show cellsOf "bell" (M.rows ++ [_]) = ((S.left ++ movesOf b.ords k).take S.at_).filterMap (·.bell)
    rw [cellsOf_snoc, if_neg n3, List.append_nil, List.take_append_of_le_length w4]
    exact w7
  · show cellsOf "start" (M.rows ++ [_]) = _
    rw [cellsOf_snoc, if_pos rfl, et, List.filterMap_append, h.startNos]
    simp [startNo]
theorem Turn.process (h : Turn b M.at_ M 0 0) : Turn b (M.process b).at_ (M.process b) 0 1 := by
  have up : ∀ {n : Nat} {M : MS}, Turn b n M 0 0 → Turn b n M 0 1 := fun h => ⟨h.sorted, h.top, h.puts, h.putTop, h.starts, fun t ht => Nat.lt_succ_of_lt (h.startTop t ht), h.walk, h.startNos⟩
  unfold MS.process
  split
  · exact up (h.quiet (M2 := { M with idle := true }) (Quiet.same rfl rfl rfl rfl))
  · split
    · rename_i d e
      have h1 : Turn b M.at_ ({ M with idle := false, at_ := M.at_ + 1 } : MS) 0 0 := ⟨h.sorted, h.top, h.puts, h.putTop, h.starts, h.startTop, h.walk, h.startNos⟩
      have ha := (deed_left (M := { M with idle := false, at_ := M.at_ + 1 }) b.ords d).2
      have ha' : (MS.deed b.ords { M with idle := false, at_ := M.at_ + 1 } d).at_ = M.at_ + 1 := ha
      rw [ha']
      cases d with
      | start k => exact h1.startDeed e
      | set c k => exact up ((h1.quiet (quiet_write c _)).done e rfl rfl)
      | add c o => exact up ((h1.quiet (((quiet_read c).trans (quiet_read o)).trans (quiet_write c _))).done e rfl rfl)
      | say c => exact up ((h1.quiet ((quiet_read c).trans (quiet_via (w := "say") rfl rfl rfl rfl (by decide)))).done e rfl rfl)
      | wait => exact up (h1.done e rfl rfl)
      | clean l => exact up ((h1.quiet (quiet_clean l)).done e rfl rfl)
      | drop l => exact up ((h1.quiet (quiet_drop l)).done e rfl rfl)
    · exact up h
theorem Turn.carry (h : Turn b n M 0 ss) : Turn b n M.carry 1 ss := by
  have up : ∀ {n : Nat} {M : MS}, Turn b n M 0 ss → Turn b n M 1 ss := fun h => ⟨h.sorted, h.top, h.puts, fun t ht => Nat.lt_succ_of_lt (h.putTop t ht), h.starts, h.startTop, h.walk, h.startNos⟩
  unfold MS.carry
  split
  · exact up h
  · rename_i m r e
    obtain ⟨S, w1, w2, w3, w4, w5, w6, w7⟩ := h.walk
    obtain ⟨⟨n1, n2, n3⟩, n4, n5, n6⟩ := nes
    have hat : S.left[S.at_]? = some m := by
      have : (S.left.drop S.at_)[0]? = some m := by rw [w3, e]; rfl
      rw [List.getElem?_drop] at this
      simpa using this
    have hlt : S.at_ < S.left.length := (List.getElem?_eq_some_iff.mp hat).1
    generalize ev : M.mem.getD m.src 0 = v
    obtain ⟨rs, erows, hrs⟩ : ∃ rs : List Row, ((({ (({ M with left := r } : MS).note "fetch" m.src v) with mem := M.mem.set m.dst v } : MS).note "put" m.dst v).bell m.bell).rows = M.rows ++ ([(M.beats, Str.ofString "fetch", m.src, v), (M.beats, Str.ofString "put", m.dst, v)] ++ rs) ∧ rs = (match m.bell with | none => [] | some k => [(M.beats, Str.ofString "bell", k, (0 : Int))]) := by
      cases m.bell with
      | none => exact ⟨[], by simp [MS.bell, MS.note], rfl⟩
      | some k => exact ⟨_, by simp [MS.bell, MS.note], rfl⟩
    obtain ⟨q1, q2, q3⟩ : ((({ (({ M with left := r } : MS).note "fetch" m.src v) with mem := M.mem.set m.dst v } : MS).note "put" m.dst v).bell m.bell).beats = M.beats ∧ ((({ (({ M with left := r } : MS).note "fetch" m.src v) with mem := M.mem.set m.dst v } : MS).note "put" m.dst v).bell m.bell).left = r ∧ True := by
      have g := grew_bell (M := (({ (({ M with left := r } : MS).note "fetch" m.src v) with mem := M.mem.set m.dst v } : MS).note "put" m.dst v)) m.bell
      exact ⟨g.beats, g.left, trivial⟩
    generalize ((({ (({ M with left := r } : MS).note "fetch" m.src v) with mem := M.mem.set m.dst v } : MS).note "put" m.dst v).bell m.bell) = N at erows q1 q2
    have rbeat : ∀ x ∈ [(M.beats, Str.ofString "fetch", m.src, v), (M.beats, Str.ofString "put", m.dst, v)] ++ rs, x.1 = M.beats := by
      intro x hx
      rcases List.mem_append.mp hx with z | z
      · simp only [List.mem_cons, List.not_mem_nil, or_false] at z
        rcases z with rfl | rfl <;> rfl
      · rw [hrs] at z
        cases hb : m.bell with
        | none => rw [hb] at z; cases z
        | some k => rw [hb] at z; rw [List.mem_singleton.mp z]
    obtain ⟨h1, h2⟩ := h.rowsTop rbeat
    have cw : ∀ w : Str, cellsOf w rs = (match m.bell with | none => [] | some k => if Str.ofString "bell" = w then [k] else []) ∧ beatsOf w rs = (match m.bell with | none => [] | some k => if Str.ofString "bell" = w then [M.beats] else []) := by
      intro w
      rw [hrs]
      cases m.bell with
      | none => exact ⟨rfl, rfl⟩
      | some k => exact ⟨(cellsOf_snoc w (Str.ofString "bell") [] M.beats k 0).trans (List.nil_append _), (beatsOf_snoc w (Str.ofString "bell") [] M.beats k 0).trans (List.nil_append _)⟩
    have two : ∀ w : Str, cellsOf w [(M.beats, Str.ofString "fetch", m.src, v), (M.beats, Str.ofString "put", m.dst, v)] = (if Str.ofString "fetch" = w then [m.src] else []) ++ (if Str.ofString "put" = w then [m.dst] else []) ∧ beatsOf w [(M.beats, Str.ofString "fetch", m.src, v), (M.beats, Str.ofString "put", m.dst, v)] = (if Str.ofString "fetch" = w then [M.beats] else []) ++ (if Str.ofString "put" = w then [M.beats] else []) := by
      intro w
      constructor
      · exact (cellsOf_snoc w (Str.ofString "put") [(M.beats, Str.ofString "fetch", m.src, v)] M.beats m.dst v).trans (by rw [show cellsOf w [(M.beats, Str.ofString "fetch", m.src, v)] = _ from (cellsOf_snoc w (Str.ofString "fetch") [] M.beats m.src v).trans (List.nil_append _)])
      · exact (beatsOf_snoc w (Str.ofString "put") [(M.beats, Str.ofString "fetch", m.src, v)] M.beats m.dst v).trans (by rw [show beatsOf w [(M.beats, Str.ofString "fetch", m.src, v)] = _ from (beatsOf_snoc w (Str.ofString "fetch") [] M.beats m.src v).trans (List.nil_append _)])
    have b0 : ∀ w : Str, Str.ofString "bell" ≠ w → cellsOf w rs = [] ∧ beatsOf w rs = [] := by
      intro w hw
      obtain ⟨c1, c2⟩ := cw w
      rw [c1, c2]
      cases m.bell with
      | none => exact ⟨rfl, rfl⟩
      | some k => exact ⟨if_neg hw, if_neg hw⟩
    have eput : beatsOf "put" N.rows = beatsOf "put" M.rows ++ [M.beats] := by
      rw [erows, beatsOf_append, beatsOf_append, (two _).2, (b0 _ n6.symm).2, if_neg n4, if_pos rfl]
      simp
    have estart : beatsOf "start" N.rows = beatsOf "start" M.rows ∧ cellsOf "start" N.rows = cellsOf "start" M.rows := by
      rw [erows, beatsOf_append, beatsOf_append, cellsOf_append, cellsOf_append, (two _).2, (two _).1, (b0 _ n3.symm).2, (b0 _ n3.symm).1, if_neg n1.symm, if_neg n2.symm, if_neg n1.symm, if_neg n2.symm]
      simp
    have efetch : cellsOf "fetch" N.rows = cellsOf "fetch" M.rows ++ [m.src] := by
      rw [erows, cellsOf_append, cellsOf_append, (two _).1, (b0 _ n5.symm).1, if_pos rfl, if_neg n4.symm]
      simp
    have ebell : cellsOf "bell" N.rows = cellsOf "bell" M.rows ++ m.bell.toList := by
      rw [erows, cellsOf_append, cellsOf_append, (two _).1, (cw _).1, if_neg n5, if_neg n6]
      cases m.bell <;> simp
    refine ⟨by rw [erows]; exact h1, by rw [erows, q1]; exact h2, ?_, ?_, ?_, ?_, ⟨{ S with at_ := S.at_ + 1, here := (M.beats, v) }, ?_, w2, ?_, hlt, ?_, ?_, ?_⟩, ?_⟩
    · rw [eput]
      exact snoc_sorted h.puts h.putTop
    · rw [eput, q1]
      intro t ht
      rcases List.mem_append.mp ht with z | z
      · have := h.putTop t z
        omega
      · rw [List.mem_singleton.mp z]
        omega
    · rw [estart.1]
      exact h.starts
    · rw [estart.1, q1]
      exact h.startTop
    · rw [erows, WS.walk_append, w1]
      show WS.walk b.ords S _ = _
      have s1 : S.step b.ords (M.beats, Str.ofString "fetch", m.src, v) = some { S with here := (M.beats, v) } := by
        unfold WS.step
        rw [if_neg n1.symm, if_pos rfl, hat]
        show (if m.src = m.src then _ else _) = _
        rw [if_pos rfl]
      have s2 : WS.step b.ords { S with here := (M.beats, v) } (M.beats, Str.ofString "put", m.dst, v) = some { S with at_ := S.at_ + 1, here := (M.beats, v) } := by
        unfold WS.step
        rw [if_neg n2.symm, if_neg n4.symm, if_pos rfl]
        show (match S.left[S.at_]? with | some m' => if m'.dst = m.dst ∧ (M.beats, v) = (M.beats, v) then some _ else none | none => none) = _
        rw [hat]
        exact if_pos ⟨rfl, rfl⟩
      show (match S.step b.ords (M.beats, Str.ofString "fetch", m.src, v) with | some T => T.walk b.ords ((M.beats, Str.ofString "put", m.dst, v) :: rs) | none => none) = _
      rw [s1]
      show (match WS.step b.ords { S with here := (M.beats, v) } (M.beats, Str.ofString "put", m.dst, v) with | some T => T.walk b.ords rs | none => none) = _
      rw [s2]
      show WS.walk b.ords { S with at_ := S.at_ + 1, here := (M.beats, v) } rs = _
      rw [hrs]
      cases hb : m.bell with
      | none => rfl
      | some k =>
        show (match WS.step b.ords { S with at_ := S.at_ + 1, here := (M.beats, v) } (M.beats, Str.ofString "bell", k, (0 : Int)) with | some T => some T | none => none) = _
        have s3 : WS.step b.ords { S with at_ := S.at_ + 1, here := (M.beats, v) } (M.beats, Str.ofString "bell", k, (0 : Int)) = some { S with at_ := S.at_ + 1, here := (M.beats, v) } := by
          unfold WS.step
          rw [if_neg n3.symm, if_neg n5.symm, if_neg n6.symm, if_pos rfl, if_neg (Nat.succ_ne_zero _)]
          show (match S.left[S.at_ + 1 - 1]? with | some m' => if m'.bell = some k then some _ else none | none => none) = _
          rw [Nat.add_sub_cancel, hat]
          exact if_pos hb
        rw [s3]
    · show S.left.drop (S.at_ + 1) = N.left
      rw [q2, ← List.drop_drop, w3, e]
      rfl
    · show (cellsOf "fetch" N.rows).length = S.at_ + 1
      rw [efetch, List.length_append, w5]
      rfl
    · show (beatsOf "put" N.rows).length = S.at_ + 1
      rw [eput, List.length_append, w6]
      rfl
    · show cellsOf "bell" N.rows = (S.left.take (S.at_ + 1)).filterMap (·.bell)
      rw [ebell, List.take_add_one, hat, List.filterMap_append, ← w7]
      congr 1
    · rw [estart.2]
      exact h.startNos
theorem Turn.tick (h : Turn b n M ps ss) (hp : ps ≤ 1) (hs : ss ≤ 1) : Turn b n M.tick 0 0 :=
  ⟨h.sorted, fun r hr => Nat.le_succ_of_le (h.top r hr), h.puts, fun t ht => by have := h.putTop t ht; show t < M.beats + 1 + 0; omega, h.starts, fun t ht => by have := h.startTop t ht; show t < M.beats + 1 + 0; omega, h.walk, h.startNos⟩
theorem Turn.beat (h : Turn b M.at_ M 0 0) (pace : List Bool) : Turn b (M.beat b pace).at_ (M.beat b pace) 0 0 := by
  unfold MS.beat MS.moved
  split
  · have := h.process.carry.tick (Nat.le_refl _) (Nat.le_refl _)
    have ea : ((M.process b).carry.tick).at_ = (M.process b).at_ := (carry_grew (M := M.process b)).1
    rw [ea]
    exact this
  · exact h.process.tick (Nat.zero_le _) (Nat.le_refl _)
end
theorem Turn.run (b : Bd) : ∀ (n : Nat) {M : MS} (pace : List Bool), Turn b M.at_ M 0 0 → Turn b (MS.run b n M pace).at_ (MS.run b n M pace) 0 0
  | 0, _, _, h => h
  | n + 1, M, pace, h => by
    show Turn b (if M.over b = true then M else MS.run b n (M.beat b pace) ((M.process b).pick pace).2).at_ (if M.over b = true then M else MS.run b n (M.beat b pace) ((M.process b).pick pace).2) 0 0
    split
    · exact h
    · exact Turn.run b n _ (h.beat pace)
/-! ### how many beats -/
theorem quiet_puts {M M2 : MS} (q : Quiet M M2) : beatsOf "put" M2.rows = beatsOf "put" M.rows := by
  obtain ⟨⟨rs, e, hr⟩, _⟩ := q
  rw [e, beatsOf_append, (plain_none (w := "put") (fun r z => (hr r z).1) (.inr (.inr (.inl rfl)))).2, List.append_nil]
theorem deed_puts {M : MS} (os : List Ord) (d : Deed) : beatsOf "put" (M.deed os d).rows = beatsOf "put" M.rows := by
  cases d with
  | start k =>
    show beatsOf "put" (M.rows ++ [_]) = _
    rw [beatsOf_snoc, if_neg nes.1.2.1, List.append_nil]
  | set c k => exact quiet_puts (quiet_write c _)
  | add c o => exact quiet_puts (((quiet_read c).trans (quiet_read o)).trans (quiet_write c _))
  | say c => exact quiet_puts ((quiet_read c).trans (quiet_via (w := "say") rfl rfl rfl rfl (by decide)))
  | wait => rfl
  | clean l => exact quiet_puts (quiet_clean l)
  | drop l => exact quiet_puts (quiet_drop l)
theorem process_puts {b : Bd} {M : MS} : beatsOf "put" (M.process b).rows = beatsOf "put" M.rows ∧ ((M.process b).idle = false → (M.process b).at_ = M.at_ + 1 ∨ M.process b = M) := by
  unfold MS.process
  split
  · exact ⟨rfl, fun z => by cases z⟩
  · split
    · rename_i d e
      exact ⟨deed_puts (M := { M with idle := false, at_ := M.at_ + 1 }) b.ords d, fun _ => .inl (deed_left (M := { M with idle := false, at_ := M.at_ + 1 }) b.ords d).2⟩
    · exact ⟨rfl, fun _ => .inr rfl⟩
theorem carry_puts {M : MS} : (beatsOf "put" M.carry.rows).length = (beatsOf "put" M.rows).length + (if M.left = [] then 0 else 1) := by
  unfold MS.carry
  split
  · rename_i e
    rw [e, if_pos rfl]
    rfl
  · rename_i m r e
    rw [e, if_neg (by simp)]
    have eb : ∀ N : MS, beatsOf "put" (N.bell m.bell).rows = beatsOf "put" N.rows := by
      intro N
      cases m.bell with
      | none => rfl
      | some k =>
        show beatsOf "put" (N.rows ++ [_]) = _
        rw [beatsOf_snoc, if_neg nes.2.2.2.symm, List.append_nil]
    rw [eb]
    show (beatsOf "put" ((M.rows ++ [(M.beats, Str.ofString "fetch", m.src, M.mem.getD m.src 0)]) ++ [(M.beats, Str.ofString "put", m.dst, M.mem.getD m.src 0)])).length = _
    rw [beatsOf_snoc, if_pos rfl, beatsOf_snoc, if_neg nes.2.1, List.append_nil, List.length_append]
    rfl
structure Cnt (M : MS) : Prop where
  lo : M.at_ ≤ M.beats
  hi : M.beats ≤ M.at_ + (beatsOf "put" M.rows).length
theorem Cnt.beat {b : Bd} {M : MS} (h : Cnt M) (g : Good b) (ho : M.over b = false) (pace : List Bool) : Cnt (M.beat b pace) := by
  obtain ⟨h1, h2, h3, h4, h5, h6⟩ := process_grew (M := M) g
  obtain ⟨c1, c2, c3, c4, c5⟩ := carry_grew (M := M.process b)
  obtain ⟨p1, p2⟩ := process_puts (b := b) (M := M)
  have cp := carry_puts (M := M.process b)
  have hlo := h.lo
  have hhi := h.hi
  unfold MS.beat MS.tick MS.moved
  by_cases hi : (M.process b).idle = true
  · have hp : ((M.process b).pick pace).1 = true := by
      unfold MS.pick MS.mayRest
      rw [hi]
      simp
    rw [hp, if_pos rfl]
    obtain ⟨e1, e2⟩ := h4 hi
    have hne : M.left ≠ [] := by
      intro z
      rw [hi] at h6
      unfold MS.isIdle at h6
      unfold MS.over at ho
      rw [z] at h6 ho
      simp at h6 ho
      omega
    rw [e1, if_neg hne, p1] at cp
    refine ⟨?_, ?_⟩
    · show (M.process b).carry.at_ ≤ (M.process b).carry.beats + 1
      rw [c1, c2, e2, h1]
      omega
    · show (M.process b).carry.beats + 1 ≤ (M.process b).carry.at_ + (beatsOf "put" (M.process b).carry.rows).length
      rw [c1, c2, e2, h1, cp]
      omega
  · have hi' : (M.process b).idle = false := by simpa using hi
    have hat : (M.process b).at_ = M.at_ + 1 := by
      rcases p2 hi' with z | z
      · exact z
      · have hf := h5 hi'
        rw [z] at hf
        omega
    by_cases hm : ((M.process b).pick pace).1 = true
    · rw [if_pos hm]
      rw [p1] at cp
      refine ⟨?_, ?_⟩
      · show (M.process b).carry.at_ ≤ (M.process b).carry.beats + 1
        rw [c1, c2, hat, h1]
        omega
      · show (M.process b).carry.beats + 1 ≤ (M.process b).carry.at_ + (beatsOf "put" (M.process b).carry.rows).length
        rw [c1, c2, hat, h1, cp]
        omega
    · rw [if_neg hm]
      refine ⟨?_, ?_⟩
      · show (M.process b).at_ ≤ (M.process b).beats + 1
        rw [hat, h1]
        omega
      · show (M.process b).beats + 1 ≤ (M.process b).at_ + (beatsOf "put" (M.process b).rows).length
        rw [hat, h1, p1]
        omega
theorem Cnt.run {b : Bd} (g : Good b) : ∀ (n : Nat) {M : MS} (pace : List Bool), Cnt M → Cnt (MS.run b n M pace)
  | 0, _, _, h => h
  | n + 1, M, pace, h => by
    show Cnt (if M.over b = true then M else _)
    by_cases ho : M.over b = true
    · rw [if_pos ho]
      exact h
    · rw [if_neg ho]
      exact Cnt.run g n _ (h.beat g (by simpa using ho) pace)
theorem run_le {b : Bd} (g : Good b) (pace : List Bool) : (MS.run b 1980 (MS.init b) pace).at_ ≤ b.prog.length := (run_going g 1980 pace (Going.init g)).le
/-- what a whole run tells -/
structure Whole (b : Bd) (R : MS) : Prop where
  sorted : (R.rows.map (·.1)).Pairwise (· ≤ ·)
  top : ∀ r ∈ R.rows, r.1 ≤ R.beats
  puts : (beatsOf "put" R.rows).Nodup
  starts : (beatsOf "start" R.rows).Nodup
  walk : ∃ S : WS, WS.walk b.ords ⟨[], 0, (0, 0)⟩ R.rows = some S ∧ S.at_ = S.left.length ∧ (cellsOf "fetch" R.rows).length = S.at_
  bells : cellsOf "bell" R.rows = (b.prog.flatMap (startMoves b.ords)).filterMap (·.bell)
  startNos : cellsOf "start" R.rows = b.prog.filterMap startNo
  lo : b.prog.length ≤ R.beats
  hi : R.beats ≤ b.prog.length + (beatsOf "put" R.rows).length
  few : (beatsOf "put" R.rows).length ≤ 1980
theorem lt_nodup {xs : List Nat} (h : xs.Pairwise (· < ·)) : xs.Nodup := h.imp fun {a c} hac z => by omega
theorem gone_whole {b : Bd} (g : Good b) (pace : List Bool) : Whole b (goneOf b pace) := by
  have h0 : Turn b 0 (MS.init b) 0 0 := Turn.init b
  have h := Turn.run b 1980 (M := MS.init b) pace h0
  have c := Cnt.run g 1980 (M := MS.init b) pace ⟨Nat.le_refl _, Nat.le_refl _⟩
  have ho := run_over g 1980 pace (show (MS.init b).fuel b ≤ 1980 by have := (Going.init g).far; omega)
  have hb := (run_going g 1980 pace (Going.init g)).far
  have q := quiet_cleans (List.range 4) (MS.run b 1980 (MS.init b) pace)
  have e : goneOf b pace = (List.range 4).foldl MS.clean (MS.run b 1980 (MS.init b) pace) := rfl
  have h2 := h.quiet q
  unfold MS.over at ho
  simp only [Bool.and_eq_true, decide_eq_true_eq, List.isEmpty_iff] at ho
  have hat : (MS.run b 1980 (MS.init b) pace).at_ = b.prog.length := Nat.le_antisymm (run_le g pace) ho.1
  rw [hat, ← e] at h2
  obtain ⟨S, w1, w2, w3, w4, w5, w6, w7⟩ := h2.walk
  have hleft : (goneOf b pace).left = [] := by
    rw [e, q.left]
    exact ho.2
  have hS : S.at_ = S.left.length := by
    rw [hleft] at w3
    have := List.drop_eq_nil_iff.mp w3
    omega
  have hbe : (goneOf b pace).beats = (MS.run b 1980 (MS.init b) pace).beats := by
    rw [e, q.beats]
  have hpu : beatsOf "put" (goneOf b pace).rows = beatsOf "put" (MS.run b 1980 (MS.init b) pace).rows := by
    rw [e]
    exact quiet_puts q
  have few : (beatsOf "put" (goneOf b pace).rows).length ≤ 1980 := by
    have h3 := nodup_bound _ _ (lt_nodup h2.puts) h2.putTop
    omega
  refine ⟨h2.sorted, h2.top, lt_nodup h2.puts, lt_nodup h2.starts, ⟨S, w1, hS, w5⟩, ?_, ?_, ?_, ?_, few⟩
  · rw [w7, hS, List.take_length, w2, List.take_length]
  · rw [h2.startNos, List.take_length]
  · rw [hbe, ← hat]
    exact c.lo
  · rw [hbe, hpu, ← hat]
    exact c.hi
end BC
/-! BCBad: machines that stand alike; whether at some pace something is amiss (Bad). -/
namespace BC
open PySem PySem.Spec PyProof.Rows L2
abbrev Tail := Str × Nat × Int
def tails (rs : List Row) : List Tail := rs.map (·.2)
theorem tails_append (a b : List Row) : tails (a ++ b) = tails a ++ tails b := List.map_append
theorem hget_hdel {es : List HE} {l k : Nat} : hget (hdel es l) k = if k = l then none else hget es k := by
  induction es with
  | nil => simp [hdel, hget]
  | cons e r ih =>
    have ih' : hget (r.filter fun e => decide (e.1 ≠ l)) k = if k = l then none else hget r k := ih
    show hget ((e :: r).filter fun e => decide (e.1 ≠ l)) k = _
    rw [List.filter_cons]
    by_cases e1 : e.1 = l
    · rw [if_neg (by simp [e1]), ih']
      by_cases e2 : k = l
      · rw [if_pos e2, if_pos e2]
      · rw [if_neg e2, if_neg e2]
        show _ = if e.1 = k then some e.2 else hget r k
        rw [if_neg (fun z => e2 (z.symm.trans e1))]
    · rw [if_pos (by simp [e1])]
      show (if e.1 = k then some e.2 else hget _ k) = if k = l then none else if e.1 = k then some e.2 else hget r k
      rw [ih']
      by_cases e2 : k = l
      · rw [if_pos e2, if_pos e2, if_neg (fun z => e1 (z.trans e2))]
      · rw [if_neg e2, if_neg e2]
/-- M stands as N does; its story is that of N behind pre -/
structure Lk (pre : List Tail) (M N : MS) : Prop where
  mem : M.mem = N.mem
  left : M.left = N.left
  at_ : M.at_ = N.at_
  held : ∀ l, hget M.held l = hget N.held l
  rows : tails M.rows = pre ++ tails N.rows
section
variable {pre : List Tail} {M N : MS} {b : Bd}
theorem Lk.refl (M : MS) : Lk [] M M := ⟨rfl, rfl, rfl, fun _ => rfl, rfl⟩
theorem Lk.symm (h : Lk [] M N) : Lk [] N M := ⟨h.mem.symm, h.left.symm, h.at_.symm, fun l => (h.held l).symm, h.rows.symm⟩
theorem Lk.trans {O : MS} (h : Lk pre M N) (g : Lk [] N O) : Lk pre M O := ⟨h.mem.trans g.mem, h.left.trans g.left, h.at_.trans g.at_, fun l => (h.held l).trans (g.held l), by rw [h.rows, g.rows]; rfl⟩
theorem Lk.note (h : Lk pre M N) (w : Str) (p : Nat) (k : Int) : Lk pre (M.note w p k) (N.note w p k) := ⟨h.mem, h.left, h.at_, h.held, by
  show tails (M.rows ++ [(M.beats, w, p, k)]) = pre ++ tails (N.rows ++ [(N.beats, w, p, k)])
  rw [tails_append, tails_append, h.rows, List.append_assoc]
  rfl⟩
theorem Lk.take (h : Lk pre M N) (l : Nat) : Lk pre (M.take l) (N.take l) := by
  have e := h.held l
  unfold MS.take
  rw [e]
  cases q : hget N.held l with
  | some v => exact h
  | none =>
    rw [q] at e
    refine Lk.note (M := { M with held := M.held ++ [(l, (M.mem.drop (4 * l)).take 4, false)] }) (N := { N with held := N.held ++ [(l, (N.mem.drop (4 * l)).take 4, false)] }) ⟨h.mem, h.left, h.at_, fun k => ?_, h.rows⟩ _ _ _
    show hget (M.held ++ [(l, (M.mem.drop (4 * l)).take 4, false)]) k = hget (N.held ++ [(l, (N.mem.drop (4 * l)).take 4, false)]) k
    rw [hget_append e, hget_append q, h.mem, h.held k]
theorem Lk.cells (h : Lk pre M N) (l : Nat) : M.cells l = N.cells l := by
  unfold MS.cells
  rw [h.held l]
theorem Lk.val (h : Lk pre M N) (c : Nat) : M.val c = N.val c := by
  unfold MS.val
  rw [(h.take (c / 4)).cells]
theorem Lk.read (h : Lk pre M N) (c : Nat) : Lk pre (M.read c) (N.read c) := by
  unfold MS.read
  rw [h.val c]
  exact (h.take _).note _ _ _
theorem Lk.put (h : Lk pre M N) (l : Nat) (v : List Int × Bool) : Lk pre (M.put l v) (N.put l v) := ⟨h.mem, h.left, h.at_, fun k => by
  show hget (hset M.held l v) k = hget (hset N.held l v) k
  rw [hget_set, hget_set, h.held l, h.held k], h.rows⟩
theorem Lk.write (h : Lk pre M N) (c : Nat) (v : Int) : Lk pre (M.write c v) (N.write c v) := by
  unfold MS.write
  rw [(h.take (c / 4)).cells]
  exact ((h.take _).put _ _).note _ _ _
theorem Lk.clean (h : Lk pre M N) (l : Nat) : Lk pre (M.clean l) (N.clean l) := by
  unfold MS.clean
  rw [h.held l]
  split
  · rename_i cs e
    refine Lk.note (M := { M with mem := M.mem.take (4 * l) ++ cs ++ M.mem.drop (4 * l + 4), held := hset M.held l (cs, false) }) (N := { N with mem := N.mem.take (4 * l) ++ cs ++ N.mem.drop (4 * l + 4), held := hset N.held l (cs, false) }) ⟨?_, h.left, h.at_, (h.put l (cs, false)).held, h.rows⟩ _ _ _
    show M.mem.take (4 * l) ++ cs ++ M.mem.drop (4 * l + 4) = N.mem.take (4 * l) ++ cs ++ N.mem.drop (4 * l + 4)
    rw [h.mem]
  · exact h
theorem Lk.drop (h : Lk pre M N) (l : Nat) : Lk pre (M.drop l) (N.drop l) := by
  unfold MS.drop
  rw [h.held l]
  split
  · refine Lk.note (M := { M with held := hdel M.held l }) (N := { N with held := hdel N.held l }) ⟨h.mem, h.left, h.at_, fun k => ?_, h.rows⟩ _ _ _
    show hget (hdel M.held l) k = hget (hdel N.held l) k
    rw [hget_hdel, hget_hdel, h.held k]
  · exact h
theorem Lk.deed (h : Lk pre M N) (os : List Ord) (d : Deed) : Lk pre (M.deed os d) (N.deed os d) := by
  cases d with
  | set c k => exact h.write c _
  | add c o =>
    show Lk pre (((M.read c).read o).write c ((M.val c + (M.read c).val o) % 10)) (((N.read c).read o).write c ((N.val c + (N.read c).val o) % 10))
    rw [h.val c, (h.read c).val o]
    exact ((h.read c).read o).write c _
  | say c =>
    show Lk pre ((M.read c).note "say" c (M.val c)) ((N.read c).note "say" c (N.val c))
    rw [h.val c]
    exact (h.read c).note _ _ _
  | start k =>
    refine Lk.note (M := { M with left := M.left ++ movesOf os k }) (N := { N with left := N.left ++ movesOf os k }) ⟨h.mem, ?_, h.at_, h.held, h.rows⟩ _ _ _
    show M.left ++ movesOf os k = N.left ++ movesOf os k
    rw [h.left]
  | wait => exact h
  | clean l => exact h.clean l
  | drop l => exact h.drop l
theorem Lk.idle (h : Lk pre M N) (p : List Deed) : M.isIdle p = N.isIdle p := by
  unfold MS.isIdle
  rw [h.at_, h.left]
theorem Lk.process (h : Lk pre M N) (b : Bd) : Lk pre (M.process b) (N.process b) := by
  unfold MS.process
  rw [h.idle, h.at_]
  split
  · exact ⟨h.mem, h.left, rfl, h.held, h.rows⟩
  · split
    · rename_i d e
      exact Lk.deed (M := { M with idle := false, at_ := N.at_ + 1 }) (N := { N with idle := false, at_ := N.at_ + 1 }) ⟨h.mem, h.left, rfl, h.held, h.rows⟩ _ _
    · exact ⟨h.mem, h.left, h.at_, h.held, h.rows⟩
theorem Lk.bell (h : Lk pre M N) (o : Option Nat) : Lk pre (M.bell o) (N.bell o) := by
  cases o with
  | none => exact h
  | some k => exact h.note _ _ _
theorem Lk.carry (h : Lk pre M N) : Lk pre M.carry N.carry := by
  unfold MS.carry
  rw [h.left]
  split
  · exact h
  · rename_i m r e
    rw [h.mem]
    refine Lk.bell (Lk.note (M := { (({ M with left := r } : MS).note "fetch" m.src (N.mem.getD m.src 0)) with mem := N.mem.set m.dst (N.mem.getD m.src 0) }) (N := { (({ N with left := r } : MS).note "fetch" m.src (N.mem.getD m.src 0)) with mem := N.mem.set m.dst (N.mem.getD m.src 0) }) ⟨rfl, rfl, h.at_, h.held, ?_⟩ _ _ _) _
    exact (Lk.note (M := { M with left := r }) (N := { N with left := r }) ⟨h.mem, rfl, h.at_, h.held, h.rows⟩ "fetch" m.src (N.mem.getD m.src 0)).rows
theorem Lk.moved (h : Lk pre M N) (mv : Bool) : Lk pre (M.moved mv) (N.moved mv) := by
  unfold MS.moved
  split
  · exact h.carry
  · exact h
theorem Lk.mayRest (h : Lk pre M N) (g : Good b) : (M.process b).mayRest = (N.process b).mayRest := by
  have e1 := (process_grew (M := M) g).2.2.2.2.2
  have e2 := (process_grew (M := N) g).2.2.2.2.2
  unfold MS.mayRest
  rw [(h.process b).left, e1, e2, h.idle]
theorem Lk.over (h : Lk pre M N) (b : Bd) : M.over b = N.over b := by
  unfold MS.over
  rw [h.at_, h.left]
theorem Lk.cleans : ∀ (ls : List Nat) {M N : MS}, Lk pre M N → Lk pre (ls.foldl MS.clean M) (ls.foldl MS.clean N)
  | [], _, _, h => h
  | l :: r, M, N, h => by
    rw [List.foldl_cons, List.foldl_cons]
    exact Lk.cleans r (h.clean l)
theorem Lk.finish (h : Lk pre M N) : Lk pre M.finish N.finish := h.cleans (List.range 4)
theorem Lk.tick (h : Lk pre M N) : Lk pre M.tick N.tick := ⟨h.mem, h.left, h.at_, h.held, h.rows⟩
theorem Lk.pick (h : Lk pre M N) (g : Good b) (pace : List Bool) : (M.process b).pick pace = (N.process b).pick pace := by
  unfold MS.pick
  rw [h.mayRest g]
theorem Lk.beat (h : Lk pre M N) (g : Good b) (pace : List Bool) : Lk pre (M.beat b pace) (N.beat b pace) := by
  unfold MS.beat
  rw [h.pick g]
  exact ((h.process b).moved _).tick
theorem Lk.run (g : Good b) : ∀ (n : Nat) {M N : MS} (pace : List Bool), Lk pre M N → Lk pre (MS.run b n M pace) (MS.run b n N pace)
  | 0, _, _, _, h => h
  | n + 1, M, N, pace, h => by
    show Lk pre (if M.over b = true then M else _) (if N.over b = true then N else _)
    rw [h.over b]
    split
    · exact h
    · rw [h.pick g]
      exact Lk.run g n _ (h.beat g pace)
/-- what is told already stands ahead of all that is told later -/
theorem run_tells (g : Good b) (n : Nat) (M : MS) (pace : List Bool) : ∃ more, tails (MS.run b n M pace).rows = tails M.rows ++ more :=
  ⟨_, (Lk.run g n pace (show Lk (tails M.rows) M { M with rows := [] } from ⟨rfl, rfl, rfl, fun _ => rfl, by simp [tails]⟩)).rows⟩
end
/-! ### how many readings were looked at -/
structure Cn (M M2 : MS) : Prop where
  nr : M2.nr = M.nr
  nf : M2.nf = M.nf
section
variable {M : MS} {b : Bd}
theorem Cn.refl (M : MS) : Cn M M := ⟨rfl, rfl⟩
theorem Cn.trans {M1 M2 : MS} (h : Cn M M1) (g : Cn M1 M2) : Cn M M2 := ⟨g.nr.trans h.nr, g.nf.trans h.nf⟩
theorem cn_take (l : Nat) : Cn M (M.take l) := by
  unfold MS.take
  split <;> exact ⟨rfl, rfl⟩
theorem cn_read (c : Nat) : Cn M (M.read c) := (cn_take (c / 4)).trans ⟨rfl, rfl⟩
theorem cn_write (c : Nat) (v : Int) : Cn M (M.write c v) := (cn_take (c / 4)).trans ⟨rfl, rfl⟩
theorem cn_clean (l : Nat) : Cn M (M.clean l) := by
  unfold MS.clean
  split <;> exact ⟨rfl, rfl⟩
theorem cn_drop (l : Nat) : Cn M (M.drop l) := by
  unfold MS.drop
  split <;> exact ⟨rfl, rfl⟩
theorem cn_deed (os : List Ord) (d : Deed) : Cn M (M.deed os d) := by
  cases d with
  | set c k => exact cn_write c _
  | add c o => exact ((cn_read c).trans (cn_read o)).trans (cn_write c _)
  | say c => exact (cn_read c).trans ⟨rfl, rfl⟩
  | start k => exact ⟨rfl, rfl⟩
  | wait => exact ⟨rfl, rfl⟩
  | clean l => exact cn_clean l
  | drop l => exact cn_drop l
theorem cn_process (b : Bd) : Cn M (M.process b) := by
  unfold MS.process
  split
  · exact ⟨rfl, rfl⟩
  · split
    · exact Cn.trans (M1 := { M with idle := false, at_ := M.at_ + 1 }) ⟨rfl, rfl⟩ (cn_deed _ _)
    · exact ⟨rfl, rfl⟩
theorem cn_carry : Cn M M.carry := by
  unfold MS.carry
  split
  · exact ⟨rfl, rfl⟩
  · rename_i m r e
    cases m.bell <;> exact ⟨rfl, rfl⟩
theorem cn_moved (mv : Bool) : Cn M (M.moved mv) := by
  unfold MS.moved
  split
  · exact cn_carry
  · exact ⟨rfl, rfl⟩
end
/-! ### the rows looked through -/
def look (aim : PS) (s : Nat × Nat) (t : Tail) : Option (Nat × Nat) :=
  if t.1 = ("read" : Str) then (if aim.reads[s.1]? = some t.2 then some (s.1 + 1, s.2) else none)
  else if t.1 = ("fetch" : Str) then (if aim.fetches[s.2]? = some t.2 then some (s.1, s.2 + 1) else none) else some s
def seen (aim : PS) : List Tail → Nat × Nat → Option (Nat × Nat)
  | [], s => some s
  | t :: r, s => match look aim s t with
    | none => none
    | some s' => seen aim r s'
theorem seen_append (aim : PS) : ∀ (a c : List Tail) (s : Nat × Nat), seen aim (a ++ c) s = (seen aim a s).bind fun s' => seen aim c s'
  | [], c, s => rfl
  | t :: r, c, s => by
    show (match look aim s t with | none => none | some s' => seen aim (r ++ c) s') = _
    cases e : look aim s t with
    | none => simp [seen, e]
    | some s' =>
      simp only [seen, e]
      exact seen_append aim r c s'
/-- the machine behind a look at its rows -/
def after (aim : PS) (N : MS) : Option MS := (seen aim (tails N.rows) (N.nr, N.nf)).map fun s => { N with rows := [], nr := s.1, nf := s.2 }
def nextOf (b : Bd) (M : MS) (mv : Bool) : MS := (M.process b).moved mv
def may (b : Bd) (M : MS) (mv : Bool) : Prop := mv = true ∨ (M.process b).mayRest = true
inductive Bad (b : Bd) : MS → Prop
  | fin (M : MS) (ho : M.over b = true) (h : M.finish.mem ≠ (plainOf b).mem) : Bad b M
  | see (M : MS) (mv : Bool) (ho : M.over b = false) (h : may b M mv) (hn : after (plainOf b) (nextOf b M mv) = none) : Bad b M
  | on (M : MS) (mv : Bool) (N : MS) (ho : M.over b = false) (h : may b M mv) (hn : after (plainOf b) (nextOf b M mv) = some N) (hb : Bad b N) : Bad b M
structure Eqv (M N : MS) : Prop where
  lk : Lk [] M N
  nr : M.nr = N.nr
  nf : M.nf = N.nf
theorem Eqv.refl (M : MS) : Eqv M M := ⟨Lk.refl M, rfl, rfl⟩
theorem Eqv.symm {M N : MS} (h : Eqv M N) : Eqv N M := ⟨h.lk.symm, h.nr.symm, h.nf.symm⟩
theorem Eqv.trans {M N O : MS} (h : Eqv M N) (g : Eqv N O) : Eqv M O := ⟨h.lk.trans g.lk, h.nr.trans g.nr, h.nf.trans g.nf⟩
theorem Eqv.tick (M : MS) : Eqv M M.tick := ⟨⟨rfl, rfl, rfl, fun _ => rfl, rfl⟩, rfl, rfl⟩
section
variable {M N : MS} {b : Bd} {aim : PS}
theorem Eqv.next (h : Eqv M N) (b : Bd) (mv : Bool) : Eqv (nextOf b M mv) (nextOf b N mv) := by
  have c1 := (cn_process (M := M) b).trans (cn_moved mv)
  have c2 := (cn_process (M := N) b).trans (cn_moved mv)
  exact ⟨(h.lk.process b).moved mv, by unfold nextOf; rw [c1.nr, c2.nr, h.nr], by unfold nextOf; rw [c1.nf, c2.nf, h.nf]⟩
theorem Eqv.seen (h : Eqv M N) : seen aim (tails M.rows) (M.nr, M.nf) = BC.seen aim (tails N.rows) (N.nr, N.nf) := by
  rw [h.lk.rows, h.nr, h.nf]
  rfl
theorem Eqv.after_none (h : Eqv M N) (e : after aim M = none) : after aim N = none := by
  unfold after at e ⊢
  rw [← h.seen]
  rw [Option.map_eq_none_iff] at e ⊢
  exact e
theorem Eqv.after_some {M1 : MS} (h : Eqv M N) (e : after aim M = some M1) : ∃ N1, after aim N = some N1 ∧ Eqv M1 N1 := by
  unfold after at e ⊢
  rw [← h.seen]
  cases q : BC.seen aim (tails M.rows) (M.nr, M.nf) with
  | none =>
    rw [q] at e
    cases e
  | some s =>
    rw [q] at e
    cases e
    exact ⟨_, rfl, ⟨h.lk.mem, h.lk.left, h.lk.at_, h.lk.held, rfl⟩, rfl, rfl⟩
theorem Eqv.may (h : Eqv M N) (g : Good b) {mv : Bool} (e : may b M mv) : may b N mv := by
  unfold BC.may at e ⊢
  rw [← h.lk.mayRest g]
  exact e
theorem Bad.congr (g : Good b) (hb : Bad b M) : ∀ {N : MS}, Eqv M N → Bad b N := by
  induction hb with
  | fin M ho h =>
    intro N e
    exact .fin N (by rw [← e.lk.over b]; exact ho) (by rw [← e.lk.finish.mem]; exact h)
  | see M mv ho h hn =>
    intro N e
    exact .see N mv (by rw [← e.lk.over b]; exact ho) (e.may g h) ((e.next b mv).after_none hn)
  | on M mv M1 ho h hn hb ih =>
    intro N e
    obtain ⟨N1, h1, h2⟩ := (e.next b mv).after_some hn
    exact .on N mv N1 (by rw [← e.lk.over b]; exact ho) (e.may g h) h1 (ih h2)
end
end BC
/-! BCBad2: a run at a pace is amiss just where Bad says so; where a search's machines stand. -/
namespace BC
open PySem PySem.Spec PyProof.Rows L2
theorem look_other {aim : PS} {s : Nat × Nat} {t : Tail} (h1 : t.1 ≠ Str.ofString "read") (h2 : t.1 ≠ Str.ofString "fetch") : look aim s t = some s := by
  unfold look
  rw [if_neg h1, if_neg h2]
theorem ne_rf : Str.ofString "fetch" ≠ Str.ofString "read" := fun z => by have := ofS_inj.mp z; simp at this
theorem found_seen (aim : PS) : ∀ (rows : List Row) (a c : Nat) (found : List Row), (rows.foldl AS.step ⟨aim.reads.drop a, aim.fetches.drop c, found⟩).found = [] ↔ found = [] ∧ ∃ s, seen aim (tails rows) (a, c) = some s
  | [], a, c, found => ⟨fun h => ⟨h, _, rfl⟩, fun h => h.1⟩
  | r :: rest, a, c, found => by
    rw [List.foldl_cons]
    have es : seen aim (tails (r :: rest)) (a, c) = match look aim (a, c) r.2 with | none => none | some s' => seen aim (tails rest) s' := rfl
    rw [es]
    unfold AS.step look
    by_cases h1 : r.2.1 = Str.ofString "read"
    · rw [if_pos h1, if_pos h1]
      show (rest.foldl AS.step ⟨(aim.reads.drop a).tail, aim.fetches.drop c, found ++ (if (aim.reads.drop a).head? = some r.2.2 then [] else [r])⟩).found = [] ↔ _
      rw [List.tail_drop, found_seen aim rest (a + 1) c, List.head?_drop]
      by_cases h2 : aim.reads[a]? = some r.2.2
      · rw [if_pos h2, if_pos h2, List.append_nil]
      · rw [if_neg h2, if_neg h2]
        simp
    · rw [if_neg h1, if_neg h1]
      by_cases h3 : r.2.1 = Str.ofString "fetch"
      · rw [if_pos h3, if_pos h3]
        show (rest.foldl AS.step ⟨aim.reads.drop a, (aim.fetches.drop c).tail, found ++ (if (aim.fetches.drop c).head? = some r.2.2 then [] else [r])⟩).found = [] ↔ _
        rw [List.tail_drop, found_seen aim rest a (c + 1), List.head?_drop]
        by_cases h2 : aim.fetches[c]? = some r.2.2
        · rw [if_pos h2, if_pos h2, List.append_nil]
        · rw [if_neg h2, if_neg h2]
          simp
      · rw [if_neg h3, if_neg h3]
        exact found_seen aim rest a c found
theorem cleans_rows : ∀ (ls : List Nat) (M : MS), ∃ more, (ls.foldl MS.clean M).rows = M.rows ++ more ∧ ∀ r ∈ more, r.2.1 = Str.ofString "clean"
  | [], M => ⟨[], by simp, by simp⟩
  | l :: r, M => by
    obtain ⟨m1, h1, h2⟩ := cleans_rows r (M.clean l)
    have : ∃ m0, (M.clean l).rows = M.rows ++ m0 ∧ ∀ r ∈ m0, r.2.1 = Str.ofString "clean" := by
      unfold MS.clean
      split
      · exact ⟨[_], rfl, by simp⟩
      · exact ⟨[], by simp, by simp⟩
    obtain ⟨m0, g1, g2⟩ := this
    refine ⟨m0 ++ m1, by rw [List.foldl_cons, h1, g1, List.append_assoc], fun r hr => ?_⟩
    rcases List.mem_append.mp hr with hr | hr
    · exact g2 r hr
    · exact h2 r hr
theorem seen_plain (aim : PS) : ∀ {rows : List Row} (s : Nat × Nat), (∀ r ∈ rows, r.2.1 = Str.ofString "clean") → seen aim (tails rows) s = some s
  | [], s, _ => rfl
  | r :: rest, s, h => by
    have h0 := h r List.mem_cons_self
    show (match look aim s r.2 with | none => none | some s' => seen aim (tails rest) s') = _
    rw [look_other (by rw [h0]; intro z; have := ofS_inj.mp z; simp at this) (by rw [h0]; intro z; have := ofS_inj.mp z; simp at this)]
    exact seen_plain aim s fun r hr => h r (List.mem_cons_of_mem _ hr)
theorem getD_ext {xs ys : List Int} (hl : xs.length = ys.length) (h : ∀ i < xs.length, xs.getD i 0 = ys.getD i 0) : xs = ys := by
  refine List.ext_getElem hl fun i h1 h2 => ?_
  have := h i h1
  rwa [List.getD_eq_getElem?_getD, List.getD_eq_getElem?_getD, List.getElem?_eq_getElem h1, List.getElem?_eq_getElem h2] at this
theorem amiss_iff {b : Bd} (g : Good b) (pace : List Bool) : amissOf b pace ≠ [] ↔ (seen (plainOf b) (tails (MS.run b 1980 (MS.init b) pace).rows) (0, 0) = none ∨ (MS.run b 1980 (MS.init b) pace).finish.mem ≠ (plainOf b).mem) := by
  obtain ⟨more, hm, hc⟩ := cleans_rows (List.range 4) (MS.run b 1980 (MS.init b) pace)
  have hg : goneOf b pace = (List.range 4).foldl MS.clean (MS.run b 1980 (MS.init b) pace) := rfl
  have h1 : (amissRows b pace).found = [] ↔ ∃ s, seen (plainOf b) (tails (goneOf b pace).rows) (0, 0) = some s := by
    have := found_seen (plainOf b) (goneOf b pace).rows 0 0 []
    simpa [amissRows] using this
  have h2 : seen (plainOf b) (tails (goneOf b pace).rows) (0, 0) = seen (plainOf b) (tails (MS.run b 1980 (MS.init b) pace).rows) (0, 0) := by
    rw [hg, hm, tails_append, seen_append]
    cases seen (plainOf b) (tails (MS.run b 1980 (MS.init b) pace).rows) (0, 0) with
    | none => rfl
    | some s => exact seen_plain _ s hc
  have hl : (goneOf b pace).mem.length = (plainOf b).mem.length := by
    rw [(gone_ok g pace).1.len]
    exact (plain_mem_len b.ords b.prog (PS.init b.mem)).symm
  have h3 : (List.range (goneOf b pace).mem.length).flatMap (endRow (goneOf b pace).beats (goneOf b pace).mem (plainOf b).mem) = [] ↔ (goneOf b pace).mem = (plainOf b).mem := by
    rw [List.flatMap_eq_nil_iff]
    constructor
    · intro h
      refine getD_ext hl fun i hi => ?_
      have := h i (List.mem_range.mpr hi)
      unfold endRow at this
      by_cases e : (goneOf b pace).mem.getD i 0 = (plainOf b).mem.getD i 0
      · exact e
      · rw [if_neg e] at this
        cases this
    · intro h i hi
      unfold endRow
      rw [h, if_pos rfl]
  unfold amissOf
  rw [Ne, List.append_eq_nil_iff, h1, h3, h2]
  show ¬ (_ ∧ (MS.run b 1980 (MS.init b) pace).finish.mem = _) ↔ _
  rw [Classical.not_and_iff_not_or_not]
  constructor
  · rintro (h | h)
    · refine .inl ?_
      cases e : seen (plainOf b) (tails (MS.run b 1980 (MS.init b) pace).rows) (0, 0) with
      | none => rfl
      | some s => exact absurd ⟨s, e⟩ h
    · exact .inr h
  · rintro (h | h)
    · exact .inl fun ⟨s, e⟩ => by rw [h] at e; cases e
    · exact .inr h
/-- M, gone with its story, is S, which was looked through -/
structure Bare (b : Bd) (M S : MS) : Prop where
  lk : Lk (tails M.rows) M S
  se : seen (plainOf b) (tails M.rows) (0, 0) = some (S.nr, S.nf)
section
variable {b : Bd} {M S : MS}
theorem Bare.bare (h : Bare b M S) : tails S.rows = [] := by
  have := h.lk.rows
  have hl := congrArg List.length this
  rw [List.length_append] at hl
  exact List.length_eq_zero_iff.mp (by omega)
theorem Bare.init (b : Bd) : Bare b (MS.init b) (MS.init b) := ⟨⟨rfl, rfl, rfl, fun _ => rfl, rfl⟩, rfl⟩
theorem Bare.eqv {S2 : MS} (h : Bare b M S) (e : Eqv S S2) : Bare b M S2 := ⟨h.lk.trans e.lk, by rw [h.se, e.nr, e.nf]⟩
/-- a beat: told amiss there, and so here -/
theorem Bare.no {mv : Bool} (h : Bare b M S) (e : after (plainOf b) (nextOf b S mv) = none) : seen (plainOf b) (tails (nextOf b M mv).tick.rows) (0, 0) = none := by
  have c := (cn_process (M := S) b).trans (cn_moved mv)
  have l := (h.lk.process b).moved mv
  have hs := h.bare
  unfold after at e
  rw [Option.map_eq_none_iff] at e
  show seen (plainOf b) (tails ((M.process b).moved mv).rows) (0, 0) = none
  rw [l.rows, seen_append, h.se]
  have e' : seen (plainOf b) (tails ((S.process b).moved mv).rows) (((S.process b).moved mv).nr, ((S.process b).moved mv).nf) = none := e
  rw [c.nr, c.nf] at e'
  exact e'
theorem Bare.yes {mv : Bool} {S1 : MS} (h : Bare b M S) (e : after (plainOf b) (nextOf b S mv) = some S1) : Bare b (nextOf b M mv).tick S1 := by
  have c := (cn_process (M := S) b).trans (cn_moved mv)
  have l := (h.lk.process b).moved mv
  unfold after at e
  obtain ⟨s, h1, h2⟩ := Option.map_eq_some_iff.mp e
  subst h2
  have e' : seen (plainOf b) (tails ((S.process b).moved mv).rows) (((S.process b).moved mv).nr, ((S.process b).moved mv).nf) = some s := h1
  rw [c.nr, c.nf] at e'
  refine ⟨⟨l.mem, l.left, l.at_, l.held, ?_⟩, ?_⟩
  · show tails ((M.process b).moved mv).rows = tails ((M.process b).moved mv).rows ++ []
    rw [List.append_nil]
  · show seen (plainOf b) (tails ((M.process b).moved mv).rows) (0, 0) = _
    rw [l.rows, seen_append, h.se]
    exact e'
theorem run_done {k : Nat} {pace : List Bool} (ho : M.over b = true) : MS.run b k M pace = M := by
  cases k with
  | zero => rfl
  | succ k =>
    show (if M.over b = true then M else _) = M
    rw [if_pos ho]
/-- at this pace something is amiss: Bad -/
theorem bad_of_run (g : Good b) : ∀ (k : Nat) {M S : MS} (pace : List Bool), Bare b M S → M.fuel b ≤ k →
    (seen (plainOf b) (tails (MS.run b k M pace).rows) (0, 0) = none ∨ (MS.run b k M pace).finish.mem ≠ (plainOf b).mem) → Bad b S := by
  intro k
  induction k with
  | zero =>
    intro M S pace h hf hr
    have ho : M.over b = true := run_over g 0 pace hf
    rw [run_done ho, h.se] at hr
    rcases hr with hr | hr
    · cases hr
    · exact .fin S (by rw [← h.lk.over b]; exact ho) (by rw [← h.lk.finish.mem]; exact hr)
  | succ k ih =>
    intro M S pace h hf hr
    by_cases ho : M.over b = true
    · rw [run_done ho, h.se] at hr
      rcases hr with hr | hr
      · cases hr
      · exact .fin S (by rw [← h.lk.over b]; exact ho) (by rw [← h.lk.finish.mem]; exact hr)
    · have ho' : M.over b = false := by simpa using ho
      have e : MS.run b (k + 1) M pace = MS.run b k (M.beat b pace) ((M.process b).pick pace).2 := by
        show (if M.over b = true then M else _) = _
        rw [if_neg ho]
      have hless := beat_less g ho' pace
      rw [e] at hr
      have hm : may b S ((M.process b).pick pace).1 := by
        unfold may
        rw [← h.lk.mayRest g]
        unfold MS.pick
        split
        · rename_i hh
          exact .inr hh
        · exact .inl rfl
      have hoS : S.over b = false := by rw [← h.lk.over b]; exact ho'
      have eb : M.beat b pace = (nextOf b M ((M.process b).pick pace).1).tick := rfl
      cases ea : after (plainOf b) (nextOf b S ((M.process b).pick pace).1) with
      | none => exact .see S _ hoS hm ea
      | some S1 =>
        refine .on S _ S1 hoS hm ea (ih ((M.process b).pick pace).2 ?_ (show (M.beat b pace).fuel b ≤ k by omega) hr)
        rw [eb]
        exact h.yes ea
/-- the pace that takes this way -/
def paceOf (b : Bd) (M : MS) (mv : Bool) : List Bool := if (M.process b).mayRest = true then [mv] else []
theorem pick_of {mv : Bool} {rest : List Bool} (h : may b M mv) : (M.process b).pick (paceOf b M mv ++ rest) = (mv, rest) := by
  unfold MS.pick paceOf
  by_cases hm : (M.process b).mayRest = true
  · rw [if_pos hm, if_pos hm]
    rfl
  · rw [if_neg hm, if_neg hm]
    rcases h with h | h
    · rw [h]
      rfl
    · exact absurd h hm
theorem run_next {k : Nat} {mv : Bool} {rest : List Bool} (ho : M.over b = false) (h : may b M mv) : MS.run b (k + 1) M (paceOf b M mv ++ rest) = MS.run b k (nextOf b M mv).tick rest := by
  show (if M.over b = true then M else MS.run b k (M.beat b (paceOf b M mv ++ rest)) ((M.process b).pick (paceOf b M mv ++ rest)).2) = _
  rw [ho]
  show MS.run b k (((M.process b).moved ((M.process b).pick (paceOf b M mv ++ rest)).1).tick) ((M.process b).pick (paceOf b M mv ++ rest)).2 = _
  rw [pick_of h]
  rfl
theorem next_less (g : Good b) {mv : Bool} (ho : M.over b = false) (h : may b M mv) : (nextOf b M mv).tick.fuel b < M.fuel b := by
  have := beat_less g ho (paceOf b M mv ++ [])
  unfold MS.beat at this
  rw [pick_of h] at this
  exact this
/-- S, met by a search at the pace p -/
def Way (b : Bd) (p : List Bool) (S : MS) : Prop := ∃ M k, Bare b M S ∧ M.fuel b ≤ k ∧ p.length + k ≤ 1980 ∧ ∀ rest, MS.run b 1980 (MS.init b) (p ++ rest) = MS.run b k M rest
theorem Way.init (g : Good b) : Way b [] (MS.init b) := ⟨MS.init b, 1980, Bare.init b, by have := (Going.init g).far; omega, by simp, fun _ => rfl⟩
theorem Way.len {p : List Bool} (h : Way b p S) : p.length ≤ 1980 := by
  obtain ⟨_, _, _, _, h, _⟩ := h
  omega
theorem Way.eqv {p : List Bool} {S2 : MS} (h : Way b p S) (e : Eqv S S2) : Way b p S2 := by
  obtain ⟨M, k, h1, h2, h3, h4⟩ := h
  exact ⟨M, k, h1.eqv e, h2, h3, h4⟩
theorem Bare.paceOf (h : Bare b M S) (g : Good b) (mv : Bool) : BC.paceOf b M mv = BC.paceOf b S mv := by
  unfold BC.paceOf
  rw [h.lk.mayRest g]
theorem Bare.may (h : Bare b M S) (g : Good b) {mv : Bool} (hm : may b S mv) : BC.may b M mv := by
  unfold BC.may at hm ⊢
  rw [h.lk.mayRest g]
  exact hm
theorem paceOf_len (mv : Bool) : (paceOf b M mv).length ≤ 1 := by
  unfold paceOf
  split <;> simp
theorem Way.next {p : List Bool} {mv : Bool} {S1 : MS} (g : Good b) (h : Way b p S) (ho : S.over b = false) (hm : may b S mv) (e : after (plainOf b) (nextOf b S mv) = some S1) : Way b (p ++ paceOf b S mv) S1 := by
  obtain ⟨M, k, h1, h2, h3, h4⟩ := h
  have hoM : M.over b = false := by rw [h1.lk.over b]; exact ho
  have hmM := h1.may g hm
  have hless := next_less g hoM hmM
  obtain ⟨k, rfl⟩ := Nat.exists_eq_succ_of_ne_zero (show k ≠ 0 by omega)
  refine ⟨(nextOf b M mv).tick, k, h1.yes e, by omega, ?_, fun rest => ?_⟩
  · have := paceOf_len (b := b) (M := S) mv
    rw [List.length_append]
    omega
  · rw [List.append_assoc, h4, ← h1.paceOf g]
    exact run_next hoM hmM
theorem Way.see {p : List Bool} {mv : Bool} (g : Good b) (h : Way b p S) (ho : S.over b = false) (hm : may b S mv) (e : after (plainOf b) (nextOf b S mv) = none) : amissOf b (p ++ paceOf b S mv) ≠ [] ∧ (p ++ paceOf b S mv).length ≤ 1980 := by
  obtain ⟨M, k, h1, h2, h3, h4⟩ := h
  have hoM : M.over b = false := by rw [h1.lk.over b]; exact ho
  have hmM := h1.may g hm
  have hless := next_less g hoM hmM
  obtain ⟨k, rfl⟩ := Nat.exists_eq_succ_of_ne_zero (show k ≠ 0 by omega)
  refine ⟨(amiss_iff g _).mpr (.inl ?_), ?_⟩
  · have e1 := h4 (BC.paceOf b M mv ++ [])
    rw [run_next hoM hmM, List.append_nil, h1.paceOf g] at e1
    rw [e1]
    obtain ⟨more, hr⟩ := run_tells g k (nextOf b M mv).tick []
    rw [hr, seen_append, h1.no e]
    rfl
  · have := paceOf_len (b := b) (M := S) mv
    rw [List.length_append]
    omega
theorem Way.fin {p : List Bool} (g : Good b) (h : Way b p S) (ho : S.over b = true) (e : S.finish.mem ≠ (plainOf b).mem) : amissOf b p ≠ [] := by
  obtain ⟨M, k, h1, h2, h3, h4⟩ := h
  have e1 := h4 []
  rw [List.append_nil, run_done (M := M) (by rw [h1.lk.over b]; exact ho)] at e1
  refine (amiss_iff g _).mpr (.inr ?_)
  rw [e1, h1.lk.finish.mem]
  exact e
/-- Bad: at some pace something is amiss -/
theorem amiss_of_bad (g : Good b) (hb : Bad b S) : ∀ {p : List Bool}, Way b p S → ∃ q, amissOf b q ≠ [] ∧ q.length ≤ 1980 := by
  induction hb with
  | fin S ho h => exact fun {p} w => ⟨p, w.fin g ho h, w.len⟩
  | see S mv ho h hn => exact fun {p} w => ⟨_, w.see g ho h hn⟩
  | on S mv S1 ho h hn hb ih => exact fun {p} w => ih (w.next g ho h hn)
theorem bad_iff (g : Good b) : Bad b (MS.init b) ↔ ∃ pace, amissOf b pace ≠ [] := by
  constructor
  · intro h
    obtain ⟨q, h1, _⟩ := amiss_of_bad g h (Way.init g)
    exact ⟨q, h1⟩
  · rintro ⟨pace, h⟩
    exact bad_of_run g 1980 pace (Bare.init b) (by have := (Going.init g).far; omega) ((amiss_iff g pace).mp h)
end
end BC
/-! BCSrch: what a search's machines are, their keys, how many there are; a search that ends tells Bad. -/
namespace BC
open PySem PySem.Spec PyProof.Rows L2
def allMoves (b : Bd) (n : Nat) : List Mv := (b.prog.take n).flatMap (startMoves b.ords)
def allReads (b : Bd) (n : Nat) : List Nat := (b.prog.take n).flatMap readsOf
/-- where a machine is -/
structure Pl (b : Bd) (M : MS) : Prop where
  ok : M.Ok b.mem.length
  le : M.at_ ≤ b.prog.length
  rd : M.nr + (cellsOf "read" M.rows).length = (allReads b M.at_).length
  ft : M.nf + (cellsOf "fetch" M.rows).length ≤ (allMoves b M.at_).length
  lf : M.left = (allMoves b M.at_).drop (M.nf + (cellsOf "fetch" M.rows).length)
section
variable {b : Bd} {M : MS}
theorem Pl.init (b : Bd) : Pl b (MS.init b) := ⟨MS.Ok.init, Nat.zero_le _, by simp [MS.init, cellsOf, allReads], by simp [MS.init, cellsOf, allMoves], by simp [MS.init, cellsOf, allMoves]⟩
theorem all_next {d : Deed} (e : b.prog[M.at_]? = some d) : allMoves b (M.at_ + 1) = allMoves b M.at_ ++ startMoves b.ords d ∧ allReads b (M.at_ + 1) = allReads b M.at_ ++ readsOf d := by
  have et : b.prog.take (M.at_ + 1) = b.prog.take M.at_ ++ [d] := by rw [List.take_add_one, e]; rfl
  unfold allMoves allReads
  rw [et, List.flatMap_append, List.flatMap_append]
  simp
theorem Pl.process (h : Pl b M) (g : Good b) : Pl b (M.process b) := by
  have hok := h.ok.process g
  unfold MS.process at hok ⊢
  split
  · exact ⟨⟨h.ok.len, h.ok.nd, h.ok.lines, h.ok.left⟩, h.le, h.rd, h.ft, h.lf⟩
  · rename_i hi
    rw [if_neg hi] at hok
    split
    · rename_i d e
      rw [e] at hok
      obtain ⟨h1, h2⟩ := deed_left (M := { M with idle := false, at_ := M.at_ + 1 }) b.ords d
      have t := tells_deed (M := { M with idle := false, at_ := M.at_ + 1 }) b.ords d
      have c := cn_deed (M := { M with idle := false, at_ := M.at_ + 1 }) b.ords d
      obtain ⟨a1, a2⟩ := all_next e
      refine ⟨hok, ?_, ?_, ?_, ?_⟩
      · rw [h2]
        exact (List.getElem?_eq_some_iff.mp e).1
      · rw [c.nr, t.rd, h2]
        show M.nr + (cellsOf "read" M.rows ++ readsOf d).length = (allReads b (M.at_ + 1)).length
        have := h.rd
        rw [a2, List.length_append, List.length_append]
        omega
      · rw [c.nf, t.ft, h2]
        show M.nf + (cellsOf "fetch" M.rows ++ []).length ≤ (allMoves b (M.at_ + 1)).length
        have := h.ft
        rw [a1, List.append_nil, List.length_append]
        omega
      · rw [c.nf, t.ft, h1, h2]
        show M.left ++ startMoves b.ords d = (allMoves b (M.at_ + 1)).drop (M.nf + (cellsOf "fetch" M.rows ++ []).length)
        rw [a1, List.append_nil, List.drop_append_of_le_length h.ft, ← h.lf]
    · exact h
theorem Pl.carry (h : Pl b M) : Pl b M.carry := by
  obtain ⟨c1, c2, c3, c4, c5⟩ := carry_grew (M := M)
  have t := tells_carry (M := M)
  have c := cn_carry (M := M)
  refine ⟨h.ok.carry, by rw [c1]; exact h.le, ?_, ?_, ?_⟩
  · rw [c.nr, t.rd, c1, List.append_nil]
    exact h.rd
  · rw [c.nf, t.ft, c1]
    have h1 := h.ft
    have h2 := congrArg List.length h.lf
    rw [List.length_drop] at h2
    simp only [List.length_append, List.length_map, List.length_take]
    omega
  · rw [c.nf, t.ft, c1, c4]
    have h2 := h.lf
    cases e : M.left with
    | nil =>
      rw [e] at h2
      simp only [List.take_nil, List.map_nil, List.append_nil, List.tail_nil]
      exact h2
    | cons m r =>
      rw [e] at h2
      have : (cellsOf "fetch" M.rows ++ List.map (·.src) (List.take 1 (m :: r))).length = (cellsOf "fetch" M.rows).length + 1 := by simp
      rw [this, ← Nat.add_assoc, ← List.tail_drop, ← h2]
theorem Pl.moved (h : Pl b M) (mv : Bool) : Pl b (M.moved mv) := by
  unfold MS.moved
  split
  · exact h.carry
  · exact h
theorem Pl.next (h : Pl b M) (g : Good b) (mv : Bool) : Pl b (nextOf b M mv) := (h.process g).moved mv
theorem Pl.tick (h : Pl b M) : Pl b M.tick := ⟨⟨h.ok.len, h.ok.nd, h.ok.lines, h.ok.left⟩, h.le, h.rd, h.ft, h.lf⟩
theorem seen_count (aim : PS) : ∀ (rows : List Row) (s t : Nat × Nat), seen aim (tails rows) s = some t → t.1 = s.1 + (cellsOf "read" rows).length ∧ t.2 = s.2 + (cellsOf "fetch" rows).length
  | [], s, t, h => by
    have : s = t := Option.some.inj h
    subst this
    simp [cellsOf]
  | r :: rest, s, t, h => by
    have h' : (match look aim s r.2 with | none => none | some s' => seen aim (tails rest) s') = some t := h
    unfold look at h'
    by_cases e1 : r.2.1 = Str.ofString "read"
    · rw [if_pos e1] at h'
      have c1 : cellsOf "read" (r :: rest) = r.2.2.1 :: cellsOf "read" rest := by
        unfold cellsOf
        rw [List.filter_cons, if_pos (decide_eq_true e1)]
        rfl
      have c2 : cellsOf "fetch" (r :: rest) = cellsOf "fetch" rest := by
        unfold cellsOf
        rw [List.filter_cons, if_neg (by rw [e1]; simpa using ne_rf.symm)]
      by_cases e2 : aim.reads[s.1]? = some r.2.2
      · rw [if_pos e2] at h'
        obtain ⟨g1, g2⟩ := seen_count aim rest _ t h'
        rw [c1, c2, g1, g2]
        exact ⟨by simp only [List.length_cons]; omega, rfl⟩
      · rw [if_neg e2] at h'
        cases h'
    · rw [if_neg e1] at h'
      have c1 : cellsOf "read" (r :: rest) = cellsOf "read" rest := by
        unfold cellsOf
        rw [List.filter_cons, if_neg (by simpa using e1)]
      by_cases e3 : r.2.1 = Str.ofString "fetch"
      · rw [if_pos e3] at h'
        have c2 : cellsOf "fetch" (r :: rest) = r.2.2.1 :: cellsOf "fetch" rest := by
          unfold cellsOf
          rw [List.filter_cons, if_pos (decide_eq_true e3)]
          rfl
        by_cases e2 : aim.fetches[s.2]? = some r.2.2
        · rw [if_pos e2] at h'
          obtain ⟨g1, g2⟩ := seen_count aim rest _ t h'
          rw [c1, c2, g1, g2]
          exact ⟨rfl, by simp only [List.length_cons]; omega⟩
        · rw [if_neg e2] at h'
          cases h'
      · rw [if_neg e3] at h'
        have c2 : cellsOf "fetch" (r :: rest) = cellsOf "fetch" rest := by
          unfold cellsOf
          rw [List.filter_cons, if_neg (by simpa using e3)]
        obtain ⟨g1, g2⟩ := seen_count aim rest _ t h'
        rw [c1, c2]
        exact ⟨g1, g2⟩
/-- a machine of a search -/
structure Std (b : Bd) (S : MS) : Prop where
  pl : Pl b S
  rows : S.rows = []
theorem Std.init (b : Bd) : Std b (MS.init b) := ⟨Pl.init b, rfl⟩
theorem Pl.after {S : MS} (h : Pl b M) (e : after (plainOf b) M = some S) : Std b S := by
  unfold BC.after at e
  obtain ⟨s, h1, h2⟩ := Option.map_eq_some_iff.mp e
  obtain ⟨g1, g2⟩ := seen_count _ _ _ _ h1
  subst h2
  refine ⟨⟨⟨h.ok.len, h.ok.nd, h.ok.lines, h.ok.left⟩, h.le, ?_, ?_, ?_⟩, rfl⟩
  · show s.1 + 0 = _
    rw [g1]
    exact h.rd
  · show s.2 + 0 ≤ _
    rw [g2]
    exact h.ft
  · show M.left = (allMoves b M.at_).drop (s.2 + 0)
    rw [g2]
    exact h.lf
theorem Std.tick {S : MS} (h : Std b S) : Std b S.tick := ⟨h.pl.tick, h.rows⟩
theorem take_le_len {α β : Type} (f : α → List β) : ∀ (xs : List α) (n : Nat), ((xs.take n).flatMap f).length ≤ (xs.flatMap f).length
  | [], n => by simp
  | x :: r, 0 => by simp
  | x :: r, n + 1 => by
    have := take_le_len f r n
    simp only [List.take_succ_cons, List.flatMap_cons, List.length_append]
    omega
theorem plain_lens (b : Bd) : (plainOf b).reads.length = (b.prog.flatMap readsOf).length ∧ (plainOf b).fetches.length = (b.prog.flatMap (startMoves b.ords)).length := by
  obtain ⟨p1, p2⟩ := plain_told b.ords b.prog (PS.init b.mem)
  have h1 := congrArg List.length p1
  have h2 := congrArg List.length p2
  simp only [List.length_map, List.length_append] at h1 h2
  refine ⟨?_, ?_⟩
  · unfold plainOf
    simpa [PS.init] using h1
  · unfold plainOf
    simpa [PS.init] using h2
/-- each reading that is looked at is due -/
theorem Pl.due (h : Pl b M) {x y : List Row} {r : Row} (e : M.rows = x ++ r :: y) : (r.2.1 = Str.ofString "read" → M.nr + (cellsOf "read" x).length < (plainOf b).reads.length) ∧ (r.2.1 = Str.ofString "fetch" → M.nf + (cellsOf "fetch" x).length < (plainOf b).fetches.length) := by
  obtain ⟨p1, p2⟩ := plain_lens b
  have t1 := take_le_len readsOf b.prog M.at_
  have t2 := take_le_len (startMoves b.ords) b.prog M.at_
  have key : ∀ w : Str, r.2.1 = w → (cellsOf w x).length < (cellsOf w M.rows).length := by
    intro w hw
    rw [e]
    unfold cellsOf
    simp only [List.filter_append, List.map_append, List.length_append, List.filter_cons, if_pos (decide_eq_true hw), List.map_cons, List.length_cons]
    omega
  have h1 := h.rd
  have h2 := h.ft
  unfold allReads at h1
  unfold allMoves at h2
  constructor
  · intro hw
    have := key _ hw
    omega
  · intro hw
    have := key _ hw
    omega
/-- few rows in a beat -/
theorem next_rows (g : Good b) (mv : Bool) : (nextOf b M mv).rows.length ≤ M.rows.length + 9 := by
  have h1 := (process_grew (M := M) g).2.1
  have h2 := (carry_grew (M := M.process b)).2.2.2.2
  unfold nextOf MS.moved
  split <;> omega
end
/-! ### keys -/
abbrev KeyD := Nat × List Int × List HE × Nat
set_option synthInstance.maxSize 1000 in
instance : DecidableEq KeyD := inferInstanceAs (DecidableEq (Nat × List Int × List (Nat × List Int × Bool) × Nat))
def heldUp (M : MS) : List HE := (List.range 4).filterMap fun l => (hget M.held l).map fun v => (l, v)
def keyOf (M : MS) : KeyD := (M.at_, M.mem, heldUp M, M.left.length)
theorem hget_up (M : MS) (l : Nat) : hget (heldUp M) l = if l < 4 then hget M.held l else none := by
  have key : ∀ (ls : List Nat), ls.Nodup → hget (ls.filterMap fun l => (hget M.held l).map fun v => (l, v)) l = if l ∈ ls then hget M.held l else none := by
    intro ls
    induction ls with
    | nil => intro _; simp [hget]
    | cons k r ih =>
      intro nd
      simp only [List.nodup_cons] at nd
      rw [List.filterMap_cons]
      cases e : hget M.held k with
      | none =>
        simp only [Option.map_none]
        rw [ih nd.2]
        by_cases h : l = k
        · subst h
          rw [if_neg nd.1, if_pos List.mem_cons_self, e]
        · by_cases h2 : l ∈ r
          · rw [if_pos h2, if_pos (List.mem_cons_of_mem _ h2)]
          · rw [if_neg h2, if_neg (by simp [h, h2])]
      | some v =>
        simp only [Option.map_some]
        show (if k = l then some v else hget _ l) = _
        by_cases h : k = l
        · subst h
          rw [if_pos rfl, if_pos List.mem_cons_self, e]
        · rw [if_neg h, ih nd.2]
          by_cases h2 : l ∈ r
          · rw [if_pos h2, if_pos (List.mem_cons_of_mem _ h2)]
          · rw [if_neg h2, if_neg (by simp [Ne.symm h, h2])]
  unfold heldUp
  rw [key _ List.nodup_range]
  simp only [List.mem_range]
section
variable {b : Bd} {M N : MS}
theorem Eqv.key (h : Eqv M N) : keyOf M = keyOf N := by
  unfold keyOf heldUp
  rw [h.lk.at_, h.lk.mem, h.lk.left]
  simp only [h.lk.held]
theorem key_eqv (g : Good b) (hM : Std b M) (hN : Std b N) (h : keyOf M = keyOf N) : Eqv M N := by
  unfold keyOf at h
  simp only [Prod.mk.injEq] at h
  obtain ⟨h1, h2, h3, h4⟩ := h
  have hm := hM.pl.lf
  have hn := hN.pl.lf
  have fm := hM.pl.ft
  have fn := hN.pl.ft
  have rm := hM.pl.rd
  have rn := hN.pl.rd
  rw [hM.rows] at hm fm rm
  rw [hN.rows] at hn fn rn
  have c0 : ∀ w : Str, (cellsOf w []).length = 0 := fun _ => rfl
  simp only [c0, Nat.add_zero] at hm fm rm hn fn rn
  have hf : M.nf = N.nf := by
    have l1 := congrArg List.length hm
    have l2 := congrArg List.length hn
    rw [List.length_drop] at l1 l2
    rw [h1] at l1 fm
    omega
  refine ⟨⟨h2, by rw [hm, hn, h1, hf], h1, fun l => ?_, by rw [hM.rows, hN.rows]; rfl⟩, by rw [rm, rn, h1], hf⟩
  have a1 := hget_up M l
  have a2 := hget_up N l
  rw [h3] at a1
  by_cases hl : l < 4
  · rw [if_pos hl] at a1 a2
    exact a1.symm.trans a2
  · have out : ∀ {S : MS}, Std b S → hget S.held l = none := by
      intro S hS
      cases e : hget S.held l with
      | none => rfl
      | some v =>
        have := (hS.pl.ok.cells4 e).2
        have := g.lines
        omega
    rw [out hM, out hN]
end
/-! ### searches -/
inductive Reach (b : Bd) : MS → Prop
  | init : Reach b (MS.init b)
  | next {S S1 S2 : MS} {mv : Bool} (h : Reach b S) (ho : S.over b = false) (hm : may b S mv) (e : after (plainOf b) (nextOf b S mv) = some S1) (q : Eqv S1 S2) : Reach b S2
/-- A: the machines that were met; P: those that are done with; met: their keys -/
structure Srch (b : Bd) (A P : MS → Prop) (met : List KeyD) : Prop where
  std : ∀ S, A S → Std b S ∧ Reach b S
  key : ∀ k ∈ met, ∃ S, A S ∧ keyOf S = k
  init : ∃ S, A S ∧ Eqv (MS.init b) S
  sub : ∀ S, P S → A S
  over : ∀ S, P S → S.over b = true → S.finish.mem = (plainOf b).mem
  on : ∀ S, P S → S.over b = false → ∀ mv, may b S mv → ∃ N, after (plainOf b) (nextOf b S mv) = some N ∧ keyOf N ∈ met
  nd : met.Nodup
section
variable {b : Bd} {A P : MS → Prop} {met : List KeyD}
theorem Srch.start (b : Bd) : Srch b (fun S => S = MS.init b) (fun _ => False) [] :=
  ⟨fun S h => (by rw [h]; exact ⟨Std.init b, Reach.init⟩), fun k hk => (by cases hk), ⟨_, rfl, Eqv.refl _⟩, fun _ h => False.elim h, fun _ h => False.elim h, fun _ h => False.elim h, List.nodup_nil⟩
theorem Srch.sure (g : Good b) (h : Srch b A A met) : ¬ Bad b (MS.init b) := by
  have key : ∀ {S : MS}, Bad b S → ∀ {S' : MS}, A S' → Eqv S S' → False := by
    intro S hb
    induction hb with
    | fin S ho hf =>
      intro S' hA e
      refine hf ?_
      rw [e.lk.finish.mem]
      exact h.over S' hA (by rw [← e.lk.over b]; exact ho)
    | see S mv ho hm hn =>
      intro S' hA e
      obtain ⟨N, h1, _⟩ := h.on S' hA (by rw [← e.lk.over b]; exact ho) mv (e.may g hm)
      rw [(e.next b mv).after_none hn] at h1
      cases h1
    | on S mv S1 ho hm hn hb ih =>
      intro S' hA e
      obtain ⟨N, h1, h2⟩ := h.on S' hA (by rw [← e.lk.over b]; exact ho) mv (e.may g hm)
      obtain ⟨N1, h3, h4⟩ := (e.next b mv).after_some hn
      rw [h1] at h3
      cases h3
      obtain ⟨S2, hA2, hk⟩ := h.key _ h2
      have hN : Std b N := ((h.std S' hA).1.pl.next g mv).after h1
      exact ih hA2 (h4.trans (key_eqv g hN (h.std S2 hA2).1 hk.symm))
  intro hb
  obtain ⟨S, hA, e⟩ := h.init
  exact key hb hA e
/-- another machine is met -/
theorem Srch.push (h : Srch b A P met) {N : MS} (hs : Std b N) (hr : Reach b N) (hk : keyOf N ∉ met) : Srch b (fun S => A S ∨ S = N) P (met ++ [keyOf N]) where
  std := fun S hS => by
    rcases hS with hS | rfl
    · exact h.std S hS
    · exact ⟨hs, hr⟩
  key := fun k hk' => by
    rcases List.mem_append.mp hk' with hk' | hk'
    · obtain ⟨S, h1, h2⟩ := h.key k hk'
      exact ⟨S, .inl h1, h2⟩
    · rw [List.mem_singleton] at hk'
      exact ⟨N, .inr rfl, hk'.symm⟩
  init := let ⟨S, h1, h2⟩ := h.init; ⟨S, .inl h1, h2⟩
  sub := fun S hS => .inl (h.sub S hS)
  over := h.over
  on := fun S hS ho mv hm => let ⟨N, h1, h2⟩ := h.on S hS ho mv hm; ⟨N, h1, List.mem_append_left _ h2⟩
  nd := by
    rw [List.nodup_append]
    refine ⟨h.nd, by simp, fun a ha c hc => ?_⟩
    rw [List.mem_singleton] at hc
    rintro rfl
    exact hk (hc ▸ ha)
/-- a machine is done with -/
theorem Srch.pop (h : Srch b A P met) {S : MS} (hA : A S) (ho : S.over b = true → S.finish.mem = (plainOf b).mem) (hn : S.over b = false → ∀ mv, may b S mv → ∃ N, after (plainOf b) (nextOf b S mv) = some N ∧ keyOf N ∈ met) : Srch b A (fun T => P T ∨ T = S) met where
  std := h.std
  key := h.key
  init := h.init
  sub := fun T hT => by
    rcases hT with hT | rfl
    · exact h.sub T hT
    · exact hA
  over := fun T hT => by
    rcases hT with hT | rfl
    · exact h.over T hT
    · exact ho
  on := fun T hT => by
    rcases hT with hT | rfl
    · exact h.on T hT
    · exact hn
  nd := h.nd
theorem Srch.iff {A2 P2 : MS → Prop} (h : Srch b A P met) (hA : ∀ S, A S ↔ A2 S) (hP : ∀ S, P S ↔ P2 S) : Srch b A2 P2 met := by
  have e1 : A = A2 := funext fun S => propext (hA S)
  have e2 : P = P2 := funext fun S => propext (hP S)
  rw [← e1, ← e2]
  exact h
end
/-- there are at most n machines to be met -/
def Few (b : Bd) (n : Nat) : Prop := ∃ U : List KeyD, U.length ≤ n ∧ ∀ S, Reach b S → keyOf S ∈ U
theorem nodup_sub {α : Type} [DecidableEq α] : ∀ (xs ys : List α), xs.Nodup → (∀ x ∈ xs, x ∈ ys) → xs.length ≤ ys.length
  | [], ys, _, _ => Nat.zero_le _
  | x :: r, ys, nd, h => by
    simp only [List.nodup_cons] at nd
    have hx := h x List.mem_cons_self
    have := nodup_sub r (ys.erase x) nd.2 fun y hy => by
      have hne : y ≠ x := fun z => nd.1 (z ▸ hy)
      exact (List.mem_erase_of_ne hne).mpr (h y (List.mem_cons_of_mem _ hy))
    rw [List.length_erase_of_mem hx] at this
    have := List.length_pos_of_mem hx
    simp only [List.length_cons]
    omega
theorem Srch.few {b : Bd} {A P : MS → Prop} {met : List KeyD} {n : Nat} (h : Srch b A P met) (f : Few b n) : met.length ≤ n := by
  obtain ⟨U, h1, h2⟩ := f
  refine Nat.le_trans (nodup_sub met U h.nd fun k hk => ?_) h1
  obtain ⟨S, hA, rfl⟩ := h.key k hk
  exact h2 S (h.std S hA).2
/-! ### the tree of all ways -/
def tree (b : Bd) : Nat → MS → List KeyD
  | 0, M => [keyOf M]
  | n + 1, M => keyOf M :: if M.over b = true then [] else if (M.process b).mayRest = true then tree b n (nextOf b M false) ++ tree b n (nextOf b M true) else tree b n (nextOf b M true)
/-- what is left to be done and moved, in all -/
def toDo (b : Bd) (M : MS) : Nat := (b.prog.length - M.at_) + M.left.length + ((b.prog.drop M.at_).flatMap (startMoves b.ords)).length
section
variable {b : Bd} {M : MS}
theorem next_toDo (g : Good b) {mv : Bool} (ho : M.over b = false) (hm : may b M mv) : toDo b (nextOf b M mv) < toDo b M ∧ ((M.process b).mayRest = true → b.prog.length - (nextOf b M mv).at_ + 1 ≤ b.prog.length - M.at_) ∧ M.at_ ≤ (nextOf b M mv).at_ := by
  obtain ⟨c1, c2, c3, c4, c5⟩ := carry_grew (M := M.process b)
  have e2 := (process_grew (M := M) g).2.2.2.2.2
  by_cases hi : M.isIdle b.prog = true
  · have ep : M.process b = { M with idle := true } := by unfold MS.process; rw [if_pos hi]
    have hr : (M.process b).mayRest = false := by
      unfold MS.mayRest
      rw [e2, hi]
      simp
    have hmv : mv = true := by
      rcases hm with h | h
      · exact h
      · rw [hr] at h
        cases h
    subst hmv
    have en : nextOf b M true = (M.process b).carry := rfl
    rw [hr, en]
    have hne : M.left ≠ [] := by
      intro z
      unfold MS.isIdle at hi
      unfold MS.over at ho
      rw [z] at hi ho
      simp at hi ho
      omega
    refine ⟨?_, fun z => (by cases z), by rw [c1, ep]; exact Nat.le_refl _⟩
    unfold toDo
    rw [c1, c4, ep]
    show (b.prog.length - M.at_) + M.left.tail.length + _ < _
    cases hl : M.left with
    | nil => exact absurd hl hne
    | cons m r =>
      simp only [List.tail_cons, List.length_cons]
      omega
  · have hlt : M.at_ < b.prog.length := by
      unfold MS.isIdle at hi
      simp only [Bool.or_eq_true, decide_eq_true_eq, not_or] at hi
      omega
    have e : b.prog[M.at_]? = some b.prog[M.at_] := List.getElem?_eq_getElem hlt
    obtain ⟨h1, h2⟩ := deed_left (M := { M with idle := false, at_ := M.at_ + 1 }) b.ords b.prog[M.at_]
    have ep : M.process b = MS.deed b.ords { M with idle := false, at_ := M.at_ + 1 } b.prog[M.at_] := by
      unfold MS.process
      rw [if_neg hi, e]
    have pa : (M.process b).at_ = M.at_ + 1 := by rw [ep, h2]
    have pl : (M.process b).left = M.left ++ startMoves b.ords b.prog[M.at_] := by rw [ep, h1]
    have ed : ((b.prog.drop M.at_).flatMap (startMoves b.ords)).length = (startMoves b.ords b.prog[M.at_]).length + ((b.prog.drop (M.at_ + 1)).flatMap (startMoves b.ords)).length := by
      rw [List.drop_eq_getElem_cons hlt, List.flatMap_cons, List.length_append]
    have na : (nextOf b M mv).at_ = M.at_ + 1 := by
      unfold nextOf MS.moved
      split
      · rw [c1, pa]
      · exact pa
    have nl : (nextOf b M mv).left.length ≤ (M.process b).left.length := by
      unfold nextOf MS.moved
      split
      · rw [c4]
        simp
      · exact Nat.le_refl _
    refine ⟨?_, fun _ => by rw [na]; omega, by rw [na]; omega⟩
    unfold toDo
    rw [na, ed]
    rw [pl, List.length_append] at nl
    omega
theorem tree_len (g : Good b) : ∀ (n : Nat) (M : MS), toDo b M ≤ n → (tree b n M).length ≤ 2 ^ (b.prog.length - M.at_) * (n + 1)
  | 0, M, h => by
    show 1 ≤ _
    exact Nat.mul_pos (Nat.two_pow_pos _) (Nat.succ_pos _)
  | n + 1, M, h => by
    have pos := Nat.two_pow_pos (b.prog.length - M.at_)
    have big : 2 ^ (b.prog.length - M.at_) * (n + 1 + 1) = 2 ^ (b.prog.length - M.at_) * (n + 1) + 2 ^ (b.prog.length - M.at_) := Nat.mul_succ _ _
    unfold tree
    by_cases ho : M.over b = true
    · rw [if_pos ho, big]
      simp only [List.length_cons, List.length_nil]
      omega
    · rw [if_neg ho]
      have ho' : M.over b = false := by simpa using ho
      by_cases hm : (M.process b).mayRest = true
      · rw [if_pos hm]
        obtain ⟨a1, a2, a3⟩ := next_toDo g (mv := false) ho' (.inr hm)
        obtain ⟨b1, b2, b3⟩ := next_toDo g (mv := true) ho' (.inl rfl)
        have t1 := tree_len g n _ (show toDo b (nextOf b M false) ≤ n by omega)
        have t2 := tree_len g n _ (show toDo b (nextOf b M true) ≤ n by omega)
        have a2' := a2 hm
        have b2' := b2 hm
        have p1 : 2 ^ (b.prog.length - (nextOf b M false).at_) ≤ 2 ^ (b.prog.length - M.at_ - 1) := Nat.pow_le_pow_right (by decide) (by omega)
        have p2 : 2 ^ (b.prog.length - (nextOf b M true).at_) ≤ 2 ^ (b.prog.length - M.at_ - 1) := Nat.pow_le_pow_right (by decide) (by omega)
        have q1 := Nat.mul_le_mul_right (n + 1) p1
        have q2 := Nat.mul_le_mul_right (n + 1) p2
        have dbl : 2 ^ (b.prog.length - M.at_) = 2 ^ (b.prog.length - M.at_ - 1) + 2 ^ (b.prog.length - M.at_ - 1) := by
          rw [← Nat.two_mul, ← Nat.pow_succ']
          congr 1
          omega
        have dm : 2 ^ (b.prog.length - M.at_) * (n + 1) = 2 ^ (b.prog.length - M.at_ - 1) * (n + 1) + 2 ^ (b.prog.length - M.at_ - 1) * (n + 1) := by rw [dbl, Nat.add_mul]
        rw [big]
        simp only [List.length_cons, List.length_append]
        omega
      · rw [if_neg hm]
        obtain ⟨b1, b2, b3⟩ := next_toDo g (mv := true) ho' (.inl rfl)
        have t2 := tree_len g n _ (show toDo b (nextOf b M true) ≤ n by omega)
        have p2 : 2 ^ (b.prog.length - (nextOf b M true).at_) ≤ 2 ^ (b.prog.length - M.at_) := Nat.pow_le_pow_right (by decide) (by omega)
        have q2 := Nat.mul_le_mul_right (n + 1) p2
        rw [big]
        simp only [List.length_cons]
        omega
/-- M as S, whatever they tell -/
theorem Lk.key {pre : List Tail} {M S : MS} (h : Lk pre M S) : keyOf M = keyOf S := by
  unfold keyOf heldUp
  rw [h.at_, h.mem, h.left]
  simp only [h.held]
theorem tree_self (n : Nat) : keyOf M ∈ tree b n M := by
  cases n with
  | zero => exact List.mem_singleton.mpr rfl
  | succ n => exact List.mem_cons_self
theorem reach_tree (g : Good b) {S : MS} (h : Reach b S) : ∃ M n, toDo b M ≤ n ∧ Lk (tails M.rows) M S ∧ tails S.rows = [] ∧ ∀ k ∈ tree b n M, k ∈ tree b (toDo b (MS.init b)) (MS.init b) := by
  induction h with
  | init => exact ⟨MS.init b, _, Nat.le_refl _, ⟨rfl, rfl, rfl, fun _ => rfl, rfl⟩, rfl, fun k hk => hk⟩
  | @next S S1 S2 mv h ho hm e q ih =>
    obtain ⟨M, n, h1, h2, h3, h4⟩ := ih
    have hoM : M.over b = false := by rw [h2.over b]; exact ho
    have hmM : may b M mv := by
      unfold may at hm ⊢
      rw [h2.mayRest g]
      exact hm
    obtain ⟨a1, a2, a3⟩ := next_toDo g hoM hmM
    obtain ⟨n, rfl⟩ := Nat.exists_eq_succ_of_ne_zero (show n ≠ 0 by omega)
    have l := (h2.process b).moved mv
    have ek : S1.rows = [] ∧ Lk (tails (nextOf b M mv).rows) (nextOf b M mv) S1 := by
      unfold after at e
      obtain ⟨s, g1, g2⟩ := Option.map_eq_some_iff.mp e
      subst g2
      refine ⟨rfl, l.mem, l.left, l.at_, l.held, ?_⟩
      show tails (nextOf b M mv).rows = tails (nextOf b M mv).rows ++ []
      rw [List.append_nil]
    refine ⟨nextOf b M mv, n, by omega, ek.2.trans q.lk, ?_, fun k hk => h4 k ?_⟩
    · have := q.lk.rows
      rw [ek.1] at this
      exact this.symm
    · show k ∈ keyOf M :: if M.over b = true then [] else if (M.process b).mayRest = true then tree b n (nextOf b M false) ++ tree b n (nextOf b M true) else tree b n (nextOf b M true)
      rw [if_neg (by rw [hoM]; exact Bool.false_ne_true)]
      refine List.mem_cons_of_mem _ ?_
      by_cases hr : (M.process b).mayRest = true
      · rw [if_pos hr]
        cases mv with
        | true => exact List.mem_append_right _ hk
        | false => exact List.mem_append_left _ hk
      · rw [if_neg hr]
        rcases hmM with z | z
        · rw [z] at hk
          exact hk
        · exact absurd z hr
/-- as many as the tree has -/
theorem few_of {n : Nat} (g : Good b) (h : (tree b (toDo b (MS.init b)) (MS.init b)).length ≤ n) : Few b n := ⟨_, h, fun S hS => by
  obtain ⟨M, m, h1, h2, h3, h4⟩ := reach_tree g hS
  rw [← h2.key]
  exact h4 _ (tree_self m)⟩
theorem few_tree {n : Nat} (g : Good b) (h : 2 ^ b.prog.length * (b.prog.length + (b.prog.flatMap (startMoves b.ords)).length + 1) ≤ n) : Few b n := by
  refine few_of g (Nat.le_trans (tree_len g _ _ (Nat.le_refl _)) (Nat.le_trans ?_ h))
  have e : toDo b (MS.init b) = b.prog.length + (b.prog.flatMap (startMoves b.ords)).length := by simp [toDo, MS.init]
  rw [e]
  exact Nat.le_refl _
end
theorem moves_all {b : Bd} (g : Good b) : (b.prog.flatMap (startMoves b.ords)).length ≤ 96 := by
  have key : ∀ ds : List Deed, (ds.flatMap (startMoves b.ords)).length ≤ 32 * (ds.filter Deed.isStart).length := by
    intro ds
    induction ds with
    | nil => simp
    | cons d r ih =>
      rw [List.flatMap_cons, List.length_append, List.filter_cons]
      cases d with
      | start k =>
        have h1 := moves_len g.ordsOk b.ords.length k
        have h2 := g.ords
        have h3 : (startMoves b.ords (.start k)).length ≤ 32 := by
          show (movesFrom b.ords b.ords.length k).length ≤ 32
          omega
        simp only [Deed.isStart, if_true, List.length_cons]
        omega
      | _ => simpa [startMoves, Deed.isStart] using ih
  have := key b.prog
  have := g.starts
  omega
end BC
/-! BCCalm: while the carrier has nothing to move, what the processor sees is what it is to see. -/
namespace BC
open PySem PySem.Spec PyProof.Rows L2
def colOf (w : Str) (rs : List Row) : List (Nat × Int) := (rs.filter fun r => decide (r.2.1 = w)).map fun r => r.2.2
theorem colOf_append (w : Str) (a c : List Row) : colOf w (a ++ c) = colOf w a ++ colOf w c := by
  unfold colOf
  rw [List.filter_append, List.map_append]
theorem colOf_one (w w' : Str) (t p : Nat) (k : Int) : colOf w [(t, w', p, k)] = if w' = w then [(p, k)] else [] := by
  unfold colOf
  by_cases h : w' = w
  · rw [if_pos h, List.filter_cons, if_pos (decide_eq_true h)]
    rfl
  · rw [if_neg h, List.filter_cons, if_neg (by simpa using h)]
    rfl
theorem saidOf_append (a c : List Row) : saidOf (a ++ c) = saidOf a ++ saidOf c := by
  unfold saidOf
  rw [List.filter_append, List.map_append]
theorem saidOf_one (w' : Str) (t p : Nat) (k : Int) : saidOf [(t, w', p, k)] = if w' = Str.ofString "say" then [k] else [] := by
  unfold saidOf
  by_cases h : w' = Str.ofString "say"
  · rw [if_pos h, List.filter_cons, if_pos (decide_eq_true h)]
    rfl
  · rw [if_neg h, List.filter_cons, if_neg (by simpa using h)]
    rfl
/-- what the processor would see in a cell -/
def vw (M : MS) (c : Nat) : Int := match hget M.held (c / 4) with
  | some (cs, _) => cs.getD (c % 4) 0
  | none => M.mem.getD c 0
section
variable {M : MS} {n : Nat}
theorem slice_get (m : List Int) (c : Nat) : ((m.drop (4 * (c / 4))).take 4).getD (c % 4) 0 = m.getD c 0 := by
  rw [List.getD_eq_getElem?_getD, List.getD_eq_getElem?_getD, List.getElem?_take, List.getElem?_drop, if_pos (by omega)]
  congr 2
  omega
theorem val_vw (M : MS) (c : Nat) : M.val c = vw M c := by
  unfold MS.val MS.take vw
  cases e : hget M.held (c / 4) with
  | some v =>
    obtain ⟨cs, t⟩ := v
    simp only [MS.cells, e]
  | none =>
    have e2 : hget (M.held ++ [(c / 4, (M.mem.drop (4 * (c / 4))).take 4, false)]) (c / 4) = some ((M.mem.drop (4 * (c / 4))).take 4, false) := (hget_append e).trans (if_pos rfl)
    show (match hget (M.held ++ [(c / 4, (M.mem.drop (4 * (c / 4))).take 4, false)]) (c / 4) with | some (c, _) => c | none => []).getD (c % 4) 0 = M.mem.getD c 0
    rw [e2]
    exact slice_get _ _
theorem vw_note (w : Str) (p : Nat) (k : Int) (c : Nat) : vw (M.note w p k) c = vw M c := rfl
theorem vw_take (l c : Nat) : vw (M.take l) c = vw M c := by
  unfold MS.take
  cases e : hget M.held l with
  | some v => rfl
  | none =>
    show (match hget (M.held ++ [(l, (M.mem.drop (4 * l)).take 4, false)]) (c / 4) with | some (cs, _) => cs.getD (c % 4) 0 | none => M.mem.getD c 0) = _
    rw [hget_append e]
    unfold vw
    by_cases h : c / 4 = l
    · rw [if_pos h, h, e, ← h]
      exact slice_get _ _
    · rw [if_neg h]
theorem vw_put {l c : Nat} {cs : List Int} {t : Bool} {v : List Int × Bool} (h : hget M.held l = some v) : vw (M.put l (cs, t)) c = if c / 4 = l then cs.getD (c % 4) 0 else vw M c := by
  show (match hget (hset M.held l (cs, t)) (c / 4) with | some (cs, _) => cs.getD (c % 4) 0 | none => M.mem.getD c 0) = _
  rw [hget_set]
  by_cases e : c / 4 = l
  · rw [if_pos e, if_pos e, h]
    rfl
  · rw [if_neg e, if_neg e]
    rfl
theorem getD_set (xs : List Int) (i j : Nat) (v : Int) (hi : i < xs.length) : (xs.set i v).getD j 0 = if j = i then v else xs.getD j 0 := by
  rw [List.getD_eq_getElem?_getD, List.getD_eq_getElem?_getD]
  by_cases h : j = i
  · subst h
    rw [if_pos rfl, List.getElem?_set_self hi]
    rfl
  · rw [if_neg h, List.getElem?_set_ne (fun z => h z.symm)]
theorem vw_write (ok : M.Ok n) (h4 : n % 4 = 0) {k : Nat} (hk : k < n) (v : Int) (c : Nat) : vw (M.write k v) c = if c = k then v else vw M c := by
  obtain ⟨⟨cs, t⟩, e⟩ := MS.take_some M (k / 4)
  have hc : (M.take (k / 4)).cells (k / 4) = cs := by
    unfold MS.cells
    rw [e]
  have hl := (ok.take h4 (l := k / 4) (by omega)).cells4 e
  unfold MS.write
  rw [vw_note, hc, vw_put e]
  by_cases h : c / 4 = k / 4
  · rw [if_pos h, getD_set _ _ _ _ (by omega)]
    by_cases h2 : c = k
    · rw [if_pos h2, if_pos (by rw [h2])]
    · rw [if_neg h2, if_neg (by omega)]
      have : vw (M.take (k / 4)) c = cs.getD (c % 4) 0 := by
        unfold vw
        rw [h, e]
      rw [← this, vw_take]
  · rw [if_neg h, if_neg (fun z => h (by rw [z])), vw_take]
theorem splice_get (m cs : List Int) (l c : Nat) (hl : cs.length = 4) (hm : 4 * l + 4 ≤ m.length) : (m.take (4 * l) ++ cs ++ m.drop (4 * l + 4)).getD c 0 = if c / 4 = l then cs.getD (c % 4) 0 else m.getD c 0 := by
  rw [List.getD_eq_getElem?_getD]
  have lt : (m.take (4 * l)).length = 4 * l := by rw [List.length_take]; omega
  by_cases h1 : c < 4 * l
  · rw [List.append_assoc, List.getElem?_append_left (by omega), List.getElem?_take, if_pos h1, if_neg (by omega), List.getD_eq_getElem?_getD]
  · by_cases h2 : c < 4 * l + 4
    · rw [List.append_assoc, List.getElem?_append_right (by omega), lt, List.getElem?_append_left (by omega), if_pos (by omega), List.getD_eq_getElem?_getD]
      congr 2
      omega
    · rw [List.getElem?_append_right (by rw [List.length_append]; omega), List.length_append, lt, hl, List.getElem?_drop, if_neg (by omega), List.getD_eq_getElem?_getD]
      congr 2
      omega
theorem vw_clean (ok : M.Ok n) (h4 : n % 4 = 0) (l c : Nat) : vw (M.clean l) c = vw M c := by
  unfold MS.clean
  split
  · rename_i cs e
    obtain ⟨h1, h2⟩ := ok.cells4 e
    show (match hget (hset M.held l (cs, false)) (c / 4) with | some (cs, _) => cs.getD (c % 4) 0 | none => (M.mem.take (4 * l) ++ cs ++ M.mem.drop (4 * l + 4)).getD c 0) = _
    rw [hget_set]
    unfold vw
    by_cases h : c / 4 = l
    · rw [if_pos h, h, e]
      rfl
    · rw [if_neg h, splice_get _ _ _ _ h1 (by rw [ok.len]; omega), if_neg h]
  · rfl
/-- lines that are held and not touched are as memory -/
def Un (M : MS) : Prop := ∀ l cs, hget M.held l = some (cs, false) → ∀ i < 4, cs.getD i 0 = M.mem.getD (4 * l + i) 0
theorem un_take (h : Un M) (l : Nat) : Un (M.take l) := by
  unfold MS.take
  cases e : hget M.held l with
  | some v => exact h
  | none =>
    intro k cs hk i hi
    have hk' : hget (M.held ++ [(l, (M.mem.drop (4 * l)).take 4, false)]) k = some (cs, false) := hk
    rw [hget_append e] at hk'
    by_cases z : k = l
    · rw [if_pos z] at hk'
      cases hk'
      show ((M.mem.drop (4 * l)).take 4).getD i 0 = M.mem.getD (4 * k + i) 0
      have := slice_get M.mem (4 * l + i)
      rw [show (4 * l + i) / 4 = l by omega, show (4 * l + i) % 4 = i by omega] at this
      rw [z]
      exact this
    · rw [if_neg z] at hk'
      exact h k cs hk' i hi
theorem un_note (h : Un M) (w : Str) (p : Nat) (k : Int) : Un (M.note w p k) := h
theorem un_write (h : Un M) (k : Nat) (v : Int) : Un (M.write k v) := by
  obtain ⟨⟨cs, t⟩, e⟩ := MS.take_some M (k / 4)
  have h1 := un_take h (k / 4)
  unfold MS.write
  refine un_note (M := (M.take (k / 4)).put (k / 4) _) ?_ _ _ _
  intro l cs' hl i hi
  have hl' : hget (hset (M.take (k / 4)).held (k / 4) (((M.take (k / 4)).cells (k / 4)).set (k % 4) v, true)) l = some (cs', false) := hl
  rw [hget_set] at hl'
  by_cases z : l = k / 4
  · rw [if_pos z, e] at hl'
    simp at hl'
  · rw [if_neg z] at hl'
    exact h1 l cs' hl' i hi
theorem un_clean (ok : M.Ok n) (h4 : n % 4 = 0) (h : Un M) (l : Nat) : Un (M.clean l) := by
  unfold MS.clean
  split
  · rename_i cs e
    obtain ⟨h1, h2⟩ := ok.cells4 e
    intro k cs' hk i hi
    have hk' : hget (hset M.held l (cs, false)) k = some (cs', false) := hk
    rw [hget_set] at hk'
    show cs'.getD i 0 = (M.mem.take (4 * l) ++ cs ++ M.mem.drop (4 * l + 4)).getD (4 * k + i) 0
    rw [splice_get _ _ _ _ h1 (by rw [ok.len]; omega)]
    by_cases z : k = l
    · rw [if_pos z, e] at hk'
      simp at hk'
      rw [if_pos (by omega), hk', show (4 * k + i) % 4 = i by omega]
    · rw [if_neg z] at hk'
      rw [if_neg (by omega)]
      exact h k cs' hk' i hi
  · exact h
/-- M sees and tells as S is to -/
structure Sim (n : Nat) (M : MS) (S : PS) : Prop where
  ok : M.Ok n
  len : S.mem.length = n
  v : ∀ c < n, vw M c = S.mem.getD c 0
  un : Un M
  rd : colOf "read" M.rows = S.reads
  ft : colOf "fetch" M.rows = S.fetches
  sd : saidOf M.rows = S.said
def Deed.calm : Deed → Bool
  | .start _ => false
  | .drop _ => false
  | _ => true
variable {S : PS}
theorem Sim.other (h : Sim n M S) {w : String} {p : Nat} {k : Int} (h1 : w ≠ "read") (h2 : w ≠ "fetch") (h3 : w ≠ "say") : Sim n (M.note (Str.ofString w) p k) S := by
  refine ⟨h.ok.note _ _ _, h.len, h.v, h.un, ?_, ?_, ?_⟩
  · show colOf "read" (M.rows ++ [(M.beats, Str.ofString w, p, k)]) = _
    rw [colOf_append, colOf_one, if_neg (fun z => h1 (ofS_inj.mp z)), List.append_nil, h.rd]
  · show colOf "fetch" (M.rows ++ [(M.beats, Str.ofString w, p, k)]) = _
    rw [colOf_append, colOf_one, if_neg (fun z => h2 (ofS_inj.mp z)), List.append_nil, h.ft]
  · show saidOf (M.rows ++ [(M.beats, Str.ofString w, p, k)]) = _
    rw [saidOf_append, saidOf_one, if_neg (fun z => h3 (ofS_inj.mp z)), List.append_nil, h.sd]
theorem Sim.rowsEq {M2 : MS} (h : Sim n M S) (ok : M2.Ok n) (v : ∀ c < n, vw M2 c = vw M c) (un : Un M2) (r : M2.rows = M.rows) : Sim n M2 S :=
  ⟨ok, h.len, fun c hc => (v c hc).trans (h.v c hc), un, by rw [r]; exact h.rd, by rw [r]; exact h.ft, by rw [r]; exact h.sd⟩
theorem Sim.take (h : Sim n M S) (h4 : n % 4 = 0) {l : Nat} (hl : l < n / 4) : Sim n (M.take l) S := by
  have ok := h.ok.take h4 hl
  have un := un_take h.un l
  have v : ∀ c, vw (M.take l) c = vw M c := vw_take l
  unfold MS.take at ok un v ⊢
  cases e : hget M.held l with
  | some w => exact h
  | none =>
    rw [e] at ok un v
    exact Sim.other (w := "take") (M := { M with held := M.held ++ [(l, (M.mem.drop (4 * l)).take 4, false)] }) (h.rowsEq ⟨ok.len, ok.nd, ok.lines, ok.left⟩ (fun c _ => v c) un rfl) (by decide) (by decide) (by decide)
theorem Sim.read (h : Sim n M S) (h4 : n % 4 = 0) {c : Nat} (hc : c < n) : Sim n (M.read c) (S.look c) ∧ M.val c = S.mem.getD c 0 := by
  have ev : M.val c = S.mem.getD c 0 := (val_vw M c).trans (h.v c hc)
  refine ⟨?_, ev⟩
  have h1 := h.take h4 (l := c / 4) (by omega)
  unfold MS.read
  refine ⟨h1.ok.note _ _ _, h.len, h1.v, h1.un, ?_, ?_, ?_⟩
  · show colOf "read" ((M.take (c / 4)).rows ++ [(_, Str.ofString "read", c, M.val c)]) = S.reads ++ [(c, S.mem.getD c 0)]
    rw [colOf_append, colOf_one, if_pos rfl, h1.rd, ev]
  · show colOf "fetch" ((M.take (c / 4)).rows ++ [(_, Str.ofString "read", c, M.val c)]) = S.fetches
    rw [colOf_append, colOf_one, if_neg (fun z => by have := ofS_inj.mp z; simp at this), List.append_nil, h1.ft]
  · show saidOf ((M.take (c / 4)).rows ++ [(_, Str.ofString "read", c, M.val c)]) = S.said
    rw [saidOf_append, saidOf_one, if_neg (fun z => by have := ofS_inj.mp z; simp at this), List.append_nil, h1.sd]
theorem Sim.write (h : Sim n M S) (h4 : n % 4 = 0) {c : Nat} (hc : c < n) (k : Int) : Sim n (M.write c k) (S.set c k) := by
  have ok := h.ok.write h4 hc k
  have hr : ∃ rs : List Row, (M.write c k).rows = M.rows ++ rs ∧ ∀ r ∈ rs, r.2.1 = Str.ofString "take" ∨ r.2.1 = Str.ofString "write" := by
    unfold MS.write MS.take
    cases hget M.held (c / 4) with
    | some v => exact ⟨[_], rfl, by simp⟩
    | none => exact ⟨[_, _], by show (M.rows ++ [_]) ++ [_] = _; rw [List.append_assoc]; rfl, by simp⟩
  obtain ⟨rs, e, hw⟩ := hr
  have out : ∀ w : String, w ≠ "take" → w ≠ "write" → ∀ r ∈ rs, r.2.1 ≠ Str.ofString w := fun w a b r hr z => by
    rcases hw r hr with q | q
    · exact a (ofS_inj.mp (z.symm.trans q))
    · exact b (ofS_inj.mp (z.symm.trans q))
  have nil : ∀ w : String, w ≠ "take" → w ≠ "write" → colOf (Str.ofString w) rs = [] := fun w a b => by
    unfold colOf
    rw [List.map_eq_nil_iff, List.filter_eq_nil_iff]
    intro r hr
    simpa using out w a b r hr
  refine ⟨ok, by show (S.mem.set c k).length = n; rw [List.length_set]; exact h.len, fun x hx => ?_, un_write h.un c k, ?_, ?_, ?_⟩
  · rw [vw_write h.ok h4 hc]
    show _ = (S.mem.set c k).getD x 0
    rw [getD_set _ _ _ _ (by rw [h.len]; exact hc), h.v x hx]
  · rw [e, colOf_append, nil "read" (by decide) (by decide), List.append_nil]
    exact h.rd
  · rw [e, colOf_append, nil "fetch" (by decide) (by decide), List.append_nil]
    exact h.ft
  · rw [e, saidOf_append]
    have : saidOf rs = [] := by
      unfold saidOf
      rw [List.map_eq_nil_iff, List.filter_eq_nil_iff]
      intro r hr
      simpa using out "say" (by decide) (by decide) r hr
    rw [this, List.append_nil]
    exact h.sd
theorem Sim.clean (h : Sim n M S) (h4 : n % 4 = 0) (l : Nat) : Sim n (M.clean l) S := by
  have ok := h.ok.clean l
  have un := un_clean h.ok h4 h.un l
  have v : ∀ c, vw (M.clean l) c = vw M c := vw_clean h.ok h4 l
  unfold MS.clean at ok un v ⊢
  split
  · rename_i cs e
    rw [e] at ok un v
    exact Sim.other (w := "clean") (M := { M with mem := M.mem.take (4 * l) ++ cs ++ M.mem.drop (4 * l + 4), held := hset M.held l (cs, false) }) (h.rowsEq ⟨ok.len, ok.nd, ok.lines, ok.left⟩ (fun c _ => v c) un rfl) (by decide) (by decide) (by decide)
  · exact h
theorem Sim.deed (h : Sim n M S) (h4 : n % 4 = 0) {os : List Ord} {d : Deed} (hd : d.Ok n os.length) (hc : d.calm = true) : Sim n (M.deed os d) (PS.deed os S d) := by
  cases d with
  | set c k => exact h.write h4 hd.1 _
  | add c o =>
    obtain ⟨h1, e1⟩ := h.read h4 hd.1
    obtain ⟨h2, e2⟩ := h1.read h4 hd.2
    have e2' : (M.read c).val o = S.mem.getD o 0 := e2
    show Sim n (((M.read c).read o).write c ((M.val c + (M.read c).val o) % 10)) (((S.look c).look o).set c ((S.mem.getD c 0 + S.mem.getD o 0) % 10))
    rw [e1, e2']
    exact h2.write h4 hd.1 _
  | say c =>
    obtain ⟨h1, e1⟩ := h.read h4 hd
    show Sim n ((M.read c).note "say" c (M.val c)) { S.look c with said := S.said ++ [S.mem.getD c 0] }
    refine ⟨h1.ok.note _ _ _, h1.len, h1.v, h1.un, ?_, ?_, ?_⟩
    · show colOf "read" ((M.read c).rows ++ [(_, Str.ofString "say", c, M.val c)]) = _
      rw [colOf_append, colOf_one, if_neg (fun z => by have := ofS_inj.mp z; simp at this), List.append_nil, h1.rd]
    · show colOf "fetch" ((M.read c).rows ++ [(_, Str.ofString "say", c, M.val c)]) = _
      rw [colOf_append, colOf_one, if_neg (fun z => by have := ofS_inj.mp z; simp at this), List.append_nil, h1.ft]
    · show saidOf ((M.read c).rows ++ [(_, Str.ofString "say", c, M.val c)]) = S.said ++ [S.mem.getD c 0]
      rw [saidOf_append, saidOf_one, if_pos rfl, h1.sd, e1]
      rfl
  | start k => cases hc
  | wait => exact h
  | clean l => exact h.clean h4 l
  | drop l => cases hc
theorem Sim.with_ {M2 : MS} (h : Sim n M S) (a : M2.mem = M.mem) (b : M2.held = M.held) (c : M2.left = M.left) (d : M2.rows = M.rows) : Sim n M2 S := by
  refine h.rowsEq ⟨by rw [a]; exact h.ok.len, by rw [b]; exact h.ok.nd, by rw [b]; exact h.ok.lines, by rw [c]; exact h.ok.left⟩ (fun x _ => ?_) ?_ d
  · unfold vw
    rw [a, b]
  · have := h.un
    unfold Un at this ⊢
    rw [a, b]
    exact this
theorem calm_quiet (os : List Ord) {d : Deed} (hc : d.calm = true) : Quiet M (M.deed os d) := by
  cases d with
  | set c k => exact quiet_write c _
  | add c o => exact ((quiet_read c).trans (quiet_read o)).trans (quiet_write c _)
  | say c => exact (quiet_read c).trans (quiet_via (w := "say") rfl rfl rfl rfl (by decide))
  | start k => cases hc
  | wait => exact Quiet.same rfl rfl rfl rfl
  | clean l => exact quiet_clean l
  | drop l => cases hc
/-! ### the end -/
theorem clean_line (l k : Nat) : hget (M.clean l).held k = if k = l then (hget M.held l).map (fun v => (v.1, false)) else hget M.held k := by
  unfold MS.clean
  split
  · rename_i cs e
    show hget (hset M.held l (cs, false)) k = _
    rw [hget_set, e]
    rfl
  · rename_i h
    by_cases z : k = l
    · rw [if_pos z, z]
      cases e : hget M.held l with
      | none => rfl
      | some v =>
        obtain ⟨cs, t⟩ := v
        cases t with
        | true => exact absurd e (h cs)
        | false => rfl
    · rw [if_neg z]
theorem cleans_line : ∀ (ls : List Nat) (M : MS) (k : Nat), k ∈ ls → ∀ cs, hget (ls.foldl MS.clean M).held k ≠ some (cs, true)
  | [], _, _, h, _ => by cases h
  | l :: r, M, k, h, cs => by
    rw [List.foldl_cons]
    by_cases hr : k ∈ r
    · exact cleans_line r (M.clean l) k hr cs
    · have hkl : k = l := by simpa [hr] using h
      have key : ∀ (ls : List Nat) (N : MS), k ∉ ls → hget (ls.foldl MS.clean N).held k = hget N.held k := by
        intro ls
        induction ls with
        | nil => exact fun _ _ => rfl
        | cons a b ih =>
          intro N hn
          simp only [List.mem_cons, not_or] at hn
          rw [List.foldl_cons, ih _ hn.2, clean_line, if_neg hn.1]
      rw [key r _ hr, clean_line, if_pos hkl]
      intro z
      cases e : hget M.held l with
      | none =>
        rw [e] at z
        cases z
      | some v =>
        rw [e] at z
        simp at z
theorem Sim.cleans (h4 : n % 4 = 0) : ∀ (ls : List Nat) {M : MS}, Sim n M S → Sim n (ls.foldl MS.clean M) S
  | [], _, h => h
  | l :: r, M, h => by
    rw [List.foldl_cons]
    exact Sim.cleans h4 r (h.clean h4 l)
/-- no line is touched: memory is as it is to be -/
theorem Sim.mem (h : Sim n M S) (h4 : n % 4 = 0) (hu : ∀ l cs, hget M.held l ≠ some (cs, true)) : M.mem = S.mem := by
  refine getD_ext (by rw [h.ok.len, h.len]) fun c hc => ?_
  rw [h.ok.len] at hc
  rw [← h.v c hc]
  unfold vw
  cases e : hget M.held (c / 4) with
  | none => rfl
  | some v =>
    obtain ⟨cs, t⟩ := v
    cases t with
    | true => exact absurd e (hu _ _)
    | false =>
      have := h.un _ _ e (c % 4) (by omega)
      rw [show 4 * (c / 4) + c % 4 = c by omega] at this
      exact this.symm
theorem Sim.finish (h : Sim n M S) (h4 : n % 4 = 0) (h16 : n / 4 ≤ 4) : M.finish.mem = S.mem ∧ Sim n M.finish S := by
  have h1 : Sim n M.finish S := Sim.cleans h4 (List.range 4) h
  refine ⟨h1.mem h4 fun l cs z => ?_, h1⟩
  by_cases hl : l < 4
  · exact cleans_line (List.range 4) M l (List.mem_range.mpr hl) cs z
  · have := (h1.ok.cells4 z).2
    omega
theorem seen_of (aim : PS) : ∀ (rows : List Row) (a c : Nat), (∃ x, aim.reads.drop a = colOf "read" rows ++ x) → (∃ y, aim.fetches.drop c = colOf "fetch" rows ++ y) → ∃ s, seen aim (tails rows) (a, c) = some s
  | [], a, c, _, _ => ⟨_, rfl⟩
  | r :: rest, a, c, ⟨x, hx⟩, ⟨y, hy⟩ => by
    have e0 : seen aim (tails (r :: rest)) (a, c) = match look aim (a, c) r.2 with | none => none | some s' => seen aim (tails rest) s' := rfl
    have cr : colOf "read" (r :: rest) = (if r.2.1 = Str.ofString "read" then [r.2.2] else []) ++ colOf "read" rest := by
      show colOf "read" ([r] ++ rest) = _
      rw [colOf_append]
      congr 1
      exact colOf_one "read" r.2.1 r.1 r.2.2.1 r.2.2.2
    have cf : colOf "fetch" (r :: rest) = (if r.2.1 = Str.ofString "fetch" then [r.2.2] else []) ++ colOf "fetch" rest := by
      show colOf "fetch" ([r] ++ rest) = _
      rw [colOf_append]
      congr 1
      exact colOf_one "fetch" r.2.1 r.1 r.2.2.1 r.2.2.2
    rw [e0]
    unfold look
    by_cases h1 : r.2.1 = Str.ofString "read"
    · rw [if_pos h1] at cr ⊢
      rw [if_neg (by rw [h1]; exact ne_rf.symm)] at cf
      rw [cr] at hx
      rw [cf] at hy
      have hat : aim.reads[a]? = some r.2.2 := by
        rw [← List.head?_drop, hx]
        rfl
      rw [if_pos hat]
      refine seen_of aim rest (a + 1) c ⟨x, ?_⟩ ⟨y, hy⟩
      rw [← List.tail_drop, hx]
      rfl
    · rw [if_neg h1] at cr ⊢
      rw [cr] at hx
      by_cases h2 : r.2.1 = Str.ofString "fetch"
      · rw [if_pos h2] at cf ⊢
        rw [cf] at hy
        have hat : aim.fetches[c]? = some r.2.2 := by
          rw [← List.head?_drop, hy]
          rfl
        rw [if_pos hat]
        refine seen_of aim rest a (c + 1) ⟨x, hx⟩ ⟨y, ?_⟩
        rw [← List.tail_drop, hy]
        rfl
      · rw [if_neg h2] at cf ⊢
        rw [cf] at hy
        exact seen_of aim rest a c ⟨x, hx⟩ ⟨y, hy⟩
end
/-- a run that ends as it is to, with all that was to be seen: nothing is amiss -/
theorem amiss_none {b : Bd} (g : Good b) {pace : List Bool} (h : Sim b.mem.length (MS.run b 1980 (MS.init b) pace) (plainOf b)) : amissOf b pace = [] := by
  have h2 := (h.finish g.four g.lines.2).1
  obtain ⟨s, hs⟩ := seen_of (plainOf b) (MS.run b 1980 (MS.init b) pace).rows 0 0 ⟨[], by rw [h.rd]; simp⟩ ⟨[], by rw [h.ft]; simp⟩
  rcases Classical.em (amissOf b pace = []) with e | e
  · exact e
  · rcases (amiss_iff g pace).mp e with z | z
    · rw [hs] at z
      cases z
    · exact absurd h2 z
theorem Sim.init {b : Bd} (g : Good b) : Sim b.mem.length (MS.init b) (PS.init b.mem) :=
  ⟨MS.Ok.init, rfl, fun c _ => rfl, fun l cs h => by simp [MS.init, hget] at h, rfl, rfl, rfl⟩
/-! ### boards of calm deeds alone -/
def allCalm (b : Bd) : Prop := ∀ d ∈ b.prog, d.calm = true
/-- where such a run stands -/
structure CalmAt (b : Bd) (M : MS) : Prop where
  sim : Sim b.mem.length M ((b.prog.take M.at_).foldl (PS.deed b.ords) (PS.init b.mem))
  left : M.left = []
  beats : M.beats = M.at_
  le : M.at_ ≤ b.prog.length
  rows : ∀ r ∈ M.rows, Plainword r.2.1
section
variable {b : Bd} {M : MS}
theorem CalmAt.init (g : Good b) : CalmAt b (MS.init b) := ⟨Sim.init g, rfl, rfl, Nat.zero_le _, by simp [MS.init]⟩
theorem CalmAt.beat (h : CalmAt b M) (g : Good b) (hc : allCalm b) (ho : M.over b = false) (pace : List Bool) : CalmAt b (M.beat b pace) := by
  have hl := h.left
  have hlt : M.at_ < b.prog.length := by
    unfold MS.over at ho
    rw [hl] at ho
    simp at ho
    exact ho
  have e : b.prog[M.at_]? = some b.prog[M.at_] := List.getElem?_eq_getElem hlt
  have hi : M.isIdle b.prog = false := by
    unfold MS.isIdle
    rw [hl]
    simp
    omega
  have hd := g.deeds b.prog[M.at_] (List.getElem_mem hlt)
  have hcd := hc b.prog[M.at_] (List.getElem_mem hlt)
  generalize b.prog[M.at_] = d at e hd hcd
  have ep : M.process b = MS.deed b.ords { M with idle := false, at_ := M.at_ + 1 } d := by
    unfold MS.process
    rw [hi, e]
    rfl
  obtain ⟨⟨rs, q1, q2⟩, q3, q4, q5⟩ := calm_quiet (M := { M with idle := false, at_ := M.at_ + 1 }) b.ords hcd
  have hpl : (M.process b).left = [] := by rw [ep, q4]; exact hl
  have hmv : ∀ mv, (M.process b).moved mv = M.process b := fun mv => by
    unfold MS.moved MS.carry
    rw [hpl]
    cases mv <;> rfl
  have eb : M.beat b pace = (M.process b).tick := by
    unfold MS.beat
    rw [hmv]
  have s1 : Sim b.mem.length { M with idle := false, at_ := M.at_ + 1 } ((b.prog.take M.at_).foldl (PS.deed b.ords) (PS.init b.mem)) := h.sim.with_ rfl rfl rfl rfl
  have s2 := s1.deed (os := b.ords) g.four hd hcd
  have et : b.prog.take (M.at_ + 1) = b.prog.take M.at_ ++ [d] := by rw [List.take_add_one, e]; rfl
  have ha : (M.process b).at_ = M.at_ + 1 := by rw [ep, q5]
  rw [eb]
  refine ⟨?_, hpl, ?_, ?_, ?_⟩
  · show Sim b.mem.length (M.process b).tick ((b.prog.take (M.process b).at_).foldl (PS.deed b.ords) (PS.init b.mem))
    rw [ha, et, List.foldl_append]
    have s3 : Sim b.mem.length (M.process b) (PS.deed b.ords ((b.prog.take M.at_).foldl (PS.deed b.ords) (PS.init b.mem)) d) := by rw [ep]; exact s2
    exact s3.with_ rfl rfl rfl rfl
  · show (M.process b).beats + 1 = (M.process b).at_
    rw [ha, ep, q3]
    show M.beats + 1 = _
    rw [h.beats]
  · show (M.process b).at_ ≤ _
    omega
  · show ∀ r ∈ (M.process b).rows, _
    rw [ep, q1]
    intro r hr
    rcases List.mem_append.mp hr with z | z
    · exact h.rows r z
    · exact (q2 r z).1
theorem CalmAt.run (g : Good b) (hc : allCalm b) : ∀ (k : Nat) {M : MS} (pace : List Bool), CalmAt b M → CalmAt b (MS.run b k M pace)
  | 0, _, _, h => h
  | k + 1, M, pace, h => by
    show CalmAt b (if M.over b = true then M else _)
    by_cases ho : M.over b = true
    · rw [if_pos ho]
      exact h
    · rw [if_neg ho]
      exact CalmAt.run g hc k _ (h.beat g hc (by simpa using ho) pace)
/-- what a run tells of such a board -/
theorem calm_gone (g : Good b) (hc : allCalm b) (pace : List Bool) : saidOf (goneOf b pace).rows = (plainOf b).said ∧ (goneOf b pace).mem = (plainOf b).mem ∧ (goneOf b pace).beats = b.prog.length ∧ amissOf b pace = [] ∧ ∀ r ∈ (goneOf b pace).rows, Plainword r.2.1 := by
  have h := CalmAt.run g hc 1980 pace (CalmAt.init g)
  have ho := run_over g 1980 pace (show (MS.init b).fuel b ≤ 1980 by have := (Going.init g).far; omega)
  have hat : (MS.run b 1980 (MS.init b) pace).at_ = b.prog.length := by
    have := h.le
    unfold MS.over at ho
    simp at ho
    omega
  have hs := h.sim
  rw [hat, List.take_length] at hs
  have hs' : Sim b.mem.length (MS.run b 1980 (MS.init b) pace) (plainOf b) := hs
  obtain ⟨f1, f2⟩ := hs'.finish g.four g.lines.2
  have q := quiet_cleans (List.range 4) (MS.run b 1980 (MS.init b) pace)
  refine ⟨f2.sd, f1, ?_, amiss_none g hs', ?_⟩
  · show (MS.run b 1980 (MS.init b) pace).finish.beats = _
    have : (MS.run b 1980 (MS.init b) pace).finish.beats = (MS.run b 1980 (MS.init b) pace).beats := q.beats
    rw [this, h.beats, hat]
  · obtain ⟨rs, e1, e2⟩ := q.more
    show ∀ r ∈ (MS.run b 1980 (MS.init b) pace).finish.rows, _
    have : (MS.run b 1980 (MS.init b) pace).finish.rows = (MS.run b 1980 (MS.init b) pace).rows ++ rs := e1
    rw [this]
    intro r hr
    rcases List.mem_append.mp hr with z | z
    · exact h.rows r z
    · exact (e2 r z).1
theorem calm_sure (g : Good b) (hc : allCalm b) : ¬ Bad b (MS.init b) := fun h => by
  obtain ⟨p, hp⟩ := (bad_iff g).mp h
  exact hp (calm_gone g hc p).2.2.2.1
theorem calm_few (g : Good b) (hc : allCalm b) (hl : b.prog.length ≤ 17) : Few b 16000000 := by
  refine few_tree g ?_
  have e : b.prog.flatMap (startMoves b.ords) = [] := by
    rw [List.flatMap_eq_nil_iff]
    intro d hd
    have := hc d hd
    cases d <;> first | rfl | cases this
  rw [e, List.length_nil]
  have h2 : 2 ^ b.prog.length ≤ 2 ^ 17 := Nat.pow_le_pow_right (by decide) hl
  have := Nat.mul_le_mul h2 (show b.prog.length + 0 + 1 ≤ 18 by omega)
  omega
end
end BC
/-! BCFull: boards whose starts are fenced on both sides are sure. -/
namespace BC
open PySem PySem.Spec PyProof.Rows L2
mutual
/-- what may be done while no line of T is touched; n lines -/
inductive OkA (n : Nat) : List Nat → List Deed → Prop
  | nil {T : List Nat} : OkA n T []
  | calm {T : List Nat} {d : Deed} {r : List Deed} (hc : d.calm = true) (h : OkA n [] r) : OkA n T (d :: r)
  | clean {T : List Nat} {l : Nat} {r : List Deed} (h : OkA n (l :: T) r) : OkA n T (.clean l :: r)
  | start {T : List Nat} {k : Nat} {r : List Deed} (ht : ∀ l < n, l ∈ T) (h : OkD n (List.range n) r) : OkA n T (.start k :: .wait :: r)
/-- the lines D are to be dropped first -/
inductive OkD (n : Nat) : List Nat → List Deed → Prop
  | nil {r : List Deed} (h : OkA n [] r) : OkD n [] r
  | drop {l : Nat} {D : List Nat} {r : List Deed} (h : OkD n D r) : OkD n (l :: D) (.drop l :: r)
end
def Clean1 (M : MS) (l : Nat) : Prop := ∀ cs, hget M.held l ≠ some (cs, true)
/-- told so far, and memory, as S has it -/
structure Cols (n : Nat) (M : MS) (S : PS) : Prop where
  ok : M.Ok n
  len : S.mem.length = n
  mem : M.mem = S.mem
  rd : colOf "read" M.rows = S.reads
  ft : colOf "fetch" M.rows = S.fetches
  sd : saidOf M.rows = S.said
theorem Cols.sim {n : Nat} {M : MS} {S : PS} (h : Cols n M S) (hh : ∀ l, hget M.held l = none) : Sim n M S :=
  ⟨h.ok, h.len, fun c hc => (by unfold vw; rw [hh, h.mem]), fun l cs hl => (by rw [hh] at hl; cases hl), h.rd, h.ft, h.sd⟩
theorem Sim.cols {n : Nat} {M : MS} {S : PS} (h : Sim n M S) (h4 : n % 4 = 0) (hu : ∀ l, Clean1 M l) : Cols n M S := ⟨h.ok, h.len, h.mem h4 hu, h.rd, h.ft, h.sd⟩
theorem Cols.with_ {n : Nat} {M M2 : MS} {S : PS} (h : Cols n M S) (a : M2.mem = M.mem) (b : M2.held = M.held) (c : M2.left = M.left) (d : M2.rows = M.rows) : Cols n M2 S :=
  ⟨⟨by rw [a]; exact h.ok.len, by rw [b]; exact h.ok.nd, by rw [b]; exact h.ok.lines, by rw [c]; exact h.ok.left⟩, h.len, by rw [a]; exact h.mem, by rw [d]; exact h.rd, by rw [d]; exact h.ft, by rw [d]; exact h.sd⟩
/-- the plain state when the next deed is number k -/
def plainAt (b : Bd) (k : Nat) : PS := (b.prog.take k).foldl (PS.deed b.ords) (PS.init b.mem)
/-- where a run stands -/
inductive FI (b : Bd) (M : MS) : Prop
  | a (T : List Nat) (sim : Sim b.mem.length M (plainAt b M.at_)) (left : M.left = []) (cl : ∀ l ∈ T, Clean1 M l) (h : OkA (b.mem.length / 4) T (b.prog.drop M.at_)) (le : M.at_ ≤ b.prog.length)
  | w (r : List Deed) (S : PS) (cols : Cols b.mem.length M S) (hS : M.left.foldl PS.move S = plainAt b M.at_) (cl : ∀ l, Clean1 M l) (e : b.prog.drop M.at_ = .wait :: r) (h : OkD (b.mem.length / 4) (List.range (b.mem.length / 4)) r)
  | d (D : List Nat) (cols : Cols b.mem.length M (plainAt b M.at_)) (left : M.left = []) (hh : ∀ l, hget M.held l ≠ none → l ∈ D) (h : OkD (b.mem.length / 4) D (b.prog.drop M.at_)) (le : M.at_ ≤ b.prog.length) (hD : D ≠ [])
section
variable {b : Bd} {M : MS}
theorem FI.tick (h : FI b M) : FI b M.tick := by
  cases h with
  | a T sim left cl h le => exact .a T (sim.with_ rfl rfl rfl rfl) left cl h le
  | w r S cols hS cl e h => exact .w r S (cols.with_ rfl rfl rfl rfl) hS cl e h
  | d D cols left hh h le hD => exact .d D (cols.with_ rfl rfl rfl rfl) left hh h le hD
theorem FI.dd {D : List Nat} (cols : Cols b.mem.length M (plainAt b M.at_)) (left : M.left = []) (hh : ∀ l, hget M.held l ≠ none → l ∈ D) (h : OkD (b.mem.length / 4) D (b.prog.drop M.at_)) (le : M.at_ ≤ b.prog.length) : FI b M := by
  cases D with
  | nil =>
    cases h with
    | nil h =>
      refine .a [] (cols.sim fun l => ?_) left (by simp) h le
      rcases Classical.em (hget M.held l = none) with z | z
      · exact z
      · exact absurd (hh l z) (by simp)
  | cons l D => exact .d (l :: D) cols left hh h le (by simp)
theorem clean1_out (g : Good b) (ok : M.Ok b.mem.length) {l : Nat} (h : ¬ l < b.mem.length / 4) : Clean1 M l := fun cs z => h (ok.cells4 z).2
theorem drop_at {r : List Deed} {d : Deed} {k : Nat} (e : b.prog.drop k = d :: r) : b.prog[k]? = some d ∧ b.prog.drop (k + 1) = r ∧ k < b.prog.length ∧ plainAt b (k + 1) = PS.deed b.ords (plainAt b k) d := by
  have hk : k < b.prog.length := by
    rcases Nat.lt_or_ge k b.prog.length with h | h
    · exact h
    · rw [List.drop_of_length_le h] at e
      cases e
  rw [List.drop_eq_getElem_cons hk] at e
  simp only [List.cons.injEq] at e
  have h1 : b.prog[k]? = some d := by rw [List.getElem?_eq_getElem hk, e.1]
  refine ⟨h1, e.2, hk, ?_⟩
  unfold plainAt
  rw [List.take_add_one, h1, List.foldl_append]
  rfl
theorem process_of {d : Deed} (hi : M.isIdle b.prog = false) (e : b.prog[M.at_]? = some d) : M.process b = MS.deed b.ords { M with idle := false, at_ := M.at_ + 1 } d := by
  unfold MS.process
  rw [hi, e]
  rfl
theorem idle_no (hl : M.left = []) (hk : M.at_ < b.prog.length) : M.isIdle b.prog = false := by
  unfold MS.isIdle
  rw [hl]
  simp
  omega
theorem moved_none (mv : Bool) (h : M.left = []) : M.moved mv = M := by
  unfold MS.moved MS.carry
  rw [h]
  cases mv <;> rfl
theorem rest_none (h : M.left = []) : M.mayRest = false := by
  unfold MS.mayRest
  rw [h]
  rfl
/-- a move -/
theorem carry_fi {r : List Deed} {S : PS} (cols : Cols b.mem.length M S) (hS : M.left.foldl PS.move S = plainAt b M.at_) (cl : ∀ l, Clean1 M l) (e : b.prog.drop M.at_ = .wait :: r) (h : OkD (b.mem.length / 4) (List.range (b.mem.length / 4)) r) : FI b M.carry := by
  cases hl : M.left with
  | nil =>
    have : M.carry = M := by
      unfold MS.carry
      rw [hl]
    rw [this]
    exact .w r S cols hS cl e h
  | cons m ms =>
    have em : M.carry = (({ (({ M with left := ms } : MS).note "fetch" m.src (M.mem.getD m.src 0)) with mem := M.mem.set m.dst (M.mem.getD m.src 0) } : MS).note "put" m.dst (M.mem.getD m.src 0)).bell m.bell := by
      unfold MS.carry
      rw [hl]
    have hok := cols.ok.carry
    obtain ⟨c1, c2, c3, c4, c5⟩ := carry_grew (M := M)
    have hcells := cols.mem
    have hheld : M.carry.held = M.held := by rw [em]; cases m.bell <;> rfl
    have hmem : M.carry.mem = S.mem.set m.dst (S.mem.getD m.src 0) := by rw [em, ← hcells]; cases m.bell <;> rfl
    have hrows : ∃ more, M.carry.rows = M.rows ++ (M.beats, Str.ofString "fetch", m.src, M.mem.getD m.src 0) :: more ∧ ∀ x ∈ more, x.2.1 = Str.ofString "put" ∨ x.2.1 = Str.ofString "bell" := by
      rw [em]
      cases m.bell with
      | none => exact ⟨[(M.beats, Str.ofString "put", m.dst, M.mem.getD m.src 0)], by show (M.rows ++ [_]) ++ [_] = _; rw [List.append_assoc]; rfl, by simp⟩
      | some k => exact ⟨[(M.beats, Str.ofString "put", m.dst, M.mem.getD m.src 0), (M.beats, Str.ofString "bell", k, 0)], by show ((M.rows ++ [_]) ++ [_]) ++ [_] = _; rw [List.append_assoc, List.append_assoc]; rfl, by simp⟩
    obtain ⟨more, hm1, hm2⟩ := hrows
    have col : ∀ w : String, w ≠ "put" → w ≠ "bell" → colOf (Str.ofString w) more = [] := fun w a c => by
      unfold colOf
      rw [List.map_eq_nil_iff, List.filter_eq_nil_iff]
      intro x hx
      rcases hm2 x hx with z | z
      · simpa [z, ofS_inj] using fun q => a q.symm
      · simpa [z, ofS_inj] using fun q => c q.symm
    have sd : saidOf more = [] := by
      unfold saidOf
      rw [List.map_eq_nil_iff, List.filter_eq_nil_iff]
      intro x hx
      rcases hm2 x hx with z | z <;> simp [z, ofS_inj]
    have em1 : M.rows ++ (M.beats, Str.ofString "fetch", m.src, M.mem.getD m.src 0) :: more = M.rows ++ ([(M.beats, Str.ofString "fetch", m.src, M.mem.getD m.src 0)] ++ more) := rfl
    refine .w r (S.move m) ⟨hok, by simp [PS.move, cols.len], by rw [hmem]; rfl, ?_, ?_, ?_⟩ ?_ (fun l cs z => cl l cs (by rw [← hheld]; exact z)) (by rw [c1]; exact e) h
    · rw [hm1, em1, colOf_append, colOf_append, colOf_one, if_neg (fun z => by have := ofS_inj.mp z; simp at this), col "read" (by decide) (by decide), cols.rd]
      simp [PS.move]
    · rw [hm1, em1, colOf_append, colOf_append, colOf_one, if_pos rfl, col "fetch" (by decide) (by decide), cols.ft, hcells]
      simp [PS.move]
    · rw [hm1, em1, saidOf_append, saidOf_append, saidOf_one, if_neg (fun z => by have := ofS_inj.mp z; simp at this), sd, cols.sd]
      simp [PS.move]
    · rw [c4, c1, hl, ← hS, hl]
      rfl
theorem moved_fi {r : List Deed} {S : PS} {mv : Bool} (cols : Cols b.mem.length M S) (hS : M.left.foldl PS.move S = plainAt b M.at_) (cl : ∀ l, Clean1 M l) (e : b.prog.drop M.at_ = .wait :: r) (h : OkD (b.mem.length / 4) (List.range (b.mem.length / 4)) r) : FI b (M.moved mv) := by
  unfold MS.moved
  split
  · exact carry_fi cols hS cl e h
  · exact .w r S cols hS cl e h
/-- a beat, and whether the carrier may rest in it -/
theorem FI.next (h : FI b M) (g : Good b) (ho : M.over b = false) {mv : Bool} (hm : may b M mv) : FI b (nextOf b M mv) ∧ ((M.process b).mayRest = true → ((b.prog.drop (nextOf b M mv).at_).filter Deed.isStart).length + 1 ≤ ((b.prog.drop M.at_).filter Deed.isStart).length) ∧ M.at_ ≤ (nextOf b M mv).at_ := by
  have h4 := g.four
  have ha := (next_toDo g ho hm).2.2
  cases h with
  | a T sim left cl h le =>
    have hk : M.at_ < b.prog.length := by
      unfold MS.over at ho
      rw [left] at ho
      simp at ho
      exact ho
    have hi := idle_no left hk
    generalize er : b.prog.drop M.at_ = rem at h
    have calmCase : ∀ {d : Deed} {r : List Deed} (T' : List Nat), b.prog.drop M.at_ = d :: r → d.calm = true → OkA (b.mem.length / 4) T' r → (∀ l ∈ T', Clean1 (M.process b) l) → FI b (nextOf b M mv) ∧ ((M.process b).mayRest = true → ((b.prog.drop (nextOf b M mv).at_).filter Deed.isStart).length + 1 ≤ (rem.filter Deed.isStart).length) ∧ M.at_ ≤ (nextOf b M mv).at_ := by
      intro d r T' e hc hr hcl
      obtain ⟨d1, d2, d3, d4⟩ := drop_at e
      have hd := g.deeds d (List.mem_of_getElem? d1)
      have ep := process_of hi d1
      have q := calm_quiet (M := { M with idle := false, at_ := M.at_ + 1 }) b.ords hc
      have hpl : (M.process b).left = [] := by rw [ep, q.left]; exact left
      have hpa : (M.process b).at_ = M.at_ + 1 := by rw [ep, q.at_]
      have s1 : Sim b.mem.length { M with idle := false, at_ := M.at_ + 1 } (plainAt b M.at_) := sim.with_ rfl rfl rfl rfl
      have s2 := s1.deed (os := b.ords) h4 hd hc
      have en : nextOf b M mv = M.process b := moved_none mv hpl
      rw [en]
      refine ⟨.a T' (by rw [hpa, d4, ep]; exact s2) hpl hcl (by rw [hpa, d2]; exact hr) (by rw [hpa]; omega), fun z => ?_, by rw [hpa]; omega⟩
      rw [rest_none hpl] at z
      cases z
    cases h with
    | nil =>
      rw [List.drop_eq_nil_iff] at er
      omega
    | calm hc h' => exact calmCase [] er hc h' (by simp)
    | @clean _ l r h' =>
      refine calmCase (l :: T) er rfl h' ?_
      obtain ⟨d1, d2, d3, d4⟩ := drop_at er
      have ep := process_of hi d1
      have ep' : M.process b = MS.clean { M with idle := false, at_ := M.at_ + 1 } l := ep
      intro k hk' cs z
      rw [ep', clean_line] at z
      have z' : (if k = l then (hget M.held l).map (fun v => (v.1, false)) else hget M.held k) = some (cs, true) := z
      by_cases e : k = l
      · rw [if_pos e] at z'
        cases e2 : hget M.held l with
        | none =>
          rw [e2] at z'
          cases z'
        | some v =>
          rw [e2] at z'
          simp at z'
      · rw [if_neg e] at z'
        rcases List.mem_cons.mp hk' with y | y
        · exact e y
        · exact cl k y cs z'
    | @start _ k r ht h' =>
      obtain ⟨d1, d2, d3, d4⟩ := drop_at er
      have ep := process_of hi d1
      have ep' : M.process b = MS.note { M with idle := false, at_ := M.at_ + 1, left := M.left ++ movesOf b.ords k } "start" k 0 := ep
      have hcl : ∀ l, Clean1 M l := fun l => by
        rcases Classical.em (l < b.mem.length / 4) with z | z
        · exact cl l (ht l z)
        · exact clean1_out g sim.ok z
      have cols := sim.cols h4 hcl
      have s1 : Sim b.mem.length (M.process b) (plainAt b M.at_) := by
        have hok := sim.ok.process g
        rw [ep'] at hok ⊢
        refine Sim.other (w := "start") (M := { M with idle := false, at_ := M.at_ + 1, left := M.left ++ movesOf b.ords k }) (sim.rowsEq ⟨hok.len, hok.nd, hok.lines, hok.left⟩ (fun _ _ => rfl) sim.un rfl) (by decide) (by decide) (by decide)
      have c1 : Cols b.mem.length (M.process b) (plainAt b M.at_) := ⟨s1.ok, s1.len, by rw [ep']; exact cols.mem, s1.rd, s1.ft, s1.sd⟩
      have hpa : (M.process b).at_ = M.at_ + 1 := by rw [ep']; rfl
      have hpl : (M.process b).left = movesOf b.ords k := by rw [ep']; show M.left ++ movesOf b.ords k = _; rw [left]; rfl
      have hS : (M.process b).left.foldl PS.move (plainAt b M.at_) = plainAt b (M.process b).at_ := by rw [hpa, d4, hpl]; rfl
      have hph : (M.process b).held = M.held := by rw [ep']; rfl
      refine ⟨moved_fi c1 hS (fun l cs z => hcl l cs (by rw [← hph]; exact z)) (by rw [hpa, d2]) h', fun _ => ?_, ha⟩
      have hna : (nextOf b M mv).at_ = M.at_ + 1 := by
        unfold nextOf MS.moved
        split
        · rw [(carry_grew (M := M.process b)).1, hpa]
        · exact hpa
      rw [hna, d2]
      have : (Deed.start k :: Deed.wait :: r).filter Deed.isStart = Deed.start k :: (Deed.wait :: r).filter Deed.isStart := rfl
      rw [this, List.length_cons]
      exact Nat.le_refl _
  | w r S cols hS cl e h =>
    obtain ⟨d1, d2, d3, d4⟩ := drop_at e
    cases hl : M.left with
    | nil =>
      have hi := idle_no hl d3
      have ep : M.process b = { M with idle := false, at_ := M.at_ + 1 } := process_of hi d1
      have hpl : (M.process b).left = [] := by rw [ep]; exact hl
      have en : nextOf b M mv = M.process b := moved_none mv hpl
      have hS' : S = plainAt b M.at_ := by rw [← hS, hl]; rfl
      rw [en]
      have hpa : (M.process b).at_ = M.at_ + 1 := by rw [ep]
      refine ⟨.dd (D := List.range (b.mem.length / 4)) ?_ hpl (fun l z => ?_) (by rw [hpa, d2]; exact h) (by rw [hpa]; omega), fun z => ?_, by rw [hpa]; omega⟩
      · rw [hpa, d4, ep, ← hS']
        exact cols.with_ rfl rfl rfl rfl
      · rw [List.mem_range]
        cases e2 : hget M.held l with
        | none =>
          rw [ep] at z
          exact absurd e2 z
        | some v => exact (cols.ok.cells4 (l := l) (c := v.1) (t := v.2) e2).2
      · rw [rest_none hpl] at z
        cases z
    | cons m ms =>
      have hi : M.isIdle b.prog = true := by
        unfold MS.isIdle
        rw [d1, hl]
        simp
      have ep : M.process b = { M with idle := true } := by
        unfold MS.process
        rw [if_pos hi]
      have hr : (M.process b).mayRest = false := by
        rw [ep]
        unfold MS.mayRest
        simp
      have hmv : mv = true := by
        rcases hm with z | z
        · exact z
        · rw [hr] at z
          cases z
      subst hmv
      refine ⟨?_, fun z => (by rw [hr] at z; cases z), ha⟩
      show FI b (M.process b).carry
      rw [ep]
      exact carry_fi (M := { M with idle := true }) (cols.with_ rfl rfl rfl rfl) hS cl e h
  | d D cols left hh h le hD =>
    have hk : M.at_ < b.prog.length := by
      unfold MS.over at ho
      rw [left] at ho
      simp at ho
      exact ho
    have hi := idle_no left hk
    generalize er : b.prog.drop M.at_ = rem at h
    cases h with
    | nil h => exact absurd rfl hD
    | @drop l D' r h' =>
      obtain ⟨d1, d2, d3, d4⟩ := drop_at er
      have ep := process_of hi d1
      have ep' : M.process b = MS.drop { M with idle := false, at_ := M.at_ + 1 } l := ep
      have q := quiet_drop (M := { M with idle := false, at_ := M.at_ + 1 }) l
      have hpl : (M.process b).left = [] := by rw [ep', q.left]; exact left
      have hpa : (M.process b).at_ = M.at_ + 1 := by rw [ep', q.at_]
      have en : nextOf b M mv = M.process b := moved_none mv hpl
      have hheld : ∀ k, hget (M.process b).held k = if k = l then none else hget M.held k := by
        intro k
        rw [ep']
        unfold MS.drop
        cases e2 : hget M.held l with
        | none =>
          show hget M.held k = _
          by_cases z : k = l
          · rw [if_pos z, z, e2]
          · rw [if_neg z]
        | some v => exact hget_hdel
      have hcols : Cols b.mem.length (M.process b) (plainAt b M.at_) := by
        have hok := cols.ok.process g
        rw [ep'] at hok ⊢
        unfold MS.drop at hok ⊢
        cases e2 : hget M.held l with
        | none => exact cols.with_ rfl rfl rfl rfl
        | some v =>
          have e2' : hget ({ M with idle := false, at_ := M.at_ + 1 } : MS).held l = some v := e2
          rw [e2'] at hok
          refine ⟨hok, cols.len, cols.mem, ?_, ?_, ?_⟩
          · show colOf "read" (M.rows ++ [(M.beats, Str.ofString "drop", l, 0)]) = _
            rw [colOf_append, colOf_one, if_neg (fun z => by have := ofS_inj.mp z; simp at this), List.append_nil, cols.rd]
          · show colOf "fetch" (M.rows ++ [(M.beats, Str.ofString "drop", l, 0)]) = _
            rw [colOf_append, colOf_one, if_neg (fun z => by have := ofS_inj.mp z; simp at this), List.append_nil, cols.ft]
          · show saidOf (M.rows ++ [(M.beats, Str.ofString "drop", l, 0)]) = _
            rw [saidOf_append, saidOf_one, if_neg (fun z => by have := ofS_inj.mp z; simp at this), List.append_nil, cols.sd]
      rw [en]
      refine ⟨.dd (D := D') ?_ hpl (fun k z => ?_) (by rw [hpa, d2]; exact h') (by rw [hpa]; omega), fun z => ?_, by rw [hpa]; omega⟩
      · rw [hpa, d4]
        exact hcols
      · rw [hheld] at z
        by_cases y : k = l
        · rw [if_pos y] at z
          exact absurd rfl z
        · rw [if_neg y] at z
          exact (List.mem_cons.mp (hh k z)).resolve_left y
      · rw [rest_none hpl] at z
        cases z
theorem FI.init (g : Good b) (h : OkA (b.mem.length / 4) [] b.prog) : FI b (MS.init b) := .a [] (Sim.init g) rfl (by simp) (by simpa [MS.init] using h) (Nat.zero_le _)
theorem FI.run (g : Good b) : ∀ (k : Nat) {M : MS} (pace : List Bool), FI b M → FI b (MS.run b k M pace)
  | 0, _, _, h => h
  | k + 1, M, pace, h => by
    show FI b (if M.over b = true then M else _)
    by_cases ho : M.over b = true
    · rw [if_pos ho]
      exact h
    · rw [if_neg ho]
      refine FI.run g k _ ?_
      have hm : may b M ((M.process b).pick pace).1 := by
        unfold may MS.pick
        split
        · rename_i hh
          exact .inr hh
        · exact .inl rfl
      exact (h.next g (by simpa using ho) hm).1.tick
theorem FI.over (h : FI b M) (ho : M.over b = true) : Sim b.mem.length M (plainOf b) := by
  unfold MS.over at ho
  simp only [Bool.and_eq_true, decide_eq_true_eq, List.isEmpty_iff] at ho
  have hd : b.prog.drop M.at_ = [] := List.drop_eq_nil_iff.mpr ho.1
  cases h with
  | a T sim left cl h le =>
    have : plainAt b M.at_ = plainOf b := by
      unfold plainAt plainOf
      rw [List.take_of_length_le ho.1]
    rw [← this]
    exact sim
  | w r S cols hS cl e h =>
    rw [hd] at e
    cases e
  | d D cols left hh h le hD =>
    rw [hd] at h
    cases h with
    | nil h => exact absurd rfl hD
/-- what a run of such a board tells -/
theorem full_gone (g : Good b) (h : OkA (b.mem.length / 4) [] b.prog) (pace : List Bool) : Sim b.mem.length (goneOf b pace) (plainOf b) ∧ (goneOf b pace).mem = (plainOf b).mem ∧ amissOf b pace = [] := by
  have ho := run_over g 1980 pace (show (MS.init b).fuel b ≤ 1980 by have := (Going.init g).far; omega)
  have s := (FI.run g 1980 pace (FI.init g h)).over ho
  obtain ⟨f1, f2⟩ := s.finish g.four g.lines.2
  exact ⟨f2, f1, amiss_none g s⟩
theorem full_sure (g : Good b) (h : OkA (b.mem.length / 4) [] b.prog) : ¬ Bad b (MS.init b) := fun z => by
  obtain ⟨p, hp⟩ := (bad_iff g).mp z
  exact hp (full_gone g h p).2.2
theorem full_tree (g : Good b) : ∀ (n : Nat) (M : MS), FI b M → toDo b M ≤ n → (tree b n M).length ≤ 2 ^ ((b.prog.drop M.at_).filter Deed.isStart).length * (n + 1)
  | 0, M, _, h => by
    show 1 ≤ _
    exact Nat.mul_pos (Nat.two_pow_pos _) (Nat.succ_pos _)
  | n + 1, M, hF, h => by
    have pos := Nat.two_pow_pos ((b.prog.drop M.at_).filter Deed.isStart).length
    have big : 2 ^ ((b.prog.drop M.at_).filter Deed.isStart).length * (n + 1 + 1) = 2 ^ ((b.prog.drop M.at_).filter Deed.isStart).length * (n + 1) + 2 ^ ((b.prog.drop M.at_).filter Deed.isStart).length := Nat.mul_succ _ _
    unfold tree
    by_cases ho : M.over b = true
    · rw [if_pos ho, big]
      simp only [List.length_cons, List.length_nil]
      omega
    · rw [if_neg ho]
      have ho' : M.over b = false := by simpa using ho
      by_cases hm : (M.process b).mayRest = true
      · rw [if_pos hm]
        have a1 := (next_toDo g (mv := false) ho' (.inr hm)).1
        have b1 := (next_toDo g (mv := true) ho' (.inl rfl)).1
        obtain ⟨f1, s1, _⟩ := hF.next g ho' (mv := false) (.inr hm)
        obtain ⟨f2, s2, _⟩ := hF.next g ho' (mv := true) (.inl rfl)
        have t1 := full_tree g n _ f1 (by omega)
        have t2 := full_tree g n _ f2 (by omega)
        have s1' := s1 hm
        have s2' := s2 hm
        have p1 : 2 ^ ((b.prog.drop (nextOf b M false).at_).filter Deed.isStart).length ≤ 2 ^ (((b.prog.drop M.at_).filter Deed.isStart).length - 1) := Nat.pow_le_pow_right (by decide) (by omega)
        have p2 : 2 ^ ((b.prog.drop (nextOf b M true).at_).filter Deed.isStart).length ≤ 2 ^ (((b.prog.drop M.at_).filter Deed.isStart).length - 1) := Nat.pow_le_pow_right (by decide) (by omega)
        have q1 := Nat.mul_le_mul_right (n + 1) p1
        have q2 := Nat.mul_le_mul_right (n + 1) p2
        have dbl : 2 ^ ((b.prog.drop M.at_).filter Deed.isStart).length = 2 ^ (((b.prog.drop M.at_).filter Deed.isStart).length - 1) + 2 ^ (((b.prog.drop M.at_).filter Deed.isStart).length - 1) := by
          rw [← Nat.two_mul, ← Nat.pow_succ']
          congr 1
          omega
        have dm : 2 ^ ((b.prog.drop M.at_).filter Deed.isStart).length * (n + 1) = 2 ^ (((b.prog.drop M.at_).filter Deed.isStart).length - 1) * (n + 1) + 2 ^ (((b.prog.drop M.at_).filter Deed.isStart).length - 1) * (n + 1) := by rw [dbl, Nat.add_mul]
        rw [big]
        simp only [List.length_cons, List.length_append]
        omega
      · rw [if_neg hm]
        have b1 := (next_toDo g (mv := true) ho' (.inl rfl)).1
        obtain ⟨f2, s2, a2⟩ := hF.next g ho' (mv := true) (.inl rfl)
        have t2 := full_tree g n _ f2 (by omega)
        have hsub : ((b.prog.drop (nextOf b M true).at_).filter Deed.isStart).length ≤ ((b.prog.drop M.at_).filter Deed.isStart).length := by
          have : (b.prog.drop (nextOf b M true).at_).Sublist (b.prog.drop M.at_) := by
            obtain ⟨k, hk⟩ := Nat.exists_eq_add_of_le a2
            rw [hk, ← List.drop_drop]
            exact List.drop_sublist _ _
          exact (this.filter _).length_le
        have p2 : 2 ^ ((b.prog.drop (nextOf b M true).at_).filter Deed.isStart).length ≤ 2 ^ ((b.prog.drop M.at_).filter Deed.isStart).length := Nat.pow_le_pow_right (by decide) hsub
        have q2 := Nat.mul_le_mul_right (n + 1) p2
        rw [big]
        simp only [List.length_cons]
        omega
theorem full_few (g : Good b) (h : OkA (b.mem.length / 4) [] b.prog) : Few b 16000000 := by
  refine few_of g ?_
  have t := full_tree g _ _ (FI.init g h) (Nat.le_refl (toDo b (MS.init b)))
  have e : toDo b (MS.init b) = b.prog.length + (b.prog.flatMap (startMoves b.ords)).length := by simp [toDo, MS.init]
  have h1 := moves_all g
  have h2 := g.len
  have h3 : ((b.prog.drop (MS.init b).at_).filter Deed.isStart).length ≤ 3 := g.starts
  have h4 : 2 ^ ((b.prog.drop (MS.init b).at_).filter Deed.isStart).length ≤ 2 ^ 3 := Nat.pow_le_pow_right (by decide) h3
  have := Nat.mul_le_mul h4 (show toDo b (MS.init b) + 1 ≤ 157 by omega)
  omega
end
end BC
/-! BCKeyed: a dict whose keys are nested tuples and whose values are True. -/
namespace BC
open PySem PySem.Spec PyProof.Rows L2
mutual
def toN : PyData → NestedKey
  | .none => .none
  | .bool b => .num (if b = true then 1 else 0)
  | .int i => .num i
  | .str s => .text s
  | .tuple ds => .tup (toNs ds)
  | .list _ => .none
  | .dict _ => .none
def toNs : List PyData → List NestedKey
  | [] => []
  | d :: r => toN d :: toNs r
end
section
variable {P : Program} {w : World} {H : Hp} {h : Heap}
mutual
theorem Im.nested (ok : HOk P w H h) : ∀ (d : PyData) (v : V) (u : Value), Im H d v → RelV v u → NestedIs h (toN d) u
  | .none, _, _, i, r => by
    rw [Im.none_iff] at i
    subst i
    cases (show _ = Value.none from r)
    exact .none
  | .bool b, _, _, i, r => by
    rw [Im.bool_iff] at i
    subst i
    cases (show _ = Value.bool b from r)
    exact .bool rfl
  | .int n, _, _, i, r => by
    rw [Im.int_iff] at i
    subst i
    obtain ⟨t, rfl⟩ := (show ∃ t, _ = Value.int n t from r)
    exact .int n t
  | .str s, _, _, i, r => by
    rw [Im.str_iff] at i
    subst i
    obtain ⟨t, rfl⟩ := (show ∃ t, _ = Value.str s t from r)
    exact .text s t
  | .tuple ds, v, u, i, r => by
    obtain ⟨a, xs, rfl, h1, h2⟩ := i.tup
    obtain rfl : u = Value.ref a := r
    obtain ⟨_, its, rel, o, g1, g2, n, g3⟩ := (show ObjOk P w H h a (.tup xs) from ok a _ h1)
    exact .tup g1 g2 g3 (by simpa using ImL.nested ok ds xs its h2 rel)
  | .list _, _, _, i, _ => by simp only [Im] at i
  | .dict _, _, _, i, _ => by simp only [Im] at i
theorem ImL.nested (ok : HOk P w H h) : ∀ (ds : List PyData) (vs : List V) (us : List Value), ImL H ds vs → Vals vs us → NestedAll h (toNs ds) us
  | [], vs, us, i, r => by
    cases i.nil_inv
    cases r
    exact .nil
  | d :: ds, vs, us, i, r => by
    obtain ⟨v, vs', rfl, h1, h2⟩ := i.cons_inv
    cases r with
    | cons r1 r2 => exact .cons (Im.nested ok d v _ h1 r1) (ImL.nested ok ds vs' _ h2 r2)
end
end
/-- the dict at d with these keys, each where its tuple stands -/
def KRaw (P : Program) (w : World) (d : Addr) (xs : List (NestedKey × Addr)) (h : Heap) : Prop := (d == sysModules) = false ∧ ∃ o es ep, h.get? d = some o ∧ o.ExactDict ∧ o.data = .dict es ep ∧
  es.toList = (xs.map fun x => (x.1, x.2, Value.bool true)).map (entryOfKey (nestedKind P w)) ∧ (xs.map (·.1)).Nodup
def KD (P : Program) (w : World) (d : Addr) (xs : List (NestedKey × Addr)) : HO := .ext (KRaw P w d xs)
theorem kRaw_at {P : Program} {w : World} {d : Addr} {xs : List (NestedKey × Addr)} {h h' : Heap} (x : KRaw P w d xs h) (k : ∀ o, h.get? d = some o → h'.get? d = some o) : KRaw P w d xs h' := by
  obtain ⟨a, o, es, ep, ho, r⟩ := x
  exact ⟨a, o, es, ep, k o ho, r⟩
theorem kd_ok {P : Program} {w : World} {H : Hp} {h : Heap} {d : Addr} {xs : List (NestedKey × Addr)} (x : KRaw P w d xs h) : ObjOk P w H h d (KD P w d xs) := by
  have ⟨_, o, _, _, ho, _⟩ := x
  exact ⟨x, ⟨o, ho⟩, fun h1 h2 p k => kRaw_at p k⟩
/-- keys and where they stand -/
inductive KeysR (H : Hp) : List PyData → List (NestedKey × Addr) → Prop
  | nil : KeysR H [] []
  | cons {k : PyData} {a : Addr} {ks : List PyData} {xs : List (NestedKey × Addr)} (h1 : Im H k (.ref a)) (h2 : (toN k).depth ≤ 8) (h3 : KeysR H ks xs) : KeysR H (k :: ks) ((toN k, a) :: xs)
section
variable {H H2 : Hp} {ks : List PyData} {xs : List (NestedKey × Addr)} {k : PyData} {a : Addr}
theorem KeysR.kp (h : KeysR H ks xs) (e : Kp H H2) : KeysR H2 ks xs := by
  induction h with
  | nil => exact .nil
  | cons h1 h2 h3 ih => exact .cons (h1.kp e) h2 ih
theorem KeysR.fst (h : KeysR H ks xs) : xs.map (·.1) = ks.map toN := by
  induction h with
  | nil => rfl
  | cons h1 h2 h3 ih => simp [ih]
theorem KeysR.snoc (h : KeysR H ks xs) (h1 : Im H k (.ref a)) (h2 : (toN k).depth ≤ 8) : KeysR H (ks ++ [k]) (xs ++ [(toN k, a)]) := by
  induction h with
  | nil => exact .cons h1 h2 .nil
  | cons g1 g2 g3 ih => exact .cons g1 g2 ih
theorem KeysR.is {P : Program} {w : World} {h : Heap} (r : KeysR H ks xs) (ok : HOk P w H h) : ∀ x ∈ xs, (nestedKind P w).is h x.1 x.2 := by
  induction r with
  | nil => exact fun x hx => by cases hx
  | cons h1 h2 h3 ih =>
    intro x hx
    rcases List.mem_cons.mp hx with rfl | hx
    · exact ⟨h1.nested ok _ _ _ rfl, h2⟩
    · exact ih x hx
end
/-- the dict at d has these keys -/
def MetAt (P : Program) (w : World) (H : Hp) (d : Addr) (ks : List PyData) : Prop := ∃ xs, H d = some (KD P w d xs) ∧ KeysR H ks xs
def nIn (ks : List PyData) (k : PyData) : Bool := (ks.map toN).any fun x => decide (x = toN k)
section
variable {P : Program} {w : World} {H H2 : Hp} {d : Addr} {ks : List PyData}
theorem MetAt.keep {G : List Addr} (h : MetAt P w H d ks) (f : Fr G H H2) (k : Kp H H2) (n : d ∉ G) : MetAt P w H2 d ks := by
  obtain ⟨xs, h1, h2⟩ := h
  exact ⟨xs, f _ _ h1 n, h2.kp k⟩
theorem MetAt.ex (h : MetAt P w H d ks) (e : Ex H H2) : MetAt P w H2 d ks := h.keep (G := []) e.fr e.kp (by simp)
end
theorem atKey_any (xs : List (NestedKey × Addr)) (k : NestedKey) : (atKey (xs.map fun x => (x.1, x.2, Value.bool true)) k).isSome = (xs.map (·.1)).any fun x => decide (x = k) := by
  induction xs with
  | nil => rfl
  | cons x r ih =>
    have ih' : ((r.map fun x => (x.1, x.2, Value.bool true)).find? fun x => decide (x.1 = k)).isSome = (r.map (·.1)).any fun x => decide (x = k) := by
      have := ih
      unfold atKey at this
      simpa using this
    unfold atKey
    rw [List.map_cons, List.find?_cons, Option.isSome_map]
    show (match decide (x.1 = k) with | true => some _ | false => _).isSome = _
    rw [List.map_cons, List.any_cons]
    cases decide (x.1 = k) with
    | true => rfl
    | false => simpa using ih'
def tNNew (P : Program) (w : World) : TE := fun _ H Q => ∀ p, H p = none → Q (.ref p) (upd H p (KD P w p []))
def NNotP (P : Program) (w : World) (y x : V) (H2 : Hp) (Q : VK) : Prop := ∃ d ks k, x = .ref d ∧ MetAt P w H2 d ks ∧ Im H2 k y ∧ (∃ a, y = .ref a) ∧ (toN k).depth ≤ 8 ∧ Q (.bl (!nIn ks k)) H2
def tNNot (P : Program) (w : World) (ty td : TE) : TE := fun σ H Q => ty σ H fun y H1 => td σ H1 fun x H2 => NNotP P w y x H2 Q
def NPutP (P : Program) (w : World) (v x y : V) (H3 : Hp) (R : Hp → Prop) : Prop := v = .bl true ∧ ∃ d ks k, x = .ref d ∧ MetAt P w H3 d ks ∧ Im H3 k y ∧ (∃ a, y = .ref a) ∧ (toN k).depth ≤ 8 ∧ nIn ks k = false ∧ ks.length < sizeLine ∧
  ∀ H4, Fr [d] H3 H4 → Kp H3 H4 → MetAt P w H4 d (ks ++ [k]) → R H4
def sNPut (P : Program) (w : World) (td ty tv : TE) : TS := fun D σ H => tv σ H fun v H1 => td σ H1 fun x H2 => ty σ H2 fun y H3 => NPutP P w v x y H3 (D.nx σ)
section
variable {X : Cx} {o i value : Expr} {pos pos' : Pos} {td ty tv : TE}
theorem pe_nnew : PE X (.Dict [] [] pos) (tNNew X.prog X.w) := ⟨fun pins s σ H Q I h =>
  wpAny_Dict_empty ⟨.ref s.heap.objs.size, _, I.laid (a := s.heap.objs.size) (o := KD X.prog X.w s.heap.objs.size []) (t' := s.toks) (fun _ _ q => Heap.get?_push_of_some _ q) (Nat.le_refl _)
    (kd_ok ⟨beq_eq_false_iff_ne.mpr (Ne.symm (Nat.ne_of_lt I.big)), _, #[], 0, Heap.get?_push_size _ rfl, ⟨rfl, rfl, rfl⟩, rfl, rfl, List.nodup_nil⟩), rfl, h _ (I.hok.fresh (Nat.le_refl _))⟩⟩
theorem met_dict {pins : List (Addr × Obj)} {σ : L2.St} {H : Hp} {s : Shared} {d : Addr} {ks : List PyData} (I : Inv X pins σ H s) (m : MetAt X.prog X.w H d ks) :
    (d == sysModules) = false ∧ ∃ xs, H d = some (KD X.prog X.w d xs) ∧ KeysR H ks xs ∧ s.heap.DictOfH (nestedKind X.prog X.w) d (xs.map fun x => (x.1, x.2, Value.bool true)) := by
  obtain ⟨xs, h1, h2⟩ := m
  obtain ⟨⟨hd, ob, es, ep, g1, g2, g3, g4, g5⟩, _, _⟩ := (show ObjOk X.prog X.w H s.heap d (KD X.prog X.w d xs) from I.hok d _ h1)
  refine ⟨hd, xs, h1, h2, ob, es, ep, g1, g2, g3, g4, fun x hx => ?_, by simpa [Function.comp_def] using g5⟩
  obtain ⟨y, hy, rfl⟩ := List.mem_map.mp hx
  exact h2.is I.hok y hy
theorem n_room {A : Around} (hu : A.units + 20 < cLine) : (nestedKind X.prog X.w).room A.in1 := by
  show A.units + 1 + 8 < cLine
  omega
theorem pc_nnot (hu : X.A.units + 20 < cLine) (hi : PE X i ty) (ho : PE X o td) : PC X .NotIn i o (tNNot X.prog X.w ty td) := by
  refine ⟨fun pins s σ H Q I h => ?_⟩
  refine thn (hi.run pins s σ H _ I h) fun iv s1 ⟨y, H1, I1, ry, q1⟩ => thn (ho.run pins s1 σ H1 _ I1 q1) fun u s2 ⟨x, H2, I2, rx, d, ks, k, ex, m, ik, ⟨a, ey⟩, dp, q2⟩ => ?_
  subst ex ey
  obtain rfl : u = Value.ref d := rx
  obtain rfl : iv = Value.ref a := ry
  obtain ⟨hd, xs, h1, h2, h3⟩ := met_dict I2 m
  refine wpAny_notIn_heap (n_room hu) (show (nestedKind X.prog X.w).is s2.heap (toN k) a from ⟨ik.nested I2.hok _ _ _ rfl, dp⟩) hd h3 ?_
  rw [atKey_any, h2.fst]
  exact ⟨.bl (!nIn ks k), H2, I2.tok _, rfl, q2⟩
theorem ps_nput (hu : X.A.units + 20 < cLine) (ho : PE X o td) (hi : PE X i ty) (hv : PE X value tv) (hs : swapsWith value (some (.Subscript o i pos')) pos.line X.env = pure false) :
    L2.PS X (.Assign [.Subscript o i pos'] value pos) (sNPut X.prog X.w td ty tv) := by
  refine ⟨fun pins s σ H D I h => ?_⟩
  refine wpAny_Assign_Subscript (thn (hv.run pins s σ H _ I h) fun r s1 ⟨v, H1, I1, rv, q1⟩ => thn (ho.run pins s1 σ H1 _ I1 q1) fun u s2 ⟨x, H2, I2, rx, q2⟩ => thn (hi.run pins s2 σ H2 _ I2 q2) fun iv s3 ⟨y, H3, I3, ry, ev, d, ks, k, ex, m, ik, ⟨a, ey⟩, dp, hn, hl, q3⟩ => ?_) hs
  subst ex ey ev
  obtain rfl : u = Value.ref d := rx
  obtain rfl : iv = Value.ref a := ry
  obtain rfl : r = Value.bool true := rv
  obtain ⟨hd, xs, h1, h2, h3⟩ := met_dict I3 m
  have hlen : xs.length = ks.length := by
    have := congrArg List.length h2.fst
    simpa using this
  have hno : atKey (xs.map fun x => (x.1, x.2, Value.bool true)) (toN k) = none := by
    have := atKey_any xs (toN k)
    rw [h2.fst] at this
    have hn' : (ks.map toN).any (fun x => decide (x = toN k)) = false := hn
    rw [hn'] at this
    exact Option.isSome_eq_false_iff.mp this |> Option.isNone_iff_eq_none.mp
  refine wpAny_setItem_heap (hsz := by rw [List.length_map, hlen]; exact Nat.le_of_lt hl) (n_room hu) (show (nestedKind X.prog X.w).is s3.heap (toN k) a from ⟨ik.nested I3.hok _ _ _ rfl, dp⟩) h3 fun h' dd' sb => ?_
  rw [storedH_new hno] at dd'
  obtain ⟨q, es, ep, hq, g2, g3, g4, _, g5⟩ := dd'
  have e1 : (xs.map fun x => (x.1, x.2, Value.bool true)) ++ [(toN k, a, Value.bool true)] = (xs ++ [(toN k, a)]).map fun x => (x.1, x.2, Value.bool true) := by simp
  rw [e1] at g4 g5
  have ko : ObjOk X.prog X.w (upd H3 d (KD X.prog X.w d (xs ++ [(toN k, a)]))) h' d (KD X.prog X.w d (xs ++ [(toN k, a)])) :=
    kd_ok ⟨hd, q, es, ep, hq, g2, g3, g4, by simpa [Function.comp_def] using g5⟩
  have I4 := d_write (t' := s3.toks + (nestedKind X.prog X.w).draws (toN k)) I3 (show Mut (H3 d) by rw [h1]; exact True.intro) sb ⟨q, hq⟩ ko
  have kp : Kp H3 (upd H3 d (KD X.prog X.w d (xs ++ [(toN k, a)]))) := Kp.mut (nt_of h1 trivial) (Kp.refl _)
  exact ⟨σ, _, I4, q3 _ (Fr.mut (List.mem_singleton.mpr rfl) (Fr.refl _ _)) kp ⟨_, upd_same, (h2.kp kp).snoc (ik.kp kp) dp⟩⟩
end
section
variable {P : Program} {w : World} {σ : L2.St} {H : Hp} {Q : VK} {D : Ends} {td ty tv : TE} {d a : Addr} {ks : List PyData} {k : PyData}
theorem st_nnew (q : ∀ p H2, H p = none → Ex H H2 → MetAt P w H2 p [] → Q (.ref p) H2) : tNNew P w σ H Q := fun p hp => q p _ hp (Ex.new hp) ⟨[], upd_same, .nil⟩
theorem st_nnot (h : ty σ H fun y H1 => td σ H1 fun x H2 => NNotP P w y x H2 Q) : tNNot P w ty td σ H Q := h
theorem st_nnotP (m : MetAt P w H d ks) (ik : Im H k (.ref a)) (dp : (toN k).depth ≤ 8) (q : Q (.bl (!nIn ks k)) H) : NNotP P w (.ref a) (.ref d) H Q := ⟨d, ks, k, rfl, m, ik, ⟨a, rfl⟩, dp, q⟩
theorem st_nput (h : tv σ H fun v H1 => td σ H1 fun x H2 => ty σ H2 fun y H3 => NPutP P w v x y H3 (D.nx σ)) : sNPut P w td ty tv D σ H := h
theorem st_nputP {R : Hp → Prop} (m : MetAt P w H d ks) (ik : Im H k (.ref a)) (dp : (toN k).depth ≤ 8) (hn : nIn ks k = false) (hl : ks.length < sizeLine) (q : ∀ H4, Fr [d] H H4 → Kp H H4 → MetAt P w H4 d (ks ++ [k]) → R H4) :
    NPutP P w (.bl true) (.ref d) (.ref a) H R := ⟨rfl, d, ks, k, rfl, m, ik, ⟨a, rfl⟩, dp, hn, hl, q⟩
end
/-! ### the keys of machines -/
abbrev pyHE (e : HE) : PyData := .tuple [.int (e.1 : Int), pyMem e.2.1, .bool e.2.2]
abbrev pyKey (k : KeyD) : PyData := .tuple [.int (k.1 : Int), pyMem k.2.1, .tuple (k.2.2.1.map pyHE), .int (k.2.2.2 : Int)]
theorem toNs_ints (ns : List Int) : toNs (ns.map .int) = ns.map .num := by
  induction ns with
  | nil => rfl
  | cons n r ih => simp [toNs, toN, ih]
theorem nums_inj : ∀ {a c : List Int}, a.map NestedKey.num = c.map NestedKey.num → a = c
  | [], [], _ => rfl
  | [], _ :: _, h => by simp at h
  | _ :: _, [], h => by simp at h
  | x :: a, y :: c, h => by
    simp only [List.map_cons, List.cons.injEq, NestedKey.num.injEq] at h
    rw [h.1, nums_inj h.2]
theorem hes_inj : ∀ {a c : List HE}, toNs (a.map pyHE) = toNs (c.map pyHE) → a = c
  | [], [], _ => rfl
  | [], _ :: _, h => by simp [toNs] at h
  | _ :: _, [], h => by simp [toNs] at h
  | (l, ns, t) :: a, (l', ns', t') :: c, h => by
    simp only [List.map_cons, toNs, toN, List.cons.injEq, NestedKey.tup.injEq, NestedKey.num.injEq, toNs_ints, and_true] at h
    obtain ⟨⟨h1, h2, h3⟩, h4⟩ := h
    have e1 : l = l' := Int.ofNat.inj h1
    have e2 := nums_inj h2
    have e3 : t = t' := by cases t <;> cases t' <;> simp_all
    rw [e1, e2, e3, hes_inj h4]
theorem key_nInj {a c : KeyD} (h : toN (pyKey a) = toN (pyKey c)) : a = c := by
  obtain ⟨a1, a2, a3, a4⟩ := a
  obtain ⟨c1, c2, c3, c4⟩ := c
  simp only [pyKey, toN, toNs, List.cons.injEq, NestedKey.tup.injEq, NestedKey.num.injEq, toNs_ints, and_true] at h
  obtain ⟨h1, h2, h3, h4⟩ := h
  have e1 : a1 = c1 := Int.ofNat.inj h1
  have e4 : a4 = c4 := Int.ofNat.inj h4
  rw [e1, nums_inj h2, hes_inj h3, e4]
theorem nIn_keys (met : List KeyD) (k : KeyD) : nIn (met.map pyKey) (pyKey k) = decide (k ∈ met) := by
  unfold nIn
  rw [Bool.eq_iff_iff, decide_eq_true_eq, List.any_eq_true]
  constructor
  · rintro ⟨x, hx, e⟩
    simp only [List.mem_map] at hx
    obtain ⟨y, ⟨z, hz, rfl⟩, rfl⟩ := hx
    rw [decide_eq_true_eq] at e
    rw [← key_nInj e]
    exact hz
  · intro h
    exact ⟨_, List.mem_map_of_mem (List.mem_map_of_mem h), decide_eq_true rfl⟩
theorem depth_nums (ns : List Int) : NestedKey.depthAll (ns.map .num) = 0 := by
  induction ns with
  | nil => rfl
  | cons n r ih => simp [NestedKey.depthAll, NestedKey.depth, ih]
theorem depth_hes (es : List HE) : NestedKey.depthAll (toNs (es.map pyHE)) ≤ 2 := by
  induction es with
  | nil => exact Nat.zero_le _
  | cons e r ih =>
    simp only [List.map_cons, toNs, toN, NestedKey.depthAll, NestedKey.depth, toNs_ints, depth_nums]
    omega
theorem depth_key (k : KeyD) : (toN (pyKey k)).depth ≤ 8 := by
  have := depth_hes k.2.2.1
  simp only [pyKey, toN, toNs, NestedKey.depth, NestedKey.depthAll, toNs_ints, depth_nums]
  omega
theorem u20 {k : Nat} {A : Around} (h : Room k A) : A.units + 20 < cLine := by
  have := h.un
  omega
end BC
/-! BCCopy: walks of a dict's keys, copies of machines. -/
namespace BC
open PySem PySem.Spec PyProof.Rows L2
/-- the turns of a walk over the keys of a locked dict -/
def WalkK (g : TG) (tb : TS) (D : Ends) (σ : L2.St) (x : V) (H1 : Hp) : Prop := ∃ d o, x = .ref d ∧ ((∃ kvs : List (Key × V), H1 d = some (.frz o (.dK kvs)) ∧ ∃ W : Nat → Nat → L2.St → Hp → Prop, (∃ m, W 0 m σ H1) ∧ ∀ i m σ H, W i m σ H →
  ((Itk d o kvs).stop i H ∧ D.nx σ H) ∨ ((Itk d o kvs).go i H ∧ ∃ N : L2.St → Hp → Prop, (∀ σ' H', N σ' H' → ∃ m', m' < m ∧ W (i + 1) m' σ' H') ∧ ∀ x H', (Itk d o kvs).yld i H x H' → g x σ H' fun σ2 H2 => tb { D with nx := N, ct := N, bk := D.nx } σ2 H2)) ∨
  ∃ kvs : List (List Key × V), H1 d = some (.frz o (.dT kvs)) ∧ ∃ W : Nat → Nat → L2.St → Hp → Prop, (∃ m, W 0 m σ H1) ∧ ∀ i m σ H, W i m σ H →
  ((Itkt d o kvs).stop i H ∧ D.nx σ H) ∨ ((Itkt d o kvs).go i H ∧ ∃ N : L2.St → Hp → Prop, (∀ σ' H', N σ' H' → ∃ m', m' < m ∧ W (i + 1) m' σ' H') ∧ ∀ x H', (Itkt d o kvs).yld i H x H' → g x σ H' fun σ2 H2 => tb { D with nx := N, ct := N, bk := D.nx } σ2 H2))
section
variable {K : PySem.W.Frag} {σ : L2.St} {H H0 H1 : Hp} {D : Ends} {Q : VK} {te : TE} {g : TG} {tb : TS} {x v : V} {d a : Addr} {o : Obj} {kvs : List (Key × V)}
theorem st_wK (h : te σ H fun x H1 => WalkK g tb D σ x H1) : tFor (iKeys te) g tb D σ H := h
theorem st_walkK (h : H d = some (.frz o (.dK kvs))) (Pv : Nat → L2.St → Hp → Prop) (h0 : Pv 0 σ H) (hk : ∀ m σ' H', Pv m σ' H' → H' d = some (.frz o (.dK kvs)))
    (hs : ∀ m k v σ' H', kvs[m]? = some (k, v) → Pv m σ' H' → g (kV k) σ' H' fun σ2 H2 => tb { D with nx := Pv (m + 1), ct := Pv (m + 1), bk := D.nx } σ2 H2) (hd : ∀ σ' H', Pv kvs.length σ' H' → D.nx σ' H') : WalkK g tb D σ (.ref d) H :=
  ⟨d, o, rfl, .inl ⟨kvs, h, for_it (walk_keys (d := d) (o := o) (kvs := kvs)) Pv h0 (fun m σ' H' _ p => hk m σ' H' p) (fun m v σ' H' H'' hlt p y => by
    obtain ⟨rfl, k, w, e, rfl⟩ := y
    exact hs m k w σ' H'' e p) hd⟩⟩
/-- the dict at d is locked while t runs -/
theorem st_lock {t : TS} (h : H d = some (.dK kvs)) (q : ∀ od, t ⟨fun σ' H' => H' d = some (.frz od (.dK kvs)) ∧ D.nx σ' (upd H' d (.dK kvs)), fun v H' => H' d = some (.frz od (.dK kvs)) ∧ D.rt v (upd H' d (.dK kvs)), fun σ' H' => H' d = some (.frz od (.dK kvs)) ∧ D.bk σ' (upd H' d (.dK kvs)), fun σ' H' => H' d = some (.frz od (.dK kvs)) ∧ D.ct σ' (upd H' d (.dK kvs))⟩ σ (upd H d (.frz od (.dK kvs)))) : tLock t D σ H :=
  ⟨d, _, h, trivial, q⟩
theorem st_dgetZ {i : Int} (h : H a = some (.frz o (.dK kvs))) (e : valV kvs (Sum.inl i) = some v) (q : Q v H) : DGetP (.ref a) (.int i) H Q := ⟨a, v, rfl, .inl ⟨kvs, Sum.inl i, .inr ⟨o, h⟩, rfl, e.symm⟩, q⟩
end
theorem hget_at {es : List HE} {i l : Nat} {v : List Int × Bool} (nd : (es.map (·.1)).Nodup) (h : es[i]? = some (l, v)) : hget es l = some v := by
  induction es generalizing i with
  | nil => simp at h
  | cons e r ih =>
    simp only [List.map_cons, List.nodup_cons] at nd
    cases i with
    | zero =>
      simp at h
      subst h
      exact if_pos rfl
    | succ i =>
      have h' : r[i]? = some (l, v) := by simpa using h
      have hm : l ∈ r.map (·.1) := List.mem_map.mpr ⟨_, List.mem_of_getElem? h', rfl⟩
      show (if e.1 = l then some e.2 else hget r l) = some v
      rw [if_neg (fun z : e.1 = l => nd.1 (by rw [z]; exact hm))]
      exact ih nd.2 h'
theorem hget_take {es : List HE} {i l : Nat} {v : List Int × Bool} (nd : (es.map (·.1)).Nodup) (h : es[i]? = some (l, v)) : hget (es.take i) l = none := by
  cases e : hget (es.take i) l with
  | none => rfl
  | some w =>
    have hm := hget_in e
    obtain ⟨j, hj, e2⟩ := List.getElem_of_mem hm
    rw [List.length_take] at hj
    have e3 : es[j]? = some (l, w) := by
      rw [List.getElem_take] at e2
      rw [← e2]
      exact List.getElem?_eq_getElem (by omega)
    have a1 : (es.map (·.1))[j]? = some l := by rw [List.getElem?_map, e3]; rfl
    have a2 : (es.map (·.1))[i]? = some l := by rw [List.getElem?_map, h]; rfl
    have hjl : j < (es.map (·.1)).length := by rw [List.length_map]; omega
    have := (List.getElem?_inj hjl nd).mp (a1.trans a2.symm)
    omega
end BC
/-! BCMore: enumerate over a list, ends of rows, what is compared. -/
namespace BC
open PySem PySem.Spec PyProof.Rows L2
def EnL (K : PySem.W.Frag) (g : TG) (tb : TS) (D : Ends) (σ : L2.St) (us : List V) (H1 : Hp) : Prop := ∃ a xs, us = [.ref a] ∧ SqL K H1 a xs ∧ ∃ W : Nat → Nat → L2.St → Hp → Prop, (∃ m, W 0 m σ H1) ∧ ∀ i m σ H, W i m σ H →
  ((Ite K a).stop i H ∧ D.nx σ H) ∨ ((Ite K a).go i H ∧ ∃ N : L2.St → Hp → Prop, (∀ σ' H', N σ' H' → ∃ m', m' < m ∧ W (i + 1) m' σ' H') ∧ ∀ x H', (Ite K a).yld i H x H' → g x σ H' fun σ2 H2 => tb { D with nx := N, ct := N, bk := D.nx } σ2 H2)
section
variable {K : PySem.W.Frag} {σ : L2.St} {H H0 H1 : Hp} {D : Ends} {Q : VK} {te : TE} {ta : TA} {g : TG} {tb : TS} {x : V} {l : Addr} {xs : List V} {ds : List PyData}
theorem st_wE (h : ta σ H fun us H1 => EnL K g tb D σ us H1) : tFor (iEnum K ta) g tb D σ H := h
theorem st_walkE {m1 m2 : Nat} (h : H l = some (.lst xs)) (Pv : Nat → L2.St → Hp → Prop) (h0 : Pv 0 σ H) (hk : ∀ m σ' H', Pv m σ' H' → H' l = some (.lst xs))
    (hs : ∀ (m : Nat) v σ' H' H'', xs[m]? = some v → Pv m σ' H' → Ex H' H'' → tb { D with nx := Pv (m + 1), ct := Pv (m + 1), bk := D.nx } ((σ'.set m1 (some (.int (m : Int)))).set m2 (some v)) H'')
    (hd : ∀ σ' H', Pv xs.length σ' H' → D.nx σ' H') : EnL K (gTup K 2 (gCons (gName m1) (gCons (gName m2) gNil))) tb D σ [.ref l] H := by
  refine ⟨l, xs, rfl, SqL.of h, for_it (walk_enum (K := K) (a := l) (xs := xs)) Pv h0 (fun m σ' H' _ p => SqL.of (hk m σ' H' p)) (fun m v σ' H' H'' hlt p y => ?_) hd⟩
  obtain ⟨T, y1, y2, rfl, f, rfl, ee1, e2⟩ := y
  have ee1' : y1 = .int (m : Int) := (Option.some.inj ee1).symm
  subst ee1'
  refine ⟨T, [.int (m : Int), y2], rfl, SqT.of upd_same, rfl, _, [y2], rfl, y2, [], rfl, rfl, ?_⟩
  exact hs m y2 σ' H' _ e2 p (Ex.new f)
/-- t[k:] of what never changes -/
theorem st_slFrom {k : Nat} (h : Im H0 (.tuple ds) x) (k0 : Kp H0 H) (hk : k ≤ ds.length) (q : ∀ v H2, Ex H H2 → Im H2 (.tuple (ds.drop k)) v → Q v H2) : rSlA K x (some (k : Int)) none H Q := by
  obtain ⟨a, xs, rfl, ha, ix⟩ := (h.kp k0).tup
  have hl := ix.length
  refine ⟨a, xs, rfl, SqT.of ha, fun z => ?_, fun _ p hp => ?_⟩
  · rw [HT.sIx_nat] at z
    have : k = 0 := by omega
    subst this
    exact q _ H (Ex.refl _) (im_tup ha ix)
  · rw [cut_from (by omega)]
    exact q _ _ (Ex.new hp) (im_tup upd_same ((ix.ex (Ex.new hp)).drop k))
end
theorem eqv_seen (a b : Nat × Int) : PyData.eqv (pySeen a) (pySeen b) = decide (a = b) := by
  obtain ⟨a1, a2⟩ := a
  obtain ⟨b1, b2⟩ := b
  by_cases h1 : a1 = b1
  · by_cases h2 : a2 = b2
    · simp [pySeen, PyData.eqv, PyData.eqvAll, h1, h2]
    · simp [pySeen, PyData.eqv, PyData.eqvAll, h1, h2]
  · have : ((a1 : Int) = (b1 : Int)) = False := by simp; omega
    simp [pySeen, PyData.eqv, PyData.eqvAll, h1, this]
theorem sh_seen {n : Nat} (s : Nat × Int) : Sh (n + 1) (pySeen s) := sh_tup fun d hd => by
  simp only [List.mem_cons, List.not_mem_nil, or_false] at hd
  rcases hd with rfl | rfl
  · exact sh_int
  · exact sh_int
theorem st_neSeen {K : PySem.W.Frag} {H H0 H1 : Hp} {Q : VK} {x y : V} {a b : Nat × Int} (hx : Im H0 (pySeen a) x) (k0 : Kp H0 H) (hy : Im H1 (pySeen b) y) (k1 : Kp H1 H) (q : Q (.bl (!decide (a = b))) H) : rNeD K x y H Q := by
  refine st_neD ((hx.kp k0).dp _ _) ((hy.kp k1).dp _ _) (sh_seen (n := 0) a).shaped (sh_seen (n := 0) b).shaped ?_
  rw [eqv_seen]
  exact q
/-! the lists of what is due, and of what is found -/
structure AmL (H : Hp) (rd ff fo : Addr) (S : AS) : Prop where
  r : ∃ xs, H rd = some (.lst xs) ∧ ImL H (S.rs.map pySeen) xs
  f : ∃ xs, H ff = some (.lst xs) ∧ ImL H (S.fs.map pySeen) xs
  o : ∃ xs, H fo = some (.lst xs) ∧ ImL H (S.found.map pyRow) xs
section
variable {H H2 : Hp} {rd ff fo : Addr} {S : AS}
theorem AmL.ex (h : AmL H rd ff fo S) (e : Ex H H2) : AmL H2 rd ff fo S := by
  obtain ⟨⟨x, a1, a2⟩, ⟨y, b1, b2⟩, ⟨z, c1, c2⟩⟩ := h
  exact ⟨⟨x, e _ _ a1, a2.ex e⟩, ⟨y, e _ _ b1, b2.ex e⟩, ⟨z, e _ _ c1, c2.ex e⟩⟩
theorem AmL.setR (h : AmL H rd ff fo S) (n : [rd, ff, fo].Nodup) (f : Fr [rd] H H2) (k : Kp H H2) {rs : List (Nat × Int)} {xs : List V} (h2 : H2 rd = some (.lst xs)) (i2 : ImL H2 (rs.map pySeen) xs) : AmL H2 rd ff fo { S with rs := rs } := by
  simp only [List.nodup_cons, List.mem_cons, List.not_mem_nil, or_false, not_or] at n
  obtain ⟨_, ⟨y, b1, b2⟩, ⟨z, c1, c2⟩⟩ := h
  exact ⟨⟨xs, h2, i2⟩, ⟨y, fr1 f b1 (fun z => n.1.1 z.symm), b2.kp k⟩, ⟨z, fr1 f c1 (fun z => n.1.2 z.symm), c2.kp k⟩⟩
theorem AmL.setF (h : AmL H rd ff fo S) (n : [rd, ff, fo].Nodup) (f : Fr [ff] H H2) (k : Kp H H2) {fs : List (Nat × Int)} {xs : List V} (h2 : H2 ff = some (.lst xs)) (i2 : ImL H2 (fs.map pySeen) xs) : AmL H2 rd ff fo { S with fs := fs } := by
  simp only [List.nodup_cons, List.mem_cons, List.not_mem_nil, or_false, not_or] at n
  obtain ⟨⟨x, a1, a2⟩, _, ⟨z, c1, c2⟩⟩ := h
  exact ⟨⟨x, fr1 f a1 (fun z => n.1.1 z), a2.kp k⟩, ⟨xs, h2, i2⟩, ⟨z, fr1 f c1 (fun z => n.2.1 z.symm), c2.kp k⟩⟩
theorem AmL.setO (h : AmL H rd ff fo S) (n : [rd, ff, fo].Nodup) (f : Fr [fo] H H2) (k : Kp H H2) {rows : List Row} {xs : List V} (h2 : H2 fo = some (.lst xs)) (i2 : ImL H2 (rows.map pyRow) xs) : AmL H2 rd ff fo { S with found := rows } := by
  simp only [List.nodup_cons, List.mem_cons, List.not_mem_nil, or_false, not_or] at n
  obtain ⟨⟨x, a1, a2⟩, ⟨y, b1, b2⟩, _⟩ := h
  exact ⟨⟨x, fr1 f a1 (fun z => n.1.2 z), a2.kp k⟩, ⟨y, fr1 f b1 (fun z => n.2.1 z), b2.kp k⟩, ⟨xs, h2, i2⟩⟩
end
end BC
/-! BCJdg: steps for Judge: lists of anything beside [], pops, paces, the judge as an object. -/
namespace BC
open PySem PySem.Spec PyProof.Rows L2
/-- xs != [] -/
def rNeE : R2 := fun x y H Q => ∃ a xs b, x = .ref a ∧ y = .ref b ∧ H a = some (.lst xs) ∧ H b = some (.lst []) ∧ Q (.bl (!xs.isEmpty)) H
theorem lst_is {X : Cx} {pins : List (Addr × Obj)} {σ : L2.St} {H : Hp} {s : Shared} {a : Addr} {xs : List V} (I : Inv X pins σ H s) (h : H a = some (.lst xs)) : ∃ its : List Value, Vals xs its ∧ s.heap.IsList a its.toArray := by
  obtain ⟨_, its, n, r, e⟩ := (show ObjOk X.prog X.w H s.heap a (.lst xs) from I.hok a _ h)
  exact ⟨its, r, _, e, rfl, n, rfl⟩
theorem op_neE {X : Cx} (hu : X.A.units + 1 < cLine) : OpR X (compareOp .NotEq) rNeE := by
  intro pins s σ H x y v u Q I rx ry h
  obtain ⟨a, xs, b, rfl, rfl, ha, hb, q⟩ := h
  obtain rfl : v = Value.ref a := rx
  obtain rfl : u = Value.ref b := ry
  obtain ⟨as, r1, l1⟩ := lst_is I ha
  obtain ⟨bs, r2, l2⟩ := lst_is I hb
  cases r2
  have hu' : X.A.units < cLine := by omega
  cases xs with
  | nil =>
    cases r1
    refine SeqAt.RcNeAt.lists (e := fun _ => true) l1 l2 rfl hu' (fun j h1 _ => absurd h1 (Nat.not_lt_zero _)) X.prog X.w _ _ ?_
    exact ⟨.bl false, H, I, rfl, q⟩
  | cons z zs =>
    have hl := r1.length
    refine SeqAt.RcNeAt.lists_lengths l1 l2 ?_ hu' X.prog X.w _ _ ⟨.bl true, H, I, rfl, q⟩
    cases as with
    | nil => simp at hl
    | cons w ws => simp
section
variable {K : PySem.W.Frag} {σ : L2.St} {H H0 H1 : Hp} {D : Ends} {Q : VK} {x y v : V} {a b l : Addr} {xs ys : List V} {ds es : List PyData} {ps qs : List Bool}
theorem st_neE (ha : H a = some (.lst xs)) (hb : H b = some (.lst [])) (q : Q (.bl (!xs.isEmpty)) H) : rNeE (.ref a) (.ref b) H Q := ⟨a, xs, b, rfl, rfl, ha, hb, q⟩
theorem st_popLast (h : H l = some (.lst (xs ++ [y]))) (q : ∀ H2, Fr [l] H H2 → Kp H H2 → H2 l = some (.lst xs) → Q y H2) : rPop (.ref l) [] H Q := by
  refine ⟨l, xs ++ [y], y, rfl, rfl, h, by simp, q _ (Fr.mut (List.mem_singleton.mpr rfl) (Fr.refl _ _)) (Kp.mut (nt_of h trivial) (Kp.refl _)) ?_⟩
  rw [upd_same]
  simp
/-- two tuples, the second not empty -/
theorem st_catT (hx : Im H0 (.tuple ds) x) (kx : Kp H0 H) (hy : Im H1 (.tuple es) y) (ky : Kp H1 H) (hl : ds.length + es.length ≤ 100000) (q : ∀ v H2, Ex H H2 → Im H2 (.tuple (ds ++ es)) v → Q v H2) : rCatA K x y H Q := by
  obtain ⟨a, xs, rfl, h1, h2⟩ := (hx.kp kx).tup
  obtain ⟨b, ys, rfl, g1, g2⟩ := (hy.kp ky).tup
  refine ⟨a, b, xs, ys, rfl, rfl, SqT.of h1, SqT.of g1, by rw [h2.length, g2.length]; exact sz_le hl, fun e => ?_, fun e1 e2 => ?_, fun e1 e2 p np => ?_⟩
  · subst e
    have : ds = [] := List.length_eq_zero_iff.mp h2.length.symm
    subst this
    exact q _ H (Ex.refl _) (im_tup g1 g2)
  · subst e2
    have : es = [] := List.length_eq_zero_iff.mp g2.length.symm
    subst this
    exact q _ H (Ex.refl _) (by rw [List.append_nil]; exact im_tup h1 h2)
  · exact q _ _ (Ex.new np) (im_tup upd_same ((h2.append g2).kp (Ex.new np).kp))
theorem bls_iml : ∀ {ps : List Bool} {xs : List V}, ImL H (ps.map .bool) xs → xs = ps.map V.bl
  | [], _, h => h.nil_inv
  | p :: ps, _, h => by
    obtain ⟨v, vs, rfl, h1, h2⟩ := ImL.cons_inv (d := .bool p) (ds := ps.map .bool) h
    rw [Im.bool_iff.mp h1, bls_iml h2]
    rfl
end
theorem eqv_ints (a c : List Int) : PyData.eqv (.list (a.map .int)) (.list (c.map .int)) = decide (a = c) := by
  show PyData.eqvAll (a.map .int) (c.map .int) = _
  induction a generalizing c with
  | nil =>
    cases c with
    | nil => rfl
    | cons y c => rfl
  | cons x a ih =>
    cases c with
    | nil => rfl
    | cons y c =>
      show (PyData.eqv (.int x) (.int y) && PyData.eqvAll (a.map .int) (c.map .int)) = _
      rw [ih, Bool.eq_iff_iff]
      have : PyData.eqv (.int x) (.int y) = decide (x = y) := by
        rw [Bool.eq_iff_iff]
        simp [PyData.eqv]
      rw [this]
      simp
theorem sh_intsL' {ns : List Int} : SeqAt.shaped (.list (ns.map PyData.int)) = true := (sh_lst (n := 0) sh_ints).shaped
theorem st_neMem {K : PySem.W.Frag} {H : Hp} {Q : VK} {a b : Addr} {m n : List Int} (ha : H a = some (.lst (m.map V.int))) (hb : H b = some (.lst (n.map V.int))) (q : Q (.bl (!decide (m = n))) H) : rNeD K (.ref a) (.ref b) H Q := by
  refine st_neD (lst_dp ha (ImL.ints.mpr rfl)) (lst_dp hb (ImL.ints.mpr rfl)) sh_intsL' sh_intsL' ?_
  rw [eqv_ints]
  exact q
/-- a place in the dict of held lines -/
theorem HeldR.at' {H : Hp} {kvs : List (Key × V)} {es : List HE} {cs : List Addr} (h : HeldR H kvs es cs) : ∀ {i : Nat} {k : Key} {v : V}, kvs[i]? = some (k, v) → ∃ l ns b, es[i]? = some (l, ns, b) ∧ k = Sum.inl (l : Int) := by
  induction h with
  | nil => intro i k v e; simp at e
  | @cons l ns b t c kvs es cs h1 h2 h3 ih =>
    intro i k v e
    cases i with
    | zero =>
      simp at e
      exact ⟨l, ns, b, by simp, e.1.symm⟩
    | succ i =>
      obtain ⟨l', ns', b', g1, g2⟩ := ih (i := i) (by simpa using e)
      exact ⟨l', ns', b', by simpa using g1, g2⟩
def MS.bare (M : MS) : MS := { M with rows := [] }
theorem bare_same {M : MS} (h : M.rows = []) : M.bare = M := by
  unfold MS.bare
  rw [← h]
/-! ### the judge -/
def judgeF (vb : V) (ap md : Addr) : List (Str × V) := [("board", vb), ("aim", .ref ap), ("met", .ref md)]
section
variable {vb : V} {ap md : Addr}
theorem lk_J_board : (judgeF vb ap md).lookup ("board" : Str) = some vb := by simp [judgeF, List.lookup, ofS_beq]
theorem lk_J_aim : (judgeF vb ap md).lookup ("aim" : Str) = some (.ref ap) := by simp [judgeF, List.lookup, ofS_beq]
theorem lk_J_met : (judgeF vb ap md).lookup ("met" : Str) = some (.ref md) := by simp [judgeF, List.lookup, ofS_beq]
theorem no_J_is_amiss : (judgeF vb ap md).lookup ("is_amiss" : Str) = none := by simp [judgeF, List.lookup, ofS_beq]
theorem no_J_torn : (judgeF vb ap md).lookup ("torn" : Str) = none := by simp [judgeF, List.lookup, ofS_beq]
theorem no_J_onward : (judgeF vb ap md).lookup ("onward" : Str) = none := by simp [judgeF, List.lookup, ofS_beq]
end
/-- the judge of the board b at j, with all that it has (js), but for what is met (md) -/
structure JAt (P : Program) (w : World) (CJ CP : Addr) (H : Hp) (j md : Addr) (js : List Addr) (vb : V) (b : Bd) (met : List KeyD) : Prop where
  ob : ∃ dx ap, H j = some (.ins CJ dx (judgeF vb ap md)) ∧ ∃ pdx ml rl fl sl, js = [j, ap, ml, rl, fl, sl] ∧ PlainAt CP H ap pdx ml rl fl sl (plainOf b)
  nm : md ∉ js
  bd : Im H (pyB b.raw) vb
  me : MetAt P w H md (met.map pyKey)
section
variable {P : Program} {w : World} {CJ CP : Addr} {H H2 : Hp} {j md : Addr} {js : List Addr} {vb : V} {b : Bd} {met : List KeyD}
theorem PlainAt.keep {C : Addr} {p dx ml rl fl sl : Addr} {S : BC.PS} {G : List Addr} (h : PlainAt C H p dx ml rl fl sl S) (f : Fr G H H2) (k : Kp H H2) (n : ∀ a ∈ [p, ml, rl, fl, sl], a ∉ G) : PlainAt C H2 p dx ml rl fl sl S := by
  obtain ⟨x1, a1, b1⟩ := h.re
  obtain ⟨x2, a2, b2⟩ := h.fe
  exact ⟨f _ _ h.ob (n _ (by simp)), f _ _ h.me (n _ (by simp)), ⟨x1, f _ _ a1 (n _ (by simp)), b1.kp k⟩, ⟨x2, f _ _ a2 (n _ (by simp)), b2.kp k⟩, f _ _ h.sa (n _ (by simp)), h.nd⟩
theorem PlainAt.there {C : Addr} {p dx ml rl fl sl : Addr} {S : BC.PS} (h : PlainAt C H p dx ml rl fl sl S) : ∀ a ∈ [p, ml, rl, fl, sl], ∃ o, H a = some o := by
  obtain ⟨x1, a1, b1⟩ := h.re
  obtain ⟨x2, a2, b2⟩ := h.fe
  intro a ha
  simp only [List.mem_cons, List.not_mem_nil, or_false] at ha
  rcases ha with rfl | rfl | rfl | rfl | rfl
  · exact ⟨_, h.ob⟩
  · exact ⟨_, h.me⟩
  · exact ⟨_, a1⟩
  · exact ⟨_, a2⟩
  · exact ⟨_, h.sa⟩
/-- the judge stays, but for what is met -/
theorem JAt.keepM {met2 : List KeyD} {G : List Addr} (h : JAt P w CJ CP H j md js vb b met) (f : Fr G H H2) (k : Kp H H2) (n : ∀ a ∈ js, a ∉ G) (m : MetAt P w H2 md (met2.map pyKey)) : JAt P w CJ CP H2 j md js vb b met2 := by
  obtain ⟨⟨dx, ap, h1, pdx, ml, rl, fl, sl, rfl, h2⟩, h3, h4, h5⟩ := h
  exact ⟨⟨dx, ap, f _ _ h1 (n j (by simp)), pdx, ml, rl, fl, sl, rfl, h2.keep f k fun a ha => n a (List.mem_cons_of_mem _ ha)⟩, h3, h4.kp k, m⟩
theorem JAt.keep {G : List Addr} (h : JAt P w CJ CP H j md js vb b met) (f : Fr G H H2) (k : Kp H H2) (n : ∀ a ∈ md :: js, a ∉ G) : JAt P w CJ CP H2 j md js vb b met :=
  h.keepM f k (fun a ha => n a (List.mem_cons_of_mem _ ha)) (h.me.keep f k (n md (by simp)))
theorem JAt.ex (h : JAt P w CJ CP H j md js vb b met) (e : Ex H H2) : JAt P w CJ CP H2 j md js vb b met := h.keep (G := []) e.fr e.kp (by simp)
theorem JAt.there (h : JAt P w CJ CP H j md js vb b met) : ∀ a ∈ md :: js, ∃ o, H a = some o := by
  obtain ⟨⟨dx, ap, h1, pdx, ml, rl, fl, sl, rfl, h2⟩, h3, h4, ⟨xs, h5, _⟩⟩ := h
  intro a ha
  rcases List.mem_cons.mp ha with rfl | ha
  · exact ⟨_, h5⟩
  · rcases List.mem_cons.mp ha with rfl | ha
    · exact ⟨_, h1⟩
    · exact h2.there a ha
end
end BC
namespace BC
open PySem PySem.Spec PyProof.Rows L2
/-- the lines that are held, in order -/
def upLines (M : MS) : List Nat := (List.range 4).filter fun l => decide (l ∈ M.held.map (·.1))
theorem held_up (M : MS) : heldUp M = (upLines M).map fun l => (l, (hget M.held l).getD ([], false)) := by
  unfold heldUp upLines
  generalize List.range 4 = ls
  induction ls with
  | nil => rfl
  | cons l r ih =>
    rw [List.filterMap_cons, List.filter_cons, ih]
    cases e : hget M.held l with
    | none =>
      have : l ∉ M.held.map (·.1) := fun z => by
        have := hget_mem.mpr z
        rw [e] at this
        cases this
      rw [if_neg (by simpa using this)]
      rfl
    | some v =>
      have : l ∈ M.held.map (·.1) := hget_mem.mp (by rw [e]; rfl)
      rw [if_pos (decide_eq_true this), List.map_cons, e]
      rfl
theorem upLines_len (M : MS) : (upLines M).length ≤ 4 := Nat.le_trans (List.length_filter_le _ _) (by simp)
theorem upLines_get {M : MS} {i l : Nat} (h : (upLines M)[i]? = some l) : ∃ v, hget M.held l = some v ∧ (heldUp M)[i]? = some (l, v) := by
  have hm := List.mem_of_getElem? h
  unfold upLines at hm
  have hk := of_decide_eq_true (List.mem_filter.mp hm).2
  have hs := hget_mem.mpr hk
  cases e : hget M.held l with
  | none =>
    rw [e] at hs
    cases hs
  | some v =>
    refine ⟨v, rfl, ?_⟩
    rw [held_up, List.getElem?_map, h]
    simp [e]
theorem st_dgetK {K : PySem.W.Frag} {H : Hp} {Q : VK} {a : Addr} {kvs : List (Key × V)} {k : Key} {v : V} (h : H a = some (.dK kvs)) (e : valV kvs k = some v) (q : Q v H) : DGetP (.ref a) (kV k) H Q := ⟨a, v, rfl, by rw [← e]; exact DGet.k (k := k) h, q⟩
end BC
namespace BC
open PySem PySem.Spec PyProof.Rows L2
theorem Mac.there {C : Addr} {vo vp : V} {p : Addr} {F : List Addr} {H : Hp} {M : MS} (h : Mac C vo vp p F H M) : ∀ a ∈ F, ∃ o, H a = some o := by
  obtain ⟨dx, hd, ml, ll, rl, cs, rfl, A⟩ := h
  exact A.there
theorem Mac.keep {C : Addr} {vo vp : V} {p : Addr} {F G : List Addr} {H H2 : Hp} {M : MS} (h : Mac C vo vp p F H M) (f : Fr G H H2) (k : Kp H H2) (n : ∀ a ∈ F, a ∉ G) : Mac C vo vp p F H2 M := by
  obtain ⟨dx, hd, ml, ll, rl, cs, rfl, A⟩ := h
  exact ⟨dx, hd, ml, ll, rl, cs, rfl, A.keep f k n⟩
theorem Mac.self {C : Addr} {vo vp : V} {p : Addr} {F : List Addr} {H : Hp} {M : MS} (h : Mac C vo vp p F H M) : p ∈ F := by
  obtain ⟨dx, hd, ml, ll, rl, cs, rfl, A⟩ := h
  simp
/-- what was new once is new still -/
theorem Chg.news {F F2 : List Addr} {H0 H H2 : Hp} (c : Chg F H F2 H2) (e : Ex H0 H) (n : ∀ a ∈ F, H0 a = none) : Ex H0 H2 ∧ ∀ a ∈ F2, H0 a = none :=
  ⟨Fr.ex e n c.fr, fun a ha => (c.own a ha).elim (n a) e.free⟩
theorem apart_of {F G : List Addr} {H : Hp} (h : ∀ a ∈ F, ∃ o, H a = some o) (n : ∀ a ∈ G, H a = none) : ∀ a ∈ F, a ∉ G := fun a ha hg => by
  obtain ⟨o, e⟩ := h a ha
  rw [n a hg] at e
  cases e
/-- machines and their paces in a list -/
inductive WaysR (C : Addr) (vo vp : V) (H : Hp) : List V → List (MS × List Bool) → List Addr → Prop
  | nil : WaysR C vo vp H [] [] []
  | cons {t p : Addr} {pv : V} {F G : List Addr} {M : MS} {pace : List Bool} {xs : List V} {ws : List (MS × List Bool)} (h1 : H t = some (.tup [.ref p, pv])) (h2 : Mac C vo vp p F H M) (h3 : Im H (.tuple (pace.map .bool)) pv) (h4 : ∀ a ∈ F, a ∉ G)
      (h5 : WaysR C vo vp H xs ws G) : WaysR C vo vp H (.ref t :: xs) ((M, pace) :: ws) (F ++ G)
section
variable {C : Addr} {vo vp : V} {H H2 : Hp} {xs : List V} {ws : List (MS × List Bool)} {G B : List Addr}
theorem WaysR.keep (h : WaysR C vo vp H xs ws G) (f : Fr B H H2) (k : Kp H H2) (n : ∀ a ∈ G, a ∉ B) : WaysR C vo vp H2 xs ws G := by
  induction h with
  | nil => exact .nil
  | cons h1 h2 h3 h4 h5 ih => exact .cons (k _ _ h1) (h2.keep f k fun a ha => n a (List.mem_append_left _ ha)) (h3.kp k) h4 (ih fun a ha => n a (List.mem_append_right _ ha))
theorem WaysR.ex (h : WaysR C vo vp H xs ws G) (e : Ex H H2) : WaysR C vo vp H2 xs ws G := h.keep (B := []) e.fr e.kp (by simp)
theorem WaysR.len (h : WaysR C vo vp H xs ws G) : xs.length = ws.length := by
  induction h with
  | nil => rfl
  | cons h1 h2 h3 h4 h5 ih => simp [ih]
theorem WaysR.there (h : WaysR C vo vp H xs ws G) : ∀ a ∈ G, ∃ o, H a = some o := by
  induction h with
  | nil => exact fun a ha => by cases ha
  | cons h1 h2 h3 h4 h5 ih =>
    intro a ha
    rcases List.mem_append.mp ha with ha | ha
    · exact h2.there a ha
    · exact ih a ha
theorem WaysR.snoc (h : WaysR C vo vp H xs ws G) {t p : Addr} {pv : V} {F : List Addr} {M : MS} {pace : List Bool} (h1 : H t = some (.tup [.ref p, pv])) (h2 : Mac C vo vp p F H M) (h3 : Im H (.tuple (pace.map .bool)) pv) (h4 : ∀ a ∈ G, a ∉ F) :
    ∃ G', WaysR C vo vp H (xs ++ [.ref t]) (ws ++ [(M, pace)]) G' ∧ ∀ a, a ∈ G' ↔ a ∈ G ∨ a ∈ F := by
  induction h with
  | nil => exact ⟨F ++ [], .cons h1 h2 h3 (by simp) .nil, by simp⟩
  | @cons t' p' pv' F' G M' pace' xs ws g1 g2 g3 g4 g5 ih =>
    obtain ⟨G2, i1, i2⟩ := ih fun a ha => h4 a (List.mem_append_right _ ha)
    refine ⟨F' ++ G2, .cons g1 g2 g3 (fun a ha hg => ?_) i1, fun a => ?_⟩
    · rcases (i2 a).mp hg with z | z
      · exact g4 a ha z
      · exact h4 a (List.mem_append_left _ ha) z
    · rw [List.mem_append, List.mem_append, i2, or_assoc]
/-- the last one is taken away -/
theorem WaysR.last (h : WaysR C vo vp H xs ws G) (hne : xs ≠ []) : ∃ xs' ws' t p pv F G' M pace, xs = xs' ++ [.ref t] ∧ ws = ws' ++ [(M, pace)] ∧ H t = some (.tup [.ref p, pv]) ∧ Mac C vo vp p F H M ∧ Im H (.tuple (pace.map .bool)) pv ∧ WaysR C vo vp H xs' ws' G' ∧ (∀ a ∈ G', a ∉ F) ∧ (∀ a, a ∈ G ↔ a ∈ G' ∨ a ∈ F) := by
  induction h with
  | nil => exact absurd rfl hne
  | @cons t p pv F G M pace xs ws h1 h2 h3 h4 h5 ih =>
    cases xs with
    | nil =>
      cases h5
      exact ⟨[], [], t, p, pv, F, [], M, pace, rfl, rfl, h1, h2, h3, .nil, by simp, by simp⟩
    | cons x xs =>
      obtain ⟨xs', ws', t', p', pv', F', G', M', pace', e1, e2, i1, i2, i3, i4, i5, i6⟩ := ih (by simp)
      refine ⟨.ref t :: xs', (M, pace) :: ws', t', p', pv', F', F ++ G', M', pace', by rw [e1]; rfl, by rw [e2]; rfl, i1, i2, i3, .cons h1 h2 h3 (fun a ha hg => h4 a ha ((i6 a).mpr (.inl hg))) i4, fun a ha hf => ?_, fun a => ?_⟩
      · rcases List.mem_append.mp ha with z | z
        · exact h4 a z ((i6 a).mpr (.inr hf))
        · exact i5 a z hf
      · rw [List.mem_append, List.mem_append, i6, or_assoc]
end
/-- the ways in which a beat may go -/
def waysOf (b : Bd) (M : MS) (pace : List Bool) : List (MS × List Bool) :=
  if (M.process b).mayRest = true then [((nextOf b M false).tick, pace ++ paceOf b M false), ((nextOf b M true).tick, pace ++ paceOf b M true)] else [((nextOf b M true).tick, pace ++ paceOf b M true)]
theorem ways_may {b : Bd} {M : MS} {pace : List Bool} : ∀ w ∈ waysOf b M pace, ∃ mv, may b M mv ∧ w = ((nextOf b M mv).tick, pace ++ paceOf b M mv) := by
  intro w hw
  unfold waysOf at hw
  split at hw
  · rename_i h
    simp only [List.mem_cons, List.not_mem_nil, or_false] at hw
    rcases hw with rfl | rfl
    · exact ⟨false, .inr h, rfl⟩
    · exact ⟨true, .inl rfl, rfl⟩
  · simp only [List.mem_cons, List.not_mem_nil, or_false] at hw
    exact ⟨true, .inl rfl, hw⟩
theorem may_ways {b : Bd} {M : MS} {pace : List Bool} {mv : Bool} (h : may b M mv) : ((nextOf b M mv).tick, pace ++ paceOf b M mv) ∈ waysOf b M pace := by
  unfold waysOf
  split
  · cases mv <;> simp
  · rename_i hh
    rcases h with h | h
    · simp [h]
    · exact absurd h hh
end BC
namespace BC
open PySem PySem.Spec PyProof.Rows L2
theorem Fr.but {m : Addr} {B : List Addr} {H H1 H2 : Hp} (f : Fr [m] H H1) (f2 : Fr B H1 H2) (n : ∀ a ∈ B, a = m ∨ H a = none) : Fr [m] H H2 := fun a o ha hn =>
  f2 a o (f a o ha hn) fun z => (n a z).elim (fun e => hn (by rw [e]; simp)) fun e => by rw [e] at ha; cases ha
/-- where a search stands: waiting at wl, cur in hand -/
structure TornI (P : Program) (w : World) (CJ CP CM : Addr) (H : Hp) (j md wl : Addr) (js : List Addr) (vb vo vp : V) (b : Bd) (H' : Hp) (xs : List V) (ws : List (MS × List Bool)) (G : List Addr) (met : List KeyD) (Pd : MS → Prop) (cur : Option MS) : Prop where
  J : JAt P w CJ CP H' j md js vb b met
  hwl : H' wl = some (.lst xs)
  hws : WaysR CM vo vp H' xs ws G
  new : ∀ a ∈ G, H a = none
  nw : wl ∉ G
  fr : Fr [md] H H'
  kp : Kp H H'
  sr : Srch b (fun S => (Pd S ∨ ∃ p, (S, p) ∈ ws) ∨ cur = some S) Pd met
  way : ∀ x ∈ ws, Way b x.2 x.1
  len : xs.length + (if cur.isSome = true then 1 else 0) ≤ met.length + 1
section
variable {P : Program} {w : World} {CJ CP CM : Addr} {H : Hp} {j md wl : Addr} {js : List Addr} {vb vo vp : V} {b : Bd} {H' H2 : Hp} {xs : List V} {ws : List (MS × List Bool)} {G : List Addr} {met : List KeyD} {Pd : MS → Prop} {cur : Option MS}
/-- other things change -/
theorem TornI.keep {B : List Addr} (h : TornI P w CJ CP CM H j md wl js vb vo vp b H' xs ws G met Pd cur) (f : Fr B H' H2) (k : Kp H' H2) (n1 : ∀ a ∈ B, H a = none) (n2 : wl ∉ B) (n3 : ∀ a ∈ G, a ∉ B) (n4 : ∀ a ∈ md :: js, a ∉ B) :
    TornI P w CJ CP CM H j md wl js vb vo vp b H2 xs ws G met Pd cur :=
  ⟨h.J.keep f k n4, f _ _ h.hwl n2, h.hws.keep f k n3, h.new, h.nw, h.fr.but f fun a ha => .inr (n1 a ha), h.kp.trans k, h.sr, h.way, h.len⟩
theorem TornI.ex (h : TornI P w CJ CP CM H j md wl js vb vo vp b H' xs ws G met Pd cur) (e : Ex H' H2) : TornI P w CJ CP CM H j md wl js vb vo vp b H2 xs ws G met Pd cur :=
  h.keep (B := []) e.fr e.kp (by simp) (by simp) (by simp) (by simp)
end
/-- how far a search is from its end -/
def tornM (met : List KeyD) (xs : List V) : Nat := 2 * (16000000 - met.length) + xs.length
end BC
/-! BCFence: fences put in; a list that takes a tuple's items behind its own. -/
namespace BC
open PySem PySem.Spec PyProof.Rows L2
theorem meets_extT (l : Addr) (xs : Array Value) (n : Nat) (b : Addr) (ys : Array Value) (n2 : Nat) (dc : Option Addr) (sl : Array (Option Value)) (h0 : ¬(!xs.isEmpty && Builtin.List.listTooLong (xs.size + ys.size)) = true) (h1 : xs.size ≤ sizeLine) (h2 : xs.size + ys.size ≤ sizeLine + 1) :
    Meets (Builtin.«list.extend» ⟨[.ref l, .ref b], []⟩) (fun _ R s => s.heap.get? l = some ⟨.type "list", none, .seq xs n, #[]⟩ ∧ s.heap.get? b = some ⟨.type "tuple", dc, .seq ys n2, sl⟩ ∧
      R (.ok (.ret Value.none)) ⟨s.heap.update l (Obj.mapSeq fun x => x ++ ys), s.gens, s.drawn, s.toks, s.os⟩) := by
  refine .of_wp fun prog w A R s h => ?_
  obtain ⟨hp, g, d, tk, os⟩ := s
  obtain ⟨hl, hb, hR⟩ := h
  have f1 := AutoSeq1.idx_int
  have f2 := AutoSeq1.sub_tuple_tuple
  have f3 := AutoSeq1.sub_list_list
  have f4 := AutoSeq1.sub_tuple_list
  have f5 := AutoSeq1.sub_list_tuple
  have hz : (xs ++ ys).size ≤ sizeLine + 1 := by rw [Array.size_append]; exact h2
  wp_walk using (wpAny_updateSeq hl rfl (hz := h1) (_hz' := hz)), AutoSeq1.wpAny_loadPart' hl, AutoSeq1.wpAny_loadPart' hb
  exact ⟨_, rfl, hR⟩
/-- xs.extend(t) -/
def rExtT (K : PySem.W.Frag) : V → List V → Hp → VK → Prop := fun x vs H Q => ∃ l b xs zs, x = .ref l ∧ vs = [.ref b] ∧ H l = some (.lst xs) ∧ SqT K H b zs ∧ xs.length + zs.length ≤ sizeLine ∧ Q .non (upd H l (.lst (xs ++ zs)))
theorem mt_extT {X : Cx} : MtM X "list.extend" (rExtT X.K) := by
  intro pins s σ H x vs v us Q I rx rv h
  obtain ⟨l, b, xs, zs, rfl, rfl, hH, hB, hz, q⟩ := h
  cases rx
  obtain ⟨u, rfl, ru⟩ := rv.one
  cases ru
  obtain ⟨z, its, n, r, hl, e⟩ := I.lstM hH
  obtain ⟨its2, r2, ⟨o, e2, hc, n2, hd⟩, z2⟩ := I.tuple hB
  have hl2 := r2.length
  obtain ⟨cls, dc, dat, sl⟩ := o
  have hc' : cls = .type "tuple" := hc
  have hd' : dat = .seq its2.toArray n2 := hd
  subst hc'
  subst hd'
  have hsz : its.toArray.size + its2.toArray.size ≤ sizeLine := by rw [List.size_toArray, List.size_toArray]; omega
  have hlong : ¬ (!its.toArray.isEmpty && Builtin.List.listTooLong (its.toArray.size + its2.toArray.size)) = true := by
    rw [notLongL hsz, Bool.and_false]
    exact Bool.false_ne_true
  refine call_meets F.slot_list_extend ⟨_, e, rfl⟩ F.entry_list_extend (F.args_list_extend_2 _ _)
    (meets_extT l its.toArray n b its2.toArray n2 dc sl hlong (by rw [List.size_toArray]; omega) (by omega)) ⟨e, e2, ?_⟩
  refine ⟨.non, _, I.lset (its' := its ++ its2) hH e (by simp) (r.append r2) ?_, rfl, q⟩
  rw [List.length_append]
  omega
section
variable {K : PySem.W.Frag} {σ : L2.St} {H H0 H1 : Hp} {Q : VK} {l b : Addr} {x : V} {xs zs : List V} {ds : List PyData}
theorem st_ext (h : H l = some (.lst xs)) (hb : H b = some (.lst zs)) (hl : xs.length + zs.length ≤ 100000) (q : ∀ H2, Fr [l] H H2 → Kp H H2 → H2 l = some (.lst (xs ++ zs)) → Q .non H2) : rExtend (.ref l) [.ref b] H Q :=
  ⟨l, b, xs, zs, rfl, rfl, h, hb, sz_le hl, q _ (Fr.mut (List.mem_singleton.mpr rfl) (Fr.refl _ _)) (Kp.mut (nt_of h trivial) (Kp.refl _)) upd_same⟩
theorem st_extT (h : H l = some (.lst xs)) (hx : Im H0 (.tuple ds) x) (k : Kp H0 H) (hl : xs.length + ds.length ≤ 100000) (q : ∀ H2 zs, Fr [l] H H2 → Kp H H2 → ImL H0 ds zs → H2 l = some (.lst (xs ++ zs)) → Q .non H2) : rExtT K (.ref l) [x] H Q := by
  obtain ⟨a, zs, rfl, ha, hz⟩ := hx.tup
  exact ⟨l, a, xs, zs, rfl, rfl, h, SqT.of (k a zs ha), by rw [hz.length]; exact sz_le hl, q _ zs (Fr.mut (List.mem_singleton.mpr rfl) (Fr.refl _ _)) (Kp.mut (nt_of h trivial) (Kp.refl _)) hz upd_same⟩
/-- t[k:k + 1] -/
theorem st_slOne {k : Nat} {hi : Int} (e : hi = (k : Int) + 1) (h : Im H0 (.tuple ds) x) (k0 : Kp H0 H) (q : ∀ v H2, Ex H H2 → Im H2 (.tuple (ds[k]?.toList)) v → Q v H2) : rSlA K x (some (k : Int)) (some hi) H Q := by
  obtain ⟨a, xs, rfl, ha, ix⟩ := (h.kp k0).tup
  have hl := ix.length
  have e2 : hi = ((k + 1 : Nat) : Int) := by omega
  subst e2
  refine ⟨a, xs, rfl, SqT.of ha, fun z => ?_, fun _ p hp => ?_⟩
  · rw [HT.sIx_nat, HT.sIx_nat] at z
    have hd : ds[k]?.toList = ds := by
      cases ds with
      | nil => simp
      | cons d ds =>
        simp only [List.length_cons] at hl
        have : ds = [] := List.length_eq_zero_iff.mp (by omega)
        subst this
        have : k = 0 := by omega
        subst this
        rfl
    rw [hd] at q
    exact q _ H (Ex.refl _) (im_tup ha ix)
  · refine q _ _ (Ex.new hp) (im_tup upd_same ?_)
    unfold cutV
    rw [HT.sIx_nat, HT.sIx_nat]
    cases e : ds[k]? with
    | none =>
      have hk : ds.length ≤ k := by simpa using e
      rw [Nat.min_eq_right (by omega), Nat.min_eq_right (by omega), Nat.sub_self]
      exact iml_nil
    | some d =>
      have hk : k < ds.length := (List.getElem?_eq_some_iff.mp e).1
      rw [Nat.min_eq_left (by omega), Nat.min_eq_left (by omega), show k + 1 - k = 1 by omega]
      obtain ⟨v, g1, g2⟩ := ix.get e
      have : (xs.drop k).take 1 = [v] := by
        rw [List.getElem?_eq_some_iff] at g1
        obtain ⟨g3, g4⟩ := g1
        rw [List.drop_eq_getElem_cons g3, List.take_succ_cons, List.take_zero, g4]
      rw [this]
      exact iml_cons (g2.ex (Ex.new hp)) iml_nil
end
/-! ### fences -/
abbrev RF := Int × RDeed
abbrev pyF (f : RF) : PyData := .tuple [.int f.1, pyDeed f.2]
/-- the fences of a place -/
def atPlace (fs : List RF) (i : Nat) : List RDeed := (fs.filter fun f => decide (f.1 = (i : Int))).map (·.2)
def putTo (p : List RDeed) (fs : List RF) (n : Nat) : List RDeed := (List.range n).flatMap fun i => atPlace fs i ++ p[i]?.toList
def putIn (p : List RDeed) (fs : List RF) : List RDeed := putTo p fs (p.length + 1)
theorem atPlace_len (fs : List RF) (i : Nat) : (atPlace fs i).length ≤ fs.length := by
  unfold atPlace
  rw [List.length_map]
  exact List.length_filter_le _ _
theorem putTo_succ (p : List RDeed) (fs : List RF) (n : Nat) : putTo p fs (n + 1) = putTo p fs n ++ (atPlace fs n ++ p[n]?.toList) := by
  unfold putTo
  rw [List.range_succ, List.flatMap_append]
  simp
theorem toList_len {α : Type} (o : Option α) : o.toList.length ≤ 1 := by cases o <;> simp
theorem putTo_len (p : List RDeed) (fs : List RF) : ∀ n : Nat, (putTo p fs n).length ≤ n * (fs.length + 1)
  | 0 => by simp [putTo]
  | n + 1 => by
    have h1 := putTo_len p fs n
    have h2 := atPlace_len fs n
    have h3 := toList_len p[n]?
    rw [putTo_succ, List.length_append, List.length_append, Nat.succ_mul]
    omega
/-- a fence that can be -/
def fenceOk (b : RB) (f : RF) : Bool := decide (0 ≤ f.1 ∧ f.1 ≤ (b.prog.length : Int)) && (decide (f.2.1 = "wait" ∨ f.2.1 = "clean" ∨ f.2.1 = "drop") && deedOk b.mem.length b.ords.length f.2)
/-! ### typed ones -/
abbrev TF := Nat × Deed
abbrev TF.raw (f : TF) : RF := ((f.1 : Int), f.2.raw)
def atT (fs : List TF) (i : Nat) : List Deed := (fs.filter fun f => decide (f.1 = i)).map (·.2)
def putT (p : List Deed) (fs : List TF) (n : Nat) : List Deed := (List.range n).flatMap fun i => atT fs i ++ p[i]?.toList
theorem at_raw (fs : List TF) (i : Nat) : atPlace (fs.map TF.raw) i = (atT fs i).map Deed.raw := by
  unfold atPlace atT
  rw [List.filter_map, List.map_map, List.map_map]
  congr 1
  refine congrArg (List.filter · fs) ?_
  funext f
  simp [Function.comp, TF.raw]
  omega
theorem put_raw (p : List Deed) (fs : List TF) (n : Nat) : putTo (p.map Deed.raw) (fs.map TF.raw) n = (putT p fs n).map Deed.raw := by
  unfold putTo putT
  induction List.range n with
  | nil => rfl
  | cons i r ih =>
    rw [List.flatMap_cons, List.flatMap_cons, List.map_append, ih, at_raw, List.map_append, List.getElem?_map]
    cases p[i]? <;> rfl
theorem putIn_raw (p : List Deed) (fs : List TF) : putIn (p.map Deed.raw) (fs.map TF.raw) = (putT p fs (p.length + 1)).map Deed.raw := by
  unfold putIn
  rw [List.length_map]
  exact put_raw _ _ _
theorem atT_append (a c : List TF) (i : Nat) : atT (a ++ c) i = atT a i ++ atT c i := by
  unfold atT
  rw [List.filter_append, List.map_append]
theorem putT_succ (p : List Deed) (fs : List TF) (n : Nat) : putT p fs (n + 1) = putT p fs n ++ (atT fs n ++ p[n]?.toList) := by
  unfold putT
  rw [List.range_succ, List.flatMap_append]
  simp
/-! ### fences around each start -/
def ahead (n j : Nat) : List TF := (List.range n).map fun l => (j, .clean l)
def behind (n j : Nat) : List TF := (j + 1, .wait) :: (List.range n).map fun l => (j + 1, .drop l)
def around (n : Nat) (p : List Deed) (j : Nat) : List TF := match p[j]? with
  | some d => if d.isStart then ahead n j ++ behind n j else []
  | none => []
def fullyTo (n : Nat) (p : List Deed) (m : Nat) : List TF := (List.range m).flatMap (around n p)
def fullyOf (n : Nat) (p : List Deed) : List TF := fullyTo n p p.length
theorem fullyTo_succ (n : Nat) (p : List Deed) (m : Nat) : fullyTo n p (m + 1) = fullyTo n p m ++ around n p m := by
  unfold fullyTo
  rw [List.range_succ, List.flatMap_append]
  simp
theorem around_len (n : Nat) (p : List Deed) (j : Nat) : (around n p j).length ≤ 2 * n + 1 := by
  unfold around
  split
  · split
    · simp [ahead, behind]
      omega
    · simp
  · simp
theorem fullyTo_len (n : Nat) (p : List Deed) : ∀ m : Nat, (fullyTo n p m).length ≤ m * (2 * n + 1)
  | 0 => by simp [fullyTo]
  | m + 1 => by
    rw [fullyTo_succ, List.length_append, Nat.succ_mul]
    have := fullyTo_len n p m
    have := around_len n p m
    omega
def cleans (n : Nat) : List Deed := (List.range n).map .clean
def drops (n : Nat) : List Deed := .wait :: (List.range n).map .drop
def goesAt (p : List Deed) (j : Nat) : Bool := match p[j]? with
  | some d => d.isStart
  | none => false
/-- behind a start at the place ahead -/
def tailAt (n : Nat) (p : List Deed) : Nat → List Deed
  | 0 => []
  | j + 1 => if goesAt p j then drops n else []
def headAt (n : Nat) (p : List Deed) (j : Nat) : List Deed := if goesAt p j then cleans n else []
theorem filter_same {n j i : Nat} {f : Nat → Deed} : (((List.range n).map fun l => (j, f l)).filter fun g : TF => decide (g.1 = i)).map (·.2) = if j = i then (List.range n).map f else [] := by
  induction List.range n with
  | nil => simp
  | cons a r ih =>
    rw [List.map_cons, List.filter_cons]
    by_cases h : j = i
    · rw [if_pos h] at ih ⊢
      rw [if_pos (decide_eq_true h), List.map_cons, List.map_cons, ih]
    · rw [if_neg h] at ih ⊢
      rw [if_neg (by simpa using h)]
      exact ih
theorem around_goes {n : Nat} {p : List Deed} {j : Nat} : around n p j = if goesAt p j then ahead n j ++ behind n j else [] := by
  unfold around goesAt
  cases p[j]? with
  | none => rfl
  | some d => rfl
theorem at_around (n : Nat) (p : List Deed) (j i : Nat) : atT (around n p j) i = (if j = i then headAt n p i else []) ++ (if j + 1 = i then tailAt n p i else []) := by
  rw [around_goes]
  cases e : goesAt p j with
  | false =>
    rw [if_neg (by simp)]
    by_cases h : j = i
    · subst h
      rw [if_pos rfl, if_neg (by omega)]
      simp [atT, headAt, e]
    · rw [if_neg h]
      by_cases h2 : j + 1 = i
      · subst h2
        rw [if_pos rfl]
        simp [atT, tailAt, e]
      · rw [if_neg h2]
        rfl
  | true =>
    rw [if_pos rfl, atT_append]
    congr 1
    · unfold atT ahead
      rw [filter_same]
      by_cases h : j = i
      · subst h
        simp [headAt, e, cleans]
      · rw [if_neg h, if_neg h]
    · unfold behind atT
      rw [List.filter_cons]
      by_cases h2 : j + 1 = i
      · rw [if_pos (decide_eq_true h2), List.map_cons, filter_same, if_pos h2, if_pos h2, ← h2]
        simp [tailAt, e, drops]
      · rw [if_neg (by simpa using h2), filter_same, if_neg h2, if_neg h2]
theorem at_fullyTo (n : Nat) (p : List Deed) (i : Nat) : ∀ m : Nat, atT (fullyTo n p m) i = (if i ≤ m then tailAt n p i else []) ++ (if i < m then headAt n p i else [])
  | 0 => by
    cases i with
    | zero => simp [fullyTo, atT, tailAt]
    | succ i => simp [fullyTo, atT]
  | m + 1 => by
    rw [fullyTo_succ, atT_append, at_fullyTo n p i m, at_around]
    by_cases h1 : i < m
    · rw [if_pos (by omega), if_pos h1, if_neg (by omega), if_neg (by omega), if_pos (by omega), if_pos (by omega)]
      simp
    · by_cases h2 : i = m
      · rw [if_pos (by omega), if_neg h1, if_pos h2.symm, if_neg (by omega), if_pos (by omega), if_pos (by omega)]
        simp
      · by_cases h3 : i = m + 1
        · rw [if_neg (by omega), if_neg h1, if_neg (by omega), if_pos h3.symm, if_pos (by omega), if_neg (by omega)]
          simp
        · rw [if_neg (by omega), if_neg h1, if_neg (by omega), if_neg (by omega), if_neg (by omega), if_neg (by omega)]
          rfl
/-- with all fences put in -/
def fullP (n : Nat) (p : List Deed) : List Deed := p.flatMap fun d => if d.isStart then cleans n ++ d :: drops n else [d]
theorem put_full_to (n : Nat) (p : List Deed) : ∀ i : Nat, i ≤ p.length → putT p (fullyOf n p) i ++ tailAt n p i = fullP n (p.take i)
  | 0, _ => by simp [putT, tailAt, fullP]
  | i + 1, hi => by
    have hi' : i < p.length := by omega
    have e : p[i]? = some p[i] := List.getElem?_eq_getElem hi'
    rw [putT_succ, fullyOf, at_fullyTo, if_pos (by omega), if_pos hi', List.take_add_one, e]
    have ih := put_full_to n p i (by omega)
    rw [fullyOf] at ih
    show (_ ++ ((_ ++ _) ++ [p[i]])) ++ _ = fullP n (p.take i ++ [p[i]])
    rw [show fullP n (p.take i ++ [p[i]]) = fullP n (p.take i) ++ (if p[i].isStart then cleans n ++ p[i] :: drops n else [p[i]]) by unfold fullP; rw [List.flatMap_append]; simp, ← ih]
    have eg : goesAt p i = p[i].isStart := by
      unfold goesAt
      rw [e]
    simp only [headAt, eg]
    have et : tailAt n p (i + 1) = if p[i].isStart then drops n else [] := by
      show (if goesAt p i then drops n else []) = _
      rw [eg]
    rw [et]
    cases p[i].isStart with
    | true => simp
    | false => simp
theorem put_full (n : Nat) (p : List Deed) : putT p (fullyOf n p) (p.length + 1) = fullP n p := by
  rw [putT_succ, List.getElem?_eq_none (Nat.le_refl _), fullyOf, at_fullyTo, if_pos (Nat.le_refl _), if_neg (Nat.lt_irrefl _)]
  have := put_full_to n p p.length (Nat.le_refl _)
  rw [List.take_length, fullyOf] at this
  rw [← this]
  simp
/-- what the boards of k09 are made of -/
def tame (d : Deed) : Bool := d.calm || d.isStart || (match d with | .clean _ => true | _ => false)
theorem okA_cleans {n : Nat} {r : List Deed} : ∀ (ls T : List Nat), OkA n (ls.reverse ++ T) r → OkA n T (ls.map Deed.clean ++ r)
  | [], T, h => by simpa using h
  | l :: ls, T, h => by
    refine .clean (okA_cleans ls (l :: T) ?_)
    simpa [List.reverse_cons, List.append_assoc] using h
theorem okD_drops {n : Nat} {r : List Deed} (h : OkA n [] r) : ∀ ls : List Nat, OkD n ls (ls.map Deed.drop ++ r)
  | [] => .nil h
  | l :: ls => .drop (okD_drops h ls)
theorem okA_weak {n : Nat} : ∀ {r : List Deed} {T T2 : List Nat}, OkA n T r → (∀ l ∈ T, l ∈ T2) → OkA n T2 r
  | [], _, _, _, _ => .nil
  | d :: r, T, T2, h, hT => by
    cases h with
    | calm hc h => exact .calm hc h
    | @clean _ l _ h =>
      refine .clean (okA_weak h fun x hx => ?_)
      rcases List.mem_cons.mp hx with rfl | hx
      · exact List.mem_cons_self
      · exact List.mem_cons_of_mem _ (hT x hx)
    | start ht h => exact .start (fun l hl => hT l (ht l hl)) h
theorem full_ok (n : Nat) : ∀ p : List Deed, (∀ d ∈ p, tame d = true) → OkA n [] (fullP n p)
  | [], _ => .nil
  | d :: r, h => by
    have ih := full_ok n r fun e he => h e (List.mem_cons_of_mem _ he)
    have hd := h d List.mem_cons_self
    show OkA n [] ((if d.isStart then cleans n ++ d :: drops n else [d]) ++ fullP n r)
    cases hs : d.isStart with
    | true =>
      rw [if_pos rfl]
      cases d with
      | start k =>
        rw [List.append_assoc]
        refine okA_cleans _ _ ?_
        refine .start (fun l hl => by simpa using hl) ?_
        exact okD_drops ih _
      | _ => cases hs
    | false =>
      rw [if_neg (by simp)]
      cases hc : d.calm with
      | true => exact .calm hc ih
      | false =>
        cases d with
        | clean l => exact .clean (okA_weak ih (by simp))
        | _ => simp [tame, hs, hc] at hd
/-! ### steps -/
section
variable {K : PySem.W.Frag} {σ : L2.St} {H1 : Hp} {Q : VK} {own : List Nat}
/-- [deed for where, deed in fences if where == place] -/
theorem st_atPlace {a c p l : Nat} {fs : List RF} {xs : List V} {i : Nat} (h : H1 l = some (.lst xs)) (hi : ImL H1 (fs.map pyF) xs) (hn : fs.length ≤ 50000)
    (ha : ∀ u v, (((wipe σ own).set a (some u)).set c (some v))[a]? = some (some u)) (hc : ∀ u v, (((wipe σ own).set a (some u)).set c (some v))[c]? = some (some v))
    (hp : ∀ u v, (((wipe σ own).set a (some u)).set c (some v))[p]? = some (some (.int (i : Int)))) (hw : ∀ u v, wipe (((wipe σ own).set a (some u)).set c (some v)) own = wipe σ own)
    (q : ∀ D H2 ys, H1 D = none → Ex H1 H2 → H2 D = some (.lst ys) → ImL H2 ((atPlace fs i).map pyDeed) ys → Q (.ref D) H2) :
    LcL K (gTup K 2 (gCons (gName a) (gCons (gName c) gNil))) (tTest (tOp rEq (tVar a) (tVar p))) (tVar c) own σ (.ref l) H1 Q := by
  refine st_lcList (SqL.of h) fun D H2 nD e2 hD => ?_
  refine ⟨fun j H' => ∃ ys, Ex H1 H' ∧ H' D = some (.lst ys) ∧ ImL H' ((atPlace (fs.take j) i).map pyDeed) ys, ⟨[], e2, hD, iml_nil⟩, fun j H' hh => ?_, fun j v H' hv1 hh => ?_, fun H' hh => ?_⟩
  · obtain ⟨_, e', _⟩ := hh
    exact SqL.of (e' _ _ h)
  · obtain ⟨ys, e', hacc, hys⟩ := hh
    obtain ⟨dd, g1, g2⟩ := hi.get' hv1
    obtain ⟨f, g3, rfl⟩ := map_at' g1
    refine st_gtup (g2.ex e') (Kp.refl _) rfl fun vs hvs => ?_
    obtain ⟨v1, r1, rfl, h1, hvs⟩ := hvs.cons_inv
    obtain ⟨v2, r2, rfl, h2, hvs⟩ := hvs.cons_inv
    cases hvs.nil_inv
    cases Im.int_iff.mp h1
    refine st_gcons (st_name (st_gcons (st_name (st_gnil ⟨hw _ _, ?_⟩))))
    refine st_test (st_op (st_var (ha _ _) (st_var (hp _ _) (st_eqI (st_bl ?_)))))
    have ht : fs.take (j + 1) = fs.take j ++ [f] := by rw [List.take_add_one, g3]; rfl
    refine st_D (fun hs => ?_) (fun hs => ?_)
    · refine st_var (hc _ _) ?_
      have hl : ys.length ≤ fs.length := by
        rw [hys.length, List.length_map]
        exact Nat.le_trans (atPlace_len _ _) (by rw [List.length_take]; omega)
      refine st_lcPut hacc (by omega) fun H5 f5 k5 h5 => ?_
      refine ⟨ys ++ [v2], Fr.ex e' (fun a ha => by rw [List.mem_singleton.mp ha]; exact nD) f5, h5, ?_⟩
      rw [ht]
      unfold atPlace
      rw [List.filter_append, List.filter_cons, if_pos (decide_eq_true hs), List.map_append, List.map_append]
      exact (hys.kp k5).append (iml_cons (h2.kp k5) iml_nil)
    · refine ⟨ys, e', hacc, ?_⟩
      rw [ht]
      unfold atPlace
      rw [List.filter_append, List.filter_cons, if_neg (by simpa using hs)]
      simpa [atPlace] using hys
  · obtain ⟨ys, e', hacc, hys⟩ := hh
    rw [hi.length, List.length_map, List.take_length] at hys
    exact q D H' ys nD e' hacc hys
/-- fences of a word at a place, a line each -/
def linesAt (j : Int) (w : Str) (n : Nat) : List PyData := (List.range n).map fun k : Nat => pyF (j, (w, [(k : Int)]))
theorem fence_turn {i k D : Nat} {j : Int} {w : Str} {tp : TE} {H : Hp} (hk : k ≤ 1000) (nD : H1 D = none) (hv : ∀ v, ((wipe σ own).set i (some v))[i]? = some (some v)) (hw : ∀ v, wipe ((wipe σ own).set i (some v)) own = wipe σ own)
    (ht : ∀ v H (Q : VK), Q (.int j) H → tp ((wipe σ own).set i (some v)) H Q) (hh : ∃ ys, Ex H1 H ∧ H D = some (.lst ys) ∧ ImL H (linesAt j w k) ys) :
    LcTurn (gName i) tYes (tTup (tCons tp (tCons (tTup (tCons (tC (.str w)) (tCons (tVar i) tNil))) tNil))) own σ D (.int (k : Int)) H fun H => ∃ ys, Ex H1 H ∧ H D = some (.lst ys) ∧ ImL H (linesAt j w (k + 1)) ys := by
  obtain ⟨ys, e', hacc, hys⟩ := hh
  refine st_name ⟨hw _, st_yes (st_T ?_)⟩
  refine st_tup (st_cons (ht _ _ _ (st_cons (st_tup (st_cons (st_c (st_cons (st_var (hv _) (st_nil ?_)))))))))
  refine st_newT (by simp) fun t H2 n2 e2 h2 => ?_
  refine st_nil ?_
  refine st_newT (by simp) fun t2 H3 n3 e3 h3 => ?_
  have hl : ys.length = k := by
    rw [hys.length, linesAt, List.length_map, List.length_range]
  refine st_lcPut (e3 _ _ (e2 _ _ hacc)) (by omega) fun H5 f5 k5 h5 => ?_
  refine ⟨_, Fr.ex (e'.trans (e2.trans e3)) (fun a ha => by rw [List.mem_singleton.mp ha]; exact nD) f5, h5, ?_⟩
  unfold linesAt
  rw [List.range_succ, List.map_append]
  refine (((hys.ex e2).ex e3).kp k5).append (iml_cons (im_tup (k5 _ _ h3) (iml_cons im_int (iml_cons (im_tup (k5 _ _ (e3 _ _ h2)) (iml_cons im_str (iml_cons im_int iml_nil))) iml_nil))) iml_nil)
theorem st_linesR {i n : Nat} {j : Int} {w : Str} {tp : TE} (hn : n ≤ 1000) (hv : ∀ v, ((wipe σ own).set i (some v))[i]? = some (some v)) (hw : ∀ v, wipe ((wipe σ own).set i (some v)) own = wipe σ own)
    (ht : ∀ v H (Q : VK), Q (.int j) H → tp ((wipe σ own).set i (some v)) H Q) (q : ∀ D H2 ys, H1 D = none → Ex H1 H2 → H2 D = some (.lst ys) → ImL H2 (linesAt j w n) ys → Q (.ref D) H2) :
    LcR (gName i) tYes (tTup (tCons tp (tCons (tTup (tCons (tC (.str w)) (tCons (tVar i) tNil))) tNil))) own σ [.int (n : Int)] H1 Q := by
  refine st_lcRange (by omega) fun D H2 nD e2 hD => ?_
  refine ⟨fun k H => ∃ ys, Ex H1 H ∧ H D = some (.lst ys) ∧ ImL H (linesAt j w k) ys, ⟨[], e2, hD, iml_nil⟩, fun k H hk hh => fence_turn (by omega) nD hv hw ht hh, fun H hh => ?_⟩
  obtain ⟨ys, e', hacc, hys⟩ := hh
  exact q D H ys nD e' hacc hys
theorem st_linesL {i n l : Nat} {j : Int} {w : Str} {tp : TE} (h : H1 l = some (.lst ((List.range n).map fun k : Nat => V.int (k : Int)))) (hn : n ≤ 1000) (hv : ∀ v, ((wipe σ own).set i (some v))[i]? = some (some v)) (hw : ∀ v, wipe ((wipe σ own).set i (some v)) own = wipe σ own)
    (ht : ∀ v H (Q : VK), Q (.int j) H → tp ((wipe σ own).set i (some v)) H Q) (q : ∀ D H2 ys, H1 D = none → Ex H1 H2 → H2 D = some (.lst ys) → ImL H2 (linesAt j w n) ys → Q (.ref D) H2) :
    LcL K (gName i) tYes (tTup (tCons tp (tCons (tTup (tCons (tC (.str w)) (tCons (tVar i) tNil))) tNil))) own σ (.ref l) H1 Q := by
  refine st_lcList (SqL.of h) fun D H2 nD e2 hD => ?_
  refine ⟨fun k H => ∃ ys, Ex H1 H ∧ H D = some (.lst ys) ∧ ImL H (linesAt j w k) ys, ⟨[], e2, hD, iml_nil⟩, fun k H hh => ?_, fun k v H hv1 hh => ?_, fun H hh => ?_⟩
  · obtain ⟨_, e', _⟩ := hh
    exact SqL.of (e' _ _ h)
  · have hk : k < n := by
      have := (List.getElem?_eq_some_iff.mp hv1).1
      simpa using this
    have : v = V.int (k : Int) := by
      rw [List.getElem?_map, List.getElem?_range hk] at hv1
      exact (Option.some.inj hv1).symm
    subst this
    exact fence_turn (by omega) nD hv hw ht hh
  · obtain ⟨ys, e', hacc, hys⟩ := hh
    rw [List.length_map, List.length_range] at hys
    exact q D H ys nD e' hacc hys
/-- list(range(n)) -/
def rRg (x : V) (H : Hp) (Q : VK) : Prop := ∃ n : Int, x = .int n ∧ RgOk 0 n ∧ ∀ q, H q = none → Q (.ref q) (upd H q (.lst (rgV 0 n)))
theorem st_lstRg {te : TE} {H : Hp} (h : te σ H fun x H1 => rRg x H1 Q) : tLstRg (tRg1 te) σ H Q := h
theorem st_rg {n : Nat} (hn : n ≤ 1000) (q : ∀ D H2, H1 D = none → Ex H1 H2 → H2 D = some (.lst ((List.range n).map fun k : Nat => V.int (k : Int))) → Q (.ref D) H2) : rRg (.int (n : Int)) H1 Q := by
  refine ⟨(n : Int), rfl, RgOk.of_le (by omega) (by omega) (by omega) (by omega), fun D nD => q D _ nD (Ex.new nD) ?_⟩
  rw [upd_same]
  unfold rgV
  simp
end
/-- for i, x in enumerate(t), t any expression -/
def EnT (K : PySem.W.Frag) (g : TG) (tb : TS) (D : Ends) (σ : L2.St) (us : List V) (H1 : Hp) : Prop := ∃ a xs, us = [.ref a] ∧ SqT K H1 a xs ∧ ∃ W : Nat → Nat → L2.St → Hp → Prop, (∃ m, W 0 m σ H1) ∧ ∀ i m σ H, W i m σ H →
  ((ItT K a).stop i H ∧ D.nx σ H) ∨ ((ItT K a).go i H ∧ ∃ N : L2.St → Hp → Prop, (∀ σ' H', N σ' H' → ∃ m', m' < m ∧ W (i + 1) m' σ' H') ∧ ∀ x H', (ItT K a).yld i H x H' → g x σ H' fun σ2 H2 => tb { D with nx := N, ct := N, bk := D.nx } σ2 H2)
section
variable {K : PySem.W.Frag} {σ : L2.St} {H H0 : Hp} {D : Ends} {x : V} {ds : List PyData} {tb : TS}
theorem st_wET {ta : TA} {g : TG} (h : ta σ H fun us H1 => EnT K g tb D σ us H1) : tFor (iEnumT K ta) g tb D σ H := h
theorem st_walkET {m1 m2 : Nat} (h : Im H0 (.tuple ds) x) (k : Kp H0 H) (Pv : Nat → L2.St → Hp → Prop) (h0 : Pv 0 σ H) (kp0 : ∀ m σ' H', Pv m σ' H' → Kp H0 H')
    (hs : ∀ (m : Nat) d v σ' H' H'', ds[m]? = some d → Pv m σ' H' → Ex H' H'' → Im H'' d v → tb { D with nx := Pv (m + 1), ct := Pv (m + 1), bk := D.nx } ((σ'.set m1 (some (.int (m : Int)))).set m2 (some v)) H'')
    (hd : ∀ σ' H', Pv ds.length σ' H' → D.nx σ' H') : EnT K (gTup K 2 (gCons (gName m1) (gCons (gName m2) gNil))) tb D σ [x] H := by
  obtain ⟨a, xs, rfl, g1, h2⟩ := h.tup
  refine ⟨a, xs, rfl, SqT.of (k a xs g1), for_it (walk_enumT (K := K) (a := a) (xs := xs)) Pv h0 (fun m σ' H' _ p => SqT.of (kp0 m σ' H' p a xs g1)) (fun m v σ' H' H'' hlt p y => ?_) fun σ' H' p => hd σ' H' (h2.length ▸ p)⟩
  obtain ⟨T, y1, y2, rfl, f, rfl, ee1, e2⟩ := y
  have ee1' : y1 = .int (m : Int) := (Option.some.inj ee1).symm
  subst ee1'
  obtain ⟨d, g1, g2⟩ := h2.get' e2
  refine ⟨T, [.int (m : Int), y2], rfl, SqT.of upd_same, rfl, _, [y2], rfl, y2, [], rfl, rfl, ?_⟩
  exact hs m d y2 σ' H' _ g1 p (Ex.new f) (g2.kp ((kp0 m σ' H' p).trans (Ex.new f).kp))
end
/-! ### the whole board -/
def fullB (b : Bd) : Bd := ⟨b.mem, b.ords, fullP (b.mem.length / 4) b.prog⟩
theorem tame_split {n : Nat} {p : List Deed} {P : Deed → Prop} (h1 : ∀ d ∈ p, P d) (h2 : P .wait) (h3 : ∀ l < n, P (.clean l) ∧ P (.drop l)) : ∀ d ∈ fullP n p, P d := by
  intro d hd
  obtain ⟨e, he, hd⟩ := List.mem_flatMap.mp hd
  split at hd
  · rcases List.mem_append.mp hd with hd | hd
    · obtain ⟨l, hl, rfl⟩ := List.mem_map.mp hd
      exact (h3 l (List.mem_range.mp hl)).1
    · rcases List.mem_cons.mp hd with rfl | hd
      · exact h1 _ he
      · rcases List.mem_cons.mp hd with rfl | hd
        · exact h2
        · obtain ⟨l, hl, rfl⟩ := List.mem_map.mp hd
          exact (h3 l (List.mem_range.mp hl)).2
  · rw [List.mem_singleton.mp hd]
    exact h1 _ he
theorem full_starts (n : Nat) : ∀ p : List Deed, (fullP n p).filter Deed.isStart = p.filter Deed.isStart
  | [] => rfl
  | d :: r => by
    have c1 : ∀ ls : List Nat, (ls.map Deed.clean).filter Deed.isStart = [] := fun ls => by
      rw [List.filter_map]
      simp [Function.comp_def, Deed.isStart]
    have c2 : ∀ ls : List Nat, (ls.map Deed.drop).filter Deed.isStart = [] := fun ls => by
      rw [List.filter_map]
      simp [Function.comp_def, Deed.isStart]
    show ((if d.isStart then cleans n ++ d :: drops n else [d]) ++ fullP n r).filter Deed.isStart = _
    rw [List.filter_append, full_starts n r]
    cases hs : d.isStart with
    | true =>
      rw [if_pos rfl, List.filter_append, cleans, c1, List.filter_cons, hs, if_pos rfl, drops, List.filter_cons, if_neg (by simp [Deed.isStart]), c2, List.filter_cons, hs]
      simp
    | false =>
      rw [if_neg (by simp), List.filter_cons, hs, List.filter_cons, hs]
      simp
theorem full_len (n : Nat) : ∀ p : List Deed, (fullP n p).length = p.length + (p.filter Deed.isStart).length * (2 * n + 1)
  | [] => by simp [fullP]
  | d :: r => by
    show ((if d.isStart then cleans n ++ d :: drops n else [d]) ++ fullP n r).length = _
    rw [List.length_append, full_len n r, List.filter_cons]
    cases hs : d.isStart with
    | true =>
      rw [if_pos rfl, if_pos rfl, List.length_append, cleans, drops, List.length_cons, List.length_cons, List.length_cons, List.length_map, List.length_map, List.length_range, List.length_cons, Nat.add_mul]
      omega
    | false =>
      rw [if_neg (by simp), if_neg (by simp), List.length_cons, List.length_cons, List.length_nil]
      omega
theorem around_starts (n : Nat) (p : List Deed) : ∀ m : Nat, m ≤ p.length → (fullyTo n p m).length = ((p.take m).filter Deed.isStart).length * (2 * n + 1)
  | 0, _ => by simp [fullyTo]
  | m + 1, h => by
    have e : p[m]? = some p[m] := List.getElem?_eq_getElem (by omega)
    have eg : goesAt p m = p[m].isStart := by
      unfold goesAt
      rw [e]
    rw [fullyTo_succ, List.length_append, around_starts n p m (by omega), List.take_add_one, e, around_goes, eg, Option.toList_some, List.filter_append, List.length_append, Nat.add_mul]
    cases hs : p[m].isStart with
    | true =>
      rw [if_pos rfl, List.filter_cons, hs]
      simp [ahead, behind]
      omega
    | false =>
      rw [if_neg (by simp), List.filter_cons, hs]
      simp
theorem fully_count {b : Bd} (g : Good b) : (fullyOf (b.mem.length / 4) b.prog).length ≤ 27 := by
  have h1 := g.starts
  have h2 := g.lines
  rw [fullyOf, around_starts _ _ _ (Nat.le_refl _), List.take_length]
  exact Nat.le_trans (Nat.mul_le_mul h1 (show 2 * (b.mem.length / 4) + 1 ≤ 9 by omega)) (by omega)
theorem full_good {b : Bd} (g : Good b) (h : b.prog.length ≤ 33) : Good (fullB b) := by
  have h1 := g.starts
  have h2 := g.lines
  refine ⟨g.four, g.lines, g.digits, g.ords, g.ordsOk, ?_, ?_, ?_⟩
  · show (fullP _ _).length ≤ 60
    rw [full_len]
    have := Nat.mul_le_mul h1 (show 2 * (b.mem.length / 4) + 1 ≤ 9 by omega)
    omega
  · exact tame_split g.deeds trivial fun l hl => ⟨hl, hl⟩
  · show ((fullP _ _).filter Deed.isStart).length ≤ 3
    rw [full_starts]
    exact h1
theorem fully_ok {b : Bd} (f : RF) (hf : f ∈ (fullyOf (b.mem.length / 4) b.prog).map TF.raw) : fenceOk b.raw f = true := by
  obtain ⟨t, ht, rfl⟩ := List.mem_map.mp hf
  obtain ⟨j, hj, ht⟩ := List.mem_flatMap.mp ht
  have hj' := List.mem_range.mp hj
  rw [around_goes] at ht
  have hn : b.raw.prog.length = b.prog.length := List.length_map _
  unfold fenceOk
  rw [hn]
  split at ht
  · rcases List.mem_append.mp ht with ht | ht
    · obtain ⟨l, hl, rfl⟩ := List.mem_map.mp ht
      have hl' := List.mem_range.mp hl
      rw [Bool.and_eq_true, Bool.and_eq_true, decide_eq_true_eq, decide_eq_true_eq]
      refine ⟨⟨by show (0 : Int) ≤ (j : Int); omega, by show (j : Int) ≤ _; omega⟩, .inr (.inl rfl), deedOk_raw (d := .clean l) hl'⟩
    · rcases List.mem_cons.mp ht with rfl | ht
      · rw [Bool.and_eq_true, Bool.and_eq_true, decide_eq_true_eq, decide_eq_true_eq]
        refine ⟨⟨by show (0 : Int) ≤ ((j + 1 : Nat) : Int); omega, by show ((j + 1 : Nat) : Int) ≤ _; omega⟩, .inl rfl, deedOk_raw (d := .wait) trivial⟩
      · obtain ⟨l, hl, rfl⟩ := List.mem_map.mp ht
        have hl' := List.mem_range.mp hl
        rw [Bool.and_eq_true, Bool.and_eq_true, decide_eq_true_eq, decide_eq_true_eq]
        refine ⟨⟨by show (0 : Int) ≤ ((j + 1 : Nat) : Int); omega, by show ((j + 1 : Nat) : Int) ≤ _; omega⟩, .inr (.inr rfl), deedOk_raw (d := .drop l) hl'⟩
  · cases ht
theorem full_raw (b : Bd) : (⟨b.raw.mem, b.raw.ords, putIn b.raw.prog ((fullyOf (b.mem.length / 4) b.prog).map TF.raw)⟩ : RB) = (fullB b).raw := by
  show (⟨b.mem, b.ords.map Ord.raw, putIn (b.prog.map Deed.raw) _⟩ : RB) = ⟨b.mem, b.ords.map Ord.raw, (fullP _ b.prog).map Deed.raw⟩
  rw [putIn_raw, put_full]
theorem full_plain (b : Bd) : plainOf (fullB b) = plainOf b := by
  unfold plainOf fullB
  show (fullP (b.mem.length / 4) b.prog).foldl (PS.deed b.ords) (PS.init b.mem) = _
  generalize b.mem.length / 4 = n
  generalize PS.init b.mem = S
  have c1 : ∀ (ls : List Nat) (S : PS), (ls.map Deed.clean).foldl (PS.deed b.ords) S = S := fun ls => by
    induction ls with
    | nil => intro S; rfl
    | cons l ls ih => intro S; exact ih S
  have c2 : ∀ (ls : List Nat) (S : PS), (ls.map Deed.drop).foldl (PS.deed b.ords) S = S := fun ls => by
    induction ls with
    | nil => intro S; rfl
    | cons l ls ih => intro S; exact ih S
  induction b.prog generalizing S with
  | nil => rfl
  | cons d r ih =>
    show ((if d.isStart then cleans n ++ d :: drops n else [d]) ++ fullP n r).foldl (PS.deed b.ords) S = _
    rw [List.foldl_append, ih]
    cases hs : d.isStart with
    | true =>
      rw [if_pos rfl, List.foldl_append, cleans, c1, List.foldl_cons, drops, List.foldl_cons, c2]
      rfl
    | false => rfl
def ks9 : List Str := ["set", "set", "add", "say", "say", "start", "start", "wait", "clean"]
theorem tame_drawn {bd : Bd} (h : ∀ d ∈ bd.prog, d.raw.1 ∈ ks9 ∨ ∃ c, d = .say c) : ∀ d ∈ bd.prog, tame d = true := by
  intro d hd
  rcases h d hd with h | ⟨c, rfl⟩
  · cases d with
    | drop l =>
      have : ∀ s ∈ ks9, s ≠ ("drop" : Str) := by decide +kernel
      exact absurd rfl (this _ h)
    | _ => rfl
  · rfl
theorem al_deed {n : Nat} (d : Deed) : Al (n + 1) (pyDeed d.raw) := by
  have w : ∀ s ∈ [("set" : Str), "add", "say", "start", "wait", "clean", "drop"], PyData.strOk s = true := by decide +kernel
  have hs : PyData.strOk d.raw.1 = true := w _ (by cases d <;> simp [Deed.raw])
  have hl : d.raw.2.length ≤ 2 := by cases d <;> simp [Deed.raw]
  refine al_tup (by simp; omega) fun e he => ?_
  rcases List.mem_cons.mp he with rfl | he
  · exact al_str hs
  · exact al_ints e he
theorem al_tfs {n : Nat} {fs : List TF} (h : fs.length ≤ 100000) : Al (n + 3) (.list ((fs.map TF.raw).map pyF)) := by
  refine al_lst (by rw [List.length_map, List.length_map]; omega) fun d hd => ?_
  rw [List.map_map] at hd
  obtain ⟨f, _, rfl⟩ := List.mem_map.mp hd
  refine al_tup (by simp) fun e he => ?_
  simp only [List.mem_cons, List.not_mem_nil, or_false] at he
  rcases he with rfl | rfl
  · exact al_int
  · exact al_deed f.2
theorem al_board {n : Nat} {b : Bd} (g : Good b) : Al (n + 3) (pyB b.raw) := by
  have h1 := g.lines
  have h2 := g.ords
  have h3 := g.len
  refine al_tup (by simp) fun e he => ?_
  simp only [List.mem_cons, List.not_mem_nil, or_false] at he
  rcases he with rfl | rfl | rfl
  · exact al_tup (by rw [List.length_map]; show b.mem.length ≤ _; omega) al_ints
  · refine al_tup (by rw [List.length_map, List.length_map]; omega) fun d hd => ?_
    obtain ⟨o, _, rfl⟩ := List.mem_map.mp hd
    refine al_tup (by simp) fun e he => ?_
    simp only [List.mem_cons, List.not_mem_nil, or_false] at he
    rcases he with rfl | rfl | rfl | rfl
    · exact al_int
    · exact al_int
    · exact al_int
    · exact al_opt
  · refine al_tup (by rw [List.length_map, List.length_map]; omega) fun d hd => ?_
    rw [List.map_map] at hd
    obtain ⟨d, _, rfl⟩ := List.mem_map.mp hd
    exact al_deed d
/-- [row[2:] for row in rows if row[1] == w] -/
theorem st_col {K : PySem.W.Frag} {σ : L2.St} {H1 : Hp} {Q : VK} {l : Addr} {i : Nat} {own : List Nat} {rs : List Row} {xs : List V} {w : Str} (h : H1 l = some (.lst xs)) (hi : ImL H1 (rs.map pyRow) xs) (hn : rs.length ≤ 50000)
    (hv : ∀ v, ((wipe σ own).set i (some v))[i]? = some (some v)) (hw : ∀ v, wipe ((wipe σ own).set i (some v)) own = wipe σ own)
    (q : ∀ D H2 ys, H1 D = none → Ex H1 H2 → H2 D = some (.lst ys) → ImL H2 ((colOf w rs).map pySeen) ys → Q (.ref D) H2) :
    LcL K (gName i) (tTest (tOp rEq (tOp (rIxT K) (tVar i) (tC (.int 1))) (tC (.str w)))) (L2.tSl (rSlA K) (tVar i) (tPart (tC (.int 2))) tNoPart) own σ (.ref l) H1 Q := by
  refine st_lcList (SqL.of h) fun D H2 nD e2 hD => ?_
  refine ⟨fun j H' => ∃ ys, Ex H1 H' ∧ H' D = some (.lst ys) ∧ ImL H' ((colOf w (rs.take j)).map pySeen) ys, ⟨[], e2, hD, iml_nil⟩, fun j H' hh => ?_, fun j v H' hv1 hh => ?_, fun H' hh => ?_⟩
  · obtain ⟨_, e', _⟩ := hh
    exact SqL.of (e' _ _ h)
  · obtain ⟨ys, e', hacc, hys⟩ := hh
    obtain ⟨dd, g1, g2⟩ := hi.get' hv1
    obtain ⟨r, g3, rfl⟩ := map_at' g1
    refine st_name ⟨hw v, ?_⟩
    have g2' := g2.ex e'
    refine st_test (st_op (st_op (st_var (hv v) (st_c ?_))))
    refine st_ixT_str g2' (Kp.refl _) (atI_nat (j := 1) rfl) ?_
    refine st_c (st_eqS (st_bl ?_))
    have ht : rs.take (j + 1) = rs.take j ++ [r] := by rw [List.take_add_one, g3]; rfl
    have hone : colOf w [r] = if r.2.1 = w then [r.2.2] else [] := by
      unfold colOf
      by_cases hs : r.2.1 = w
      · rw [List.filter_cons, if_pos (decide_eq_true hs), if_pos hs]
        rfl
      · rw [List.filter_cons, if_neg (by simpa using hs), if_neg hs]
        rfl
    refine st_D (fun hs => ?_) (fun hs => ?_)
    · refine st_sl (st_var (hv v) (st_part (st_c (st_pint (st_npart ?_)))))
      refine st_slFrom (k := 2) g2' (Kp.refl _) (by simp) fun v3 H3 e3 i3 => ?_
      have hl : ys.length ≤ rs.length := by
        rw [hys.length, List.length_map]
        unfold colOf
        rw [List.length_map]
        exact Nat.le_trans (List.length_filter_le _ _) (by rw [List.length_take]; omega)
      refine st_lcPut (e3 _ _ hacc) (by omega) fun H5 f5 k5 h5 => ?_
      refine ⟨_, Fr.ex (e'.trans e3) (fun a ha => by rw [List.mem_singleton.mp ha]; exact nD) f5, h5, ?_⟩
      rw [ht, colOf_append, hone, if_pos hs, List.map_append]
      exact ((hys.ex e3).kp k5).append (iml_cons (i3.kp k5) iml_nil)
    · refine ⟨ys, e', hacc, ?_⟩
      rw [ht, colOf_append, hone, if_neg hs, List.append_nil]
      exact hys
  · obtain ⟨ys, e', hacc, hys⟩ := hh
    rw [hi.length, List.length_map, List.take_length] at hys
    exact q D H' ys nD e' hacc hys
theorem st_neSeens {K : PySem.W.Frag} {H : Hp} {Q : VK} {a b : Addr} {xs ys : List V} {ss : List (Nat × Int)} (ha : H a = some (.lst xs)) (hx : ImL H (ss.map pySeen) xs) (hb : H b = some (.lst ys)) (hy : ImL H (ss.map pySeen) ys) (q : Q (.bl false) H) : rNeD K (.ref a) (.ref b) H Q := by
  have sh : Sh 2 (.list (ss.map pySeen)) := sh_lst fun d hd => by
    obtain ⟨s, _, rfl⟩ := List.mem_map.mp hd
    exact sh_seen (n := 0) s
  refine st_neD (lst_dp ha hx) (lst_dp hb hy) sh.shaped sh.shaped ?_
  rw [eqv_same sh]
  exact q
theorem st_neInts {K : PySem.W.Frag} {H : Hp} {Q : VK} {a b : Addr} {m : List Int} (ha : H a = some (.lst (m.map V.int))) (hb : H b = some (.lst (m.map V.int))) (q : Q (.bl false) H) : rNeD K (.ref a) (.ref b) H Q :=
  st_neMem ha hb (by rw [decide_eq_true rfl]; exact q)
end BC
/-! BCRows: all fences that a board may have; rows of them; boards with fences. -/
namespace BC
open PySem PySem.Spec PyProof.Rows L2
/-- fences as data -/
def pyTFs (fs : List TF) : List PyData := (fs.map TF.raw).map pyF
theorem pyTFs_append (a c : List TF) : pyTFs (a ++ c) = pyTFs a ++ pyTFs c := by
  unfold pyTFs
  rw [List.map_append, List.map_append]
theorem pyTFs_len (a : List TF) : (pyTFs a).length = a.length := by
  unfold pyTFs
  rw [List.length_map, List.length_map]
theorem pyTFs_at {a : List TF} {i : Nat} {d : PyData} (h : (pyTFs a)[i]? = some d) : ∃ f, a[i]? = some f ∧ d = pyF (TF.raw f) := by
  obtain ⟨r, h1, rfl⟩ := map_at' h
  obtain ⟨f, h2, rfl⟩ := map_at' h1
  exact ⟨f, h2, rfl⟩
/-- the deeds that are fences -/
def kindsTo (n : Nat) : List Deed := .wait :: (List.range n).flatMap fun l => [.clean l, .drop l]
theorem kindsTo_succ (n : Nat) : kindsTo (n + 1) = kindsTo n ++ [.clean n, .drop n] := by
  unfold kindsTo
  rw [List.range_succ, List.flatMap_append]
  simp
theorem kindsTo_len (n : Nat) : (kindsTo n).length = 2 * n + 1 := by
  induction n with
  | zero => rfl
  | succ n ih =>
    rw [kindsTo_succ, List.length_append, ih]
    simp
    omega
theorem kindsTo_ok {n : Nat} {d : Deed} (h : d ∈ kindsTo n) : d = .wait ∨ (∃ l, l < n ∧ d = .clean l) ∨ ∃ l, l < n ∧ d = .drop l := by
  unfold kindsTo at h
  rcases List.mem_cons.mp h with rfl | h
  · exact .inl rfl
  · obtain ⟨l, hl, h⟩ := List.mem_flatMap.mp h
    have hl' := List.mem_range.mp hl
    simp only [List.mem_cons, List.not_mem_nil, or_false] at h
    rcases h with rfl | rfl
    · exact .inr (.inl ⟨l, hl', rfl⟩)
    · exact .inr (.inr ⟨l, hl', rfl⟩)
def placeF (n i : Nat) : List TF := (kindsTo n).map fun d => (i, d)
/-- all fences, by places -/
def allTo (n m : Nat) : List TF := (List.range m).flatMap (placeF n)
theorem allTo_succ (n m : Nat) : allTo n (m + 1) = allTo n m ++ placeF n m := by
  unfold allTo
  rw [List.range_succ, List.flatMap_append]
  simp
theorem allTo_len (n m : Nat) : (allTo n m).length = m * (2 * n + 1) := by
  induction m with
  | zero => simp [allTo]
  | succ m ih => rw [allTo_succ, List.length_append, ih, placeF, List.length_map, kindsTo_len, Nat.add_mul m 1, Nat.one_mul]
theorem allTo_mem {n m : Nat} {f : TF} : f ∈ allTo n m ↔ f.1 < m ∧ f.2 ∈ kindsTo n := by
  unfold allTo placeF
  constructor
  · intro h
    obtain ⟨i, hi, h⟩ := List.mem_flatMap.mp h
    obtain ⟨d, hd, rfl⟩ := List.mem_map.mp h
    exact ⟨List.mem_range.mp hi, hd⟩
  · rintro ⟨h1, h2⟩
    exact List.mem_flatMap.mpr ⟨f.1, List.mem_range.mpr h1, List.mem_map.mpr ⟨f.2, h2, rfl⟩⟩
/-- a fence may stand behind a row -/
def okNext (row : List TF) (f : TF) : Bool := match row.getLast? with
  | none => true
  | some g => decide (g.1 ≤ f.1)
def stepRows (fs : List TF) (row : List TF) : List (List TF) := (fs.filter (okNext row)).map fun f => row ++ [f]
def rowsOf (fs : List TF) : Nat → List (List TF)
  | 0 => [[]]
  | m + 1 => (rowsOf fs m).flatMap (stepRows fs)
theorem rowsOf_mem {fs : List TF} : ∀ {m : Nat} {row : List TF}, row ∈ rowsOf fs m → row.length = m ∧ ∀ f ∈ row, f ∈ fs
  | 0, row, h => by
    rw [List.mem_singleton.mp h]
    simp
  | m + 1, row, h => by
    obtain ⟨r, hr, h⟩ := List.mem_flatMap.mp h
    obtain ⟨f, hf, rfl⟩ := List.mem_map.mp h
    obtain ⟨h1, h2⟩ := rowsOf_mem hr
    refine ⟨by simp [h1], fun g hg => ?_⟩
    rcases List.mem_append.mp hg with hg | hg
    · exact h2 g hg
    · rw [List.mem_singleton.mp hg]
      exact (List.mem_filter.mp hf).1
theorem flatMap_len {α β : Type} (f : α → List β) (k : Nat) : ∀ l : List α, (∀ x ∈ l, (f x).length ≤ k) → (l.flatMap f).length ≤ l.length * k
  | [], _ => by simp
  | x :: l, h => by
    rw [List.flatMap_cons, List.length_append, List.length_cons, Nat.succ_mul]
    have := h x List.mem_cons_self
    have := flatMap_len f k l fun y hy => h y (List.mem_cons_of_mem _ hy)
    omega
theorem stepRows_len (fs row : List TF) : (stepRows fs row).length ≤ fs.length := by
  unfold stepRows
  rw [List.length_map]
  exact List.length_filter_le _ _
theorem rowsOf_len (fs : List TF) : ∀ m : Nat, (rowsOf fs m).length ≤ fs.length ^ m
  | 0 => by simp [rowsOf]
  | m + 1 => by
    rw [Nat.pow_succ]
    exact Nat.le_trans (flatMap_len _ fs.length _ fun x _ => stepRows_len _ _) (Nat.mul_le_mul_right _ (rowsOf_len fs m))
theorem rowsOf_small {fs : List TF} {m : Nat} (h : fs.length ≤ 100) (hm : m ≤ 2) : (rowsOf fs m).length ≤ 10000 :=
  Nat.le_trans (rowsOf_len fs m) (Nat.le_trans (Nat.pow_le_pow_left h m) (Nat.le_trans (Nat.pow_le_pow_right (by decide) hm) (by decide)))
/-! ### rows at the heap -/
/-- lists that hold rows, each one new since H0 -/
inductive RowsR (H0 H : Hp) : List V → List (List TF) → Prop
  | nil : RowsR H0 H [] []
  | cons {a : Addr} {ys : List V} {row : List TF} {xs : List V} {rows : List (List TF)} (h1 : H0 a = none) (h2 : H a = some (.lst ys)) (h3 : ImL H (pyTFs row) ys) (h4 : RowsR H0 H xs rows) : RowsR H0 H (.ref a :: xs) (row :: rows)
section
variable {H0 H1 H H2 : Hp} {xs : List V} {rows : List (List TF)}
theorem RowsR.keep {l : Addr} {o : HO} (h : RowsR H0 H xs rows) (f : Fr [l] H H2) (k : Kp H H2) (hl : H0 l = some o) : RowsR H0 H2 xs rows := by
  induction h with
  | nil => exact .nil
  | @cons a ys row xs rows h1 h2 h3 h4 ih =>
    refine .cons h1 (f _ _ h2 ?_) (h3.kp k) ih
    have : a ≠ l := fun z => by
      rw [z, hl] at h1
      cases h1
    simpa using this
theorem RowsR.ex (h : RowsR H0 H xs rows) (e : Ex H H2) : RowsR H0 H2 xs rows := by
  induction h with
  | nil => exact .nil
  | cons h1 h2 h3 h4 ih => exact .cons h1 (e _ _ h2) (h3.ex e) ih
theorem RowsR.since (h : RowsR H1 H xs rows) (e : Ex H0 H1) : RowsR H0 H xs rows := by
  induction h with
  | nil => exact .nil
  | cons h1 h2 h3 h4 ih => exact .cons (e.free h1) h2 h3 ih
theorem RowsR.len (h : RowsR H0 H xs rows) : xs.length = rows.length := by
  induction h with
  | nil => rfl
  | cons h1 h2 h3 h4 ih => simp [ih]
theorem RowsR.snoc (h : RowsR H0 H xs rows) {a : Addr} {ys : List V} {row : List TF} (h1 : H0 a = none) (h2 : H a = some (.lst ys)) (h3 : ImL H (pyTFs row) ys) : RowsR H0 H (xs ++ [.ref a]) (rows ++ [row]) := by
  induction h with
  | nil => exact .cons h1 h2 h3 .nil
  | cons g1 g2 g3 g4 ih => exact .cons g1 g2 g3 ih
theorem RowsR.at (h : RowsR H0 H xs rows) {i : Nat} {v : V} (e : xs[i]? = some v) : ∃ a ys row, v = .ref a ∧ H0 a = none ∧ H a = some (.lst ys) ∧ ImL H (pyTFs row) ys ∧ rows[i]? = some row := by
  induction h generalizing i with
  | nil => simp at e
  | @cons a ys row xs rows h1 h2 h3 h4 ih =>
    cases i with
    | zero =>
      simp at e
      exact ⟨a, ys, row, e.symm, h1, h2, h3, by simp⟩
    | succ i =>
      obtain ⟨a', ys', row', g1, g2, g3, g4, g5⟩ := ih (i := i) (by simpa using e)
      exact ⟨a', ys', row', g1, g2, g3, g4, by simpa using g5⟩
end
def RowsAt (H H' : Hp) (l : Addr) (rows : List (List TF)) : Prop := H l = none ∧ Ex H H' ∧ ∃ xs, H' l = some (.lst xs) ∧ RowsR H H' xs rows
/-! ### data in lists -/
theorem sh_deedR {n : Nat} (d : Deed) : Sh (n + 1) (pyDeed d.raw) := by
  have w : ∀ s ∈ [("set" : Str), "add", "say", "start", "wait", "clean", "drop"], PyData.strOk s = true := by decide +kernel
  have hs : PyData.strOk d.raw.1 = true := w _ (by cases d <;> simp [Deed.raw])
  refine sh_tup fun e he => ?_
  rcases List.mem_cons.mp he with rfl | he
  · exact sh_str hs
  · exact sh_ints e he
theorem sh_tfs {n : Nat} {fs : List TF} : Sh (n + 3) (.list (pyTFs fs)) := by
  refine sh_lst fun d hd => ?_
  unfold pyTFs at hd
  rw [List.map_map] at hd
  obtain ⟨f, _, rfl⟩ := List.mem_map.mp hd
  refine sh_tup fun e he => ?_
  simp only [List.mem_cons, List.not_mem_nil, or_false] at he
  rcases he with rfl | rfl
  · exact sh_int
  · exact sh_deedR f.2
theorem st_eqTfs {K : PySem.W.Frag} {H : Hp} {Q : VK} {a b : Addr} {xs : List V} {fs : List TF} (ha : H a = some (.lst xs)) (hi : ImL H (pyTFs fs) xs) (hb : H b = some (.lst [])) (q : Q (.bl fs.isEmpty) H) : rEqD K (.ref a) (.ref b) H Q := by
  refine st_eqD (lst_dp ha hi) (lst_dp hb iml_nil) (sh_tfs (n := 0)).shaped sh_lnil ?_
  rw [eqv_lnil, show (pyTFs fs).isEmpty = fs.isEmpty by cases fs <;> rfl]
  exact q
theorem atI_last {α : Type} {xs : List α} {x : α} (h : xs.getLast? = some x) : atI xs (-1) = some x := by
  unfold atI ixN
  cases xs with
  | nil => cases h
  | cons y ys =>
    rw [List.getLast?_eq_getElem?] at h
    rw [if_neg (by decide), if_pos (by simp only [List.length_cons]; omega)]
    show (y :: ys)[_]? = _
    rw [← h]
    congr 1
    simp only [List.length_cons]
    omega
theorem ImL.last {H : Hp} {ds : List PyData} {xs : List V} {d : PyData} (h : ImL H ds xs) (e : ds.getLast? = some d) : ∃ v, xs.getLast? = some v ∧ Im H d v := by
  rw [List.getLast?_eq_getElem?] at e
  obtain ⟨v, g1, g2⟩ := h.get e
  exact ⟨v, by rw [List.getLast?_eq_getElem?, h.length]; exact g1, g2⟩
/-! ### boards with fences -/
def withB (b : Bd) (fs : List TF) : Bd := ⟨b.mem, b.ords, putT b.prog fs (b.prog.length + 1)⟩
theorem with_raw (b : Bd) (fs : List TF) : (⟨b.raw.mem, b.raw.ords, putIn b.raw.prog (fs.map TF.raw)⟩ : RB) = (withB b fs).raw := by
  show (⟨b.mem, b.ords.map Ord.raw, putIn (b.prog.map Deed.raw) _⟩ : RB) = ⟨b.mem, b.ords.map Ord.raw, (putT b.prog fs _).map Deed.raw⟩
  rw [putIn_raw]
theorem at_split (fs : List TF) (n : Nat) : (atT fs n).length + (fs.filter fun f => decide (n + 1 ≤ f.1)).length = (fs.filter fun f => decide (n ≤ f.1)).length := by
  unfold atT
  rw [List.length_map]
  induction fs with
  | nil => rfl
  | cons f r ih =>
    rw [List.filter_cons, List.filter_cons, List.filter_cons]
    by_cases h1 : f.1 = n
    · rw [if_pos (decide_eq_true h1), if_neg (by simp; omega), if_pos (decide_eq_true (by omega)), List.length_cons, List.length_cons]
      omega
    · rw [if_neg (by simpa using h1)]
      by_cases h2 : n + 1 ≤ f.1
      · rw [if_pos (decide_eq_true h2), if_pos (decide_eq_true (by omega)), List.length_cons, List.length_cons]
        omega
      · rw [if_neg (by simpa using h2), if_neg (by simp; omega)]
        exact ih
theorem putT_len (p : List Deed) (fs : List TF) : ∀ n : Nat, (putT p fs n).length + (fs.filter fun f => decide (n ≤ f.1)).length ≤ fs.length + min n p.length
  | 0 => by
    have := List.length_filter_le (fun f : TF => decide (0 ≤ f.1)) fs
    show 0 + _ ≤ _
    omega
  | n + 1 => by
    have h1 := putT_len p fs n
    have h2 := at_split fs n
    rw [putT_succ, List.length_append, List.length_append]
    have h3 : p[n]?.toList.length + min n p.length ≤ min (n + 1) p.length := by
      cases e : p[n]? with
      | none =>
        have : p.length ≤ n := by simpa using e
        simp
        omega
      | some d =>
        have : n < p.length := (List.getElem?_eq_some_iff.mp e).1
        simp
        omega
    omega
theorem with_len (b : Bd) (fs : List TF) : (withB b fs).prog.length ≤ b.prog.length + fs.length := by
  have := putT_len b.prog fs (b.prog.length + 1)
  show (putT _ _ _).length ≤ _
  omega
theorem putT_mem {p : List Deed} {fs : List TF} {n : Nat} {d : Deed} (h : d ∈ putT p fs n) : (∃ f ∈ fs, f.2 = d) ∨ d ∈ p := by
  obtain ⟨i, _, h⟩ := List.mem_flatMap.mp h
  rcases List.mem_append.mp h with h | h
  · obtain ⟨f, hf, rfl⟩ := List.mem_map.mp h
    exact .inl ⟨f, (List.mem_filter.mp hf).1, rfl⟩
  · right
    cases e : p[i]? with
    | none =>
      rw [e] at h
      cases h
    | some x =>
      rw [e] at h
      simp at h
      rw [h]
      exact List.mem_of_getElem? e
theorem putT_starts {p : List Deed} {fs : List TF} (hf : ∀ f ∈ fs, f.2.isStart = false) : ∀ n : Nat, (putT p fs n).filter Deed.isStart = (p.take n).filter Deed.isStart
  | 0 => by simp [putT]
  | n + 1 => by
    rw [putT_succ, List.filter_append, List.filter_append, putT_starts hf n, List.take_add_one, List.filter_append]
    have : (atT fs n).filter Deed.isStart = [] := by
      rw [List.filter_eq_nil_iff]
      intro d hd
      obtain ⟨f, h1, rfl⟩ := List.mem_map.mp hd
      rw [hf f (List.mem_filter.mp h1).1]
      simp
    rw [this, List.nil_append]
/-- a fence, as to its deed -/
def fenceD (n : Nat) (d : Deed) : Prop := d = .wait ∨ (∃ l, l < n ∧ d = .clean l) ∨ ∃ l, l < n ∧ d = .drop l
theorem with_good {b : Bd} {fs : List TF} (g : Good b) (hf : ∀ f ∈ fs, fenceD (b.mem.length / 4) f.2) (hl : b.prog.length + fs.length ≤ 60) : Good (withB b fs) := by
  have ns : ∀ f ∈ fs, f.2.isStart = false := fun f h => by
    rcases hf f h with e | ⟨l, _, e⟩ | ⟨l, _, e⟩ <;> rw [e] <;> rfl
  refine ⟨g.four, g.lines, g.digits, g.ords, g.ordsOk, Nat.le_trans (with_len b fs) hl, fun d hd => ?_, ?_⟩
  · rcases putT_mem hd with ⟨f, h1, rfl⟩ | h
    · show f.2.Ok b.mem.length b.ords.length
      rcases hf f h1 with e | ⟨l, h, e⟩ | ⟨l, h, e⟩ <;> rw [e]
      · trivial
      · exact h
      · exact h
    · exact g.deeds d h
  · show ((putT _ _ _).filter _).length ≤ 3
    rw [putT_starts ns, List.take_of_length_le (by omega)]
    exact g.starts
theorem with_few {b : Bd} {fs : List TF} (g : Good b) (hf : ∀ f ∈ fs, fenceD (b.mem.length / 4) f.2) (hl : b.prog.length + fs.length ≤ 17) : Few (withB b fs) 16000000 := by
  have gW := with_good g hf (by omega)
  have h1 := with_len b fs
  refine few_tree gW ?_
  have h2 := moves_all gW
  have h3 : 2 ^ (withB b fs).prog.length ≤ 2 ^ 17 := Nat.pow_le_pow_right (by decide) (by omega)
  have := Nat.mul_le_mul h3 (show (withB b fs).prog.length + ((withB b fs).prog.flatMap (startMoves (withB b fs).ords)).length + 1 ≤ 114 by omega)
  exact Nat.le_trans this (by decide)
theorem all_fence {n m : Nat} {f : TF} (h : f ∈ allTo n m) : fenceD n f.2 := kindsTo_ok (allTo_mem.mp h).2
/-! ### what fewest finds -/
/-- no row of less fences, nor one ahead, does -/
def NoRow (b : Bd) (many : Nat) : Prop := ∀ row ∈ rowsOf (allTo (b.mem.length / 4) (b.prog.length + 1)) many, Bad (withB b row) (MS.init (withB b row))
/-- [(place, deed) for deed in deeds] -/
theorem st_placeF {K : PySem.W.Frag} {σ : L2.St} {H1 : Hp} {Q : VK} {l p i n j : Nat} {own : List Nat} {xs : List V} (h : H1 l = some (.lst xs)) (hi : ImL H1 ((kindsTo n).map fun d => pyDeed d.raw) xs) (hn : n ≤ 100)
    (hv : ∀ v, ((wipe σ own).set i (some v))[i]? = some (some v)) (hp : ∀ v, ((wipe σ own).set i (some v))[p]? = some (some (.int (j : Int)))) (hw : ∀ v, wipe ((wipe σ own).set i (some v)) own = wipe σ own)
    (q : ∀ D H2 ys, H1 D = none → Ex H1 H2 → H2 D = some (.lst ys) → ImL H2 (pyTFs (placeF n j)) ys → Q (.ref D) H2) :
    LcL K (gName i) tYes (tTup (tCons (tVar p) (tCons (tVar i) tNil))) own σ (.ref l) H1 Q := by
  refine st_lcList (SqL.of h) fun D H2 nD e2 hD => ?_
  refine ⟨fun k H' => ∃ ys, Ex H1 H' ∧ H' D = some (.lst ys) ∧ ImL H' (pyTFs ((placeF n j).take k)) ys, ⟨[], e2, hD, iml_nil⟩, fun k H' hh => ?_, fun k v H' hv1 hh => ?_, fun H' hh => ?_⟩
  · obtain ⟨_, e', _⟩ := hh
    exact SqL.of (e' _ _ h)
  · obtain ⟨ys, e', hacc, hys⟩ := hh
    obtain ⟨dd, g1, g2⟩ := hi.get' hv1
    obtain ⟨d, g3, rfl⟩ := map_at' g1
    have hk : k < 2 * n + 1 := by
      have := (List.getElem?_eq_some_iff.mp g3).1
      rw [kindsTo_len] at this
      exact this
    refine st_name ⟨hw v, st_yes (st_T ?_)⟩
    refine st_tup (st_cons (st_var (hp v) (st_cons (st_var (hv v) (st_nil ?_)))))
    refine st_newT (by simp) fun t H3 n3 e3 h3 => ?_
    have hl : ys.length ≤ k := by
      rw [hys.length, pyTFs_len, List.length_take]
      omega
    refine st_lcPut (e3 _ _ hacc) (by omega) fun H5 f5 k5 h5 => ?_
    refine ⟨_, Fr.ex (e'.trans e3) (fun a ha => by rw [List.mem_singleton.mp ha]; exact nD) f5, h5, ?_⟩
    have g4 : (placeF n j)[k]? = some (j, d) := by
      unfold placeF
      rw [List.getElem?_map, g3]
      rfl
    rw [List.take_add_one, g4, Option.toList_some, pyTFs_append]
    exact ((hys.ex e3).kp k5).append (iml_cons (im_tup (k5 _ _ h3) (iml_cons im_int (iml_cons (((g2.ex e').ex e3).kp k5) iml_nil))) iml_nil)
  · obtain ⟨ys, e', hacc, hys⟩ := hh
    rw [hi.length, List.length_map, List.take_of_length_le (by rw [placeF, List.length_map]; exact Nat.le_refl _)] at hys
    exact q D H' ys nD e' hacc hys
end BC
/-! BCDue: what is found amiss: rows of the run, and ends. -/
namespace BC
open PySem PySem.Spec PyProof.Rows L2
theorem found_sub : ∀ (rows : List Row) (S : AS), ∀ r ∈ (rows.foldl AS.step S).found, r ∈ S.found ∨ r ∈ rows
  | [], S, r, h => .inl h
  | x :: rest, S, r, h => by
    rw [List.foldl_cons] at h
    rcases found_sub rest _ r h with h | h
    · unfold AS.step at h
      split at h
      · rcases List.mem_append.mp h with h | h
        · exact .inl h
        · split at h
          · cases h
          · exact .inr (List.mem_singleton.mp h ▸ List.mem_cons_self)
      · split at h
        · rcases List.mem_append.mp h with h | h
          · exact .inl h
          · split at h
            · cases h
            · exact .inr (List.mem_singleton.mp h ▸ List.mem_cons_self)
        · exact .inl h
    · exact .inr (List.mem_cons_of_mem _ h)
theorem amiss_words (b : Bd) (pace : List Bool) : ∀ r ∈ amissOf b pace, PyData.strOk r.2.1 = true := by
  intro r hr
  unfold amissOf at hr
  rcases List.mem_append.mp hr with hr | hr
  · rcases found_sub _ _ r hr with h | h
    · cases h
    · exact gone_rows b pace r h
  · obtain ⟨c, _, hc⟩ := List.mem_flatMap.mp hr
    unfold endRow at hc
    split at hc
    · cases hc
    · rw [List.mem_singleton.mp hc]
      show PyData.strOk "end" = true
      decide +kernel
theorem al_rowsL {n : Nat} {rows : List Row} (h : ∀ r ∈ rows, PyData.strOk r.2.1 = true) (hl : rows.length ≤ 100000) : Al (n + 2) (.list (rows.map pyRow)) := al_lst (by rw [List.length_map]; omega) fun d hd => by
  obtain ⟨r, hr, rfl⟩ := List.mem_map.mp hd
  refine al_tup (by simp) fun e he => ?_
  simp only [List.mem_cons, List.not_mem_nil, or_false] at he
  rcases he with rfl | rfl | rfl | rfl
  · exact al_int
  · exact al_str (h r hr)
  · exact al_int
  · exact al_int
/-- the dict of what is left -/
def dueK (rd ff : Addr) : List (Key × V) := [(.inr "read", .ref rd), (.inr "fetch", .ref ff)]
theorem dueK_read {rd ff : Addr} : valV (dueK rd ff) (.inr "read") = some (.ref rd) := by simp [dueK, valV, List.find?, ofS_inj]
theorem dueK_fetch {rd ff : Addr} : valV (dueK rd ff) (.inr "fetch") = some (.ref ff) := by simp [dueK, valV, List.find?, ofS_inj]
theorem dueK_none {rd ff : Addr} {w : Str} (h1 : w ≠ Str.ofString "read") (h2 : w ≠ Str.ofString "fetch") : valV (dueK rd ff) (.inr w) = none := by
  unfold dueK
  rw [valV_neg (fun z => h1 (Sum.inr.inj z).symm), valV_neg (fun z => h2 (Sum.inr.inj z).symm)]
  rfl
end BC
/-! BCText: boards as texts: words, rows, what a text reads as. -/
namespace BC
open PySem PySem.Spec PyProof.Rows L2 TL
/-! ### words -/
def numS (n : Int) : Str := Str.ofString (toString n)
def optS : Option Int → Str
  | none => "-"
  | some n => numS n
abbrev wMem (m : List Int) : List Str := "memory" :: m.map numS
abbrev wOrd (o : ROrd) : List Str := ["order", numS o.1, numS o.2.1, numS o.2.2.1, optS o.2.2.2]
abbrev wDeed (d : RDeed) : List Str := d.1 :: d.2.map numS
def rowsW (b : RB) : List (List Str) := wMem b.mem :: (b.ords.map wOrd ++ b.prog.map wDeed)
def rowT (ws : List Str) : Str := Txt.join " " ws
def textOf (b : RB) : Str := Txt.join "\n" ((rowsW b).map rowT)
/-! ### signs -/
theorem tl_sp : tl (" " : Str) = [32] := by decide +kernel
theorem tl_nl : tl ("\n" : Str) = [10] := by decide +kernel
theorem joinL_cons (S p : List Nat) : ∀ ps : List (List Nat), joinL S (p :: ps) = p ++ ps.flatMap (S ++ ·)
  | [] => by simp [joinL]
  | q :: r => by
    show p ++ (S ++ joinL S (q :: r)) = _
    rw [joinL_cons S q r, List.flatMap_cons, List.append_assoc]
theorem tl_rowT (w : Str) (ws : List Str) : tl (rowT (w :: ws)) = tl w ++ ws.flatMap fun x => 32 :: tl x := by
  unfold rowT
  rw [join_eq, tl_join, tl_sp, List.map_cons, joinL_cons, List.flatMap_map]
  rfl
theorem tl_rows (p : Str) (ps : List Str) : tl (Txt.join "\n" (p :: ps)) = tl p ++ ps.flatMap fun x => 10 :: tl x := by
  rw [join_eq, tl_join, tl_nl, List.map_cons, joinL_cons, List.flatMap_map]
  rfl
/-- a word that may stand in a row -/
structure OkW (w : Str) : Prop where
  len : w.length ≤ 20
  nl : 10 ∉ tl w
  sp : 32 ∉ tl w
  ok : ∀ c ∈ tl w, c < 1114112
theorem OkW.by {w : Str} (h : (decide (w.length ≤ 20) && (tl w).all fun c => decide (c ≠ 10) && decide (c ≠ 32) && decide (c < 1114112)) = true) : OkW w := by
  simp only [Bool.and_eq_true, decide_eq_true_eq, List.all_eq_true] at h
  exact ⟨h.1, fun z => (h.2 _ z).1.1 rfl, fun z => (h.2 _ z).1.2 rfl, fun c z => (h.2 c z).2⟩
theorem okW_num100 : ∀ n : Nat, n < 100 → (decide ((numS (n : Int)).length ≤ 20) && (tl (numS (n : Int))).all fun c => decide (c ≠ 10) && decide (c ≠ 32) && decide (c < 1114112)) = true := by decide +kernel
/-- a number that a good board holds -/
def Sm (i : Int) : Prop := 0 ≤ i ∧ i < 100
theorem Sm.nat {i : Int} (h : Sm i) : ∃ n : Nat, n < 100 ∧ i = (n : Int) := ⟨i.toNat, by have := h.1; have := h.2; omega, by have := h.1; omega⟩
theorem okW_num {i : Int} (h : Sm i) : OkW (numS i) := by
  obtain ⟨n, hn, rfl⟩ := h.nat
  exact .by (okW_num100 n hn)
theorem okW_opt {o : Option Int} (h : ∀ i, o = some i → Sm i) : OkW (optS o) := by
  cases o with
  | none => exact .by (by decide +kernel)
  | some i => exact okW_num (h i rfl)
theorem okW_memory : OkW "memory" := .by (by decide +kernel)
theorem okW_order : OkW "order" := .by (by decide +kernel)
theorem okW_words : (["set", "add", "say", "start", "wait", "clean", "drop"] : List Str).all (fun w => decide (w.length ≤ 20) && (tl w).all fun c => decide (c ≠ 10) && decide (c ≠ 32) && decide (c < 1114112)) = true := by decide +kernel
theorem okW_deed (d : Deed) : OkW d.raw.1 := .by (List.all_eq_true.mp okW_words _ (by cases d <;> simp [Deed.raw]))
theorem join_len (y : Str) (ps : List Str) : (Txt.join y ps).length ≤ (ps.map (·.length)).sum + ps.length * y.length := by
  rw [join_eq, len_tl, tl_join]
  cases ps with
  | nil => simp [joinL]
  | cons p ps =>
    rw [List.map_cons, joinL_cons, List.length_append, List.map_cons, List.sum_cons, List.length_cons, len_tl p, len_tl y, Nat.succ_mul]
    have : ∀ qs : List Str, ((qs.map tl).flatMap (tl y ++ ·)).length ≤ (qs.map (·.length)).sum + qs.length * (tl y).length := by
      intro qs
      induction qs with
      | nil => simp
      | cons q qs ih =>
        rw [List.map_cons, List.flatMap_cons, List.length_append, List.length_append, List.map_cons, List.sum_cons, List.length_cons, Nat.succ_mul, len_tl q]
        omega
    have := this ps
    omega
theorem sum_le {α : Type} {f : α → Nat} {k : Nat} : ∀ {l : List α}, (∀ x ∈ l, f x ≤ k) → (l.map f).sum ≤ l.length * k
  | [], _ => by simp
  | x :: l, h => by
    rw [List.map_cons, List.sum_cons, List.length_cons, Nat.succ_mul]
    have := sum_le (l := l) fun y hy => h y (List.mem_cons_of_mem _ hy)
    have := h x List.mem_cons_self
    omega
theorem rowT_len {ws : List Str} (h : ∀ w ∈ ws, OkW w) : (rowT ws).length ≤ ws.length * 21 := by
  have h1 := join_len " " ws
  have h2 := sum_le (f := fun w : Str => w.length) (k := 20) (l := ws) fun w hw => (h w hw).len
  have h3 : (" " : Str).length = 1 := by decide +kernel
  rw [h3] at h1
  unfold rowT
  have : (ws.map fun w : Str => w.length) = ws.map (·.length) := rfl
  omega
theorem row_len {ws : List Str} (h : ∀ w ∈ ws, OkW w) : (ws.map (·.length)).sum + ws.length * (" " : Str).length ≤ ws.length * 21 := by
  have h2 := sum_le (f := fun w : Str => w.length) (k := 20) (l := ws) fun w hw => (h w hw).len
  have h3 : (" " : Str).length = 1 := by decide +kernel
  rw [h3]
  omega
theorem rowT_free {ws : List Str} (h : ∀ w ∈ ws, OkW w) : 10 ∉ tl (rowT ws) ∧ ∀ c ∈ tl (rowT ws), c < 1114112 := by
  cases ws with
  | nil => exact ⟨by decide +kernel, by decide +kernel⟩
  | cons w ws =>
    have key : ∀ c ∈ tl (rowT (w :: ws)), c = 32 ∨ ∃ x ∈ w :: ws, c ∈ tl x := fun c hc => by
      rw [tl_rowT] at hc
      rcases List.mem_append.mp hc with hc | hc
      · exact .inr ⟨w, List.mem_cons_self, hc⟩
      · obtain ⟨x, hx, hc⟩ := List.mem_flatMap.mp hc
        rcases List.mem_cons.mp hc with rfl | hc
        · exact .inl rfl
        · exact .inr ⟨x, List.mem_cons_of_mem _ hx, hc⟩
    refine ⟨fun z => ?_, fun c hc => ?_⟩
    · rcases key _ z with z | ⟨x, hx, hc⟩
      · cases z
      · exact (h x hx).nl hc
    · rcases key c hc with rfl | ⟨x, hx, hc⟩
      · decide
      · exact (h x hx).ok c hc
theorem split_row {ws : List Str} (h : ∀ w ∈ ws, OkW w) (hn : ws ≠ []) : Txt.split (rowT ws) " " = ws := split_join tl_sp (by decide +kernel) hn fun w hw => (h w hw).sp
theorem split_rows {ps : List Str} (h : ∀ p ∈ ps, 10 ∉ tl p) (hn : ps ≠ []) : Txt.split (Txt.join "\n" ps) "\n" = ps := split_join tl_nl (by decide +kernel) hn h
/-! ### the numbers of a good board -/
structure SmB (b : RB) : Prop where
  mem : ∀ n ∈ b.mem, Sm n
  ords : ∀ o ∈ b.ords, Sm o.1 ∧ Sm o.2.1 ∧ Sm o.2.2.1 ∧ ∀ i, o.2.2.2 = some i → Sm i
  prog : ∀ d ∈ b.prog, OkW d.1 ∧ (∀ n ∈ d.2, Sm n) ∧ d.2.length ≤ 2
theorem Good.sm {b : Bd} (g : Good b) : SmB b.raw := by
  have h16 : b.mem.length ≤ 19 := by
    have := g.lines
    omega
  have h4 := g.ords
  refine ⟨fun n hn => ?_, fun o ho => ?_, fun d hd => ?_⟩
  · have := g.digits n hn
    exact ⟨this.1, by omega⟩
  · obtain ⟨o, ho', rfl⟩ := List.mem_map.mp ho
    obtain ⟨k, hk⟩ := List.getElem?_of_mem ho'
    obtain ⟨_, h2, h3, h5, h6⟩ := g.ordsOk.ok k o hk
    refine ⟨⟨Int.natCast_nonneg _, by show ((o.src : Nat) : Int) < 100; omega⟩, ⟨Int.natCast_nonneg _, by show ((o.dst : Nat) : Int) < 100; omega⟩, ⟨Int.natCast_nonneg _, by show ((o.many : Nat) : Int) < 100; omega⟩, fun i hi => ?_⟩
    cases hl : o.later with
    | none =>
      have hi : oN o.later = some i := hi
      rw [hl] at hi
      cases hi
    | some m =>
      have hi : oN o.later = some i := hi
      rw [hl] at hi
      cases hi
      have := (h6 m hl).2
      exact ⟨Int.natCast_nonneg _, by omega⟩
  · obtain ⟨d, hd', rfl⟩ := List.mem_map.mp hd
    have hk := g.deeds d hd'
    have hw : OkW d.raw.1 := okW_deed d
    refine ⟨hw, ?_, by cases d <;> simp [Deed.raw]⟩
    cases d with
    | set c n =>
      intro x hx
      have hk : c < b.mem.length ∧ n ≤ 9 := hk
      have hx : x ∈ [(c : Int), (n : Int)] := hx
      simp only [List.mem_cons, List.not_mem_nil, or_false] at hx
      rcases hx with rfl | rfl <;> exact ⟨Int.natCast_nonneg _, by omega⟩
    | add c o =>
      intro x hx
      have hk : c < b.mem.length ∧ o < b.mem.length := hk
      have hx : x ∈ [(c : Int), (o : Int)] := hx
      simp only [List.mem_cons, List.not_mem_nil, or_false] at hx
      rcases hx with rfl | rfl <;> exact ⟨Int.natCast_nonneg _, by omega⟩
    | say c =>
      intro x hx
      have hk : c < b.mem.length := hk
      have hx : x ∈ [(c : Int)] := hx
      simp only [List.mem_cons, List.not_mem_nil, or_false] at hx
      subst hx
      exact ⟨Int.natCast_nonneg _, by omega⟩
    | start k =>
      intro x hx
      have hk : k < b.ords.length := hk
      have hx : x ∈ [(k : Int)] := hx
      simp only [List.mem_cons, List.not_mem_nil, or_false] at hx
      subst hx
      exact ⟨Int.natCast_nonneg _, by omega⟩
    | wait =>
      intro x hx
      have hx : x ∈ ([] : List Int) := hx
      cases hx
    | clean l =>
      intro x hx
      have hk : l < b.mem.length / 4 := hk
      have hx : x ∈ [(l : Int)] := hx
      simp only [List.mem_cons, List.not_mem_nil, or_false] at hx
      subst hx
      exact ⟨Int.natCast_nonneg _, by omega⟩
    | drop l =>
      intro x hx
      have hk : l < b.mem.length / 4 := hk
      have hx : x ∈ [(l : Int)] := hx
      simp only [List.mem_cons, List.not_mem_nil, or_false] at hx
      subst hx
      exact ⟨Int.natCast_nonneg _, by omega⟩
theorem SmB.wm {b : RB} (h : SmB b) : ∀ w ∈ wMem b.mem, OkW w := fun w hw => by
  rcases List.mem_cons.mp hw with rfl | hw
  · exact okW_memory
  · obtain ⟨n, hn, rfl⟩ := List.mem_map.mp hw
    exact okW_num (h.mem n hn)
theorem SmB.wo {b : RB} (h : SmB b) {o : ROrd} (ho : o ∈ b.ords) : ∀ w ∈ wOrd o, OkW w := fun w hw => by
  obtain ⟨h1, h2, h3, h4⟩ := h.ords o ho
  simp only [List.mem_cons, List.not_mem_nil, or_false] at hw
  rcases hw with rfl | rfl | rfl | rfl | rfl
  · exact okW_order
  · exact okW_num h1
  · exact okW_num h2
  · exact okW_num h3
  · exact okW_opt h4
theorem SmB.wd {b : RB} (h : SmB b) {d : RDeed} (hd : d ∈ b.prog) : ∀ w ∈ wDeed d, OkW w := fun w hw => by
  obtain ⟨h1, h2, _⟩ := h.prog d hd
  rcases List.mem_cons.mp hw with rfl | hw
  · exact h1
  · obtain ⟨n, hn, rfl⟩ := List.mem_map.mp hw
    exact okW_num (h2 n hn)
theorem SmB.rows {b : RB} (h : SmB b) : ∀ r ∈ rowsW b, ∀ w ∈ r, OkW w := fun r hr => by
  rcases List.mem_cons.mp hr with rfl | hr
  · exact h.wm
  · rcases List.mem_append.mp hr with hr | hr
    · obtain ⟨o, ho, rfl⟩ := List.mem_map.mp hr
      exact h.wo ho
    · obtain ⟨d, hd, rfl⟩ := List.mem_map.mp hr
      exact h.wd hd
theorem rowsW_len (b : RB) : (rowsW b).length = 1 + b.ords.length + b.prog.length := by
  unfold rowsW
  rw [List.length_cons, List.length_append, List.length_map, List.length_map]
  omega
theorem rowsW_ne {b : RB} : ∀ r ∈ rowsW b, r ≠ [] := fun r hr => by
  rcases List.mem_cons.mp hr with rfl | hr
  · simp
  · rcases List.mem_append.mp hr with hr | hr
    · obtain ⟨o, ho, rfl⟩ := List.mem_map.mp hr
      simp
    · obtain ⟨d, hd, rfl⟩ := List.mem_map.mp hr
      simp
/-- few words in each row -/
theorem SmB.few {b : RB} (h : SmB b) (hm : b.mem.length ≤ 19) : ∀ r ∈ rowsW b, r.length ≤ 20 := fun r hr => by
  rcases List.mem_cons.mp hr with rfl | hr
  · rw [List.length_cons, List.length_map]; omega
  · rcases List.mem_append.mp hr with hr | hr
    · obtain ⟨o, ho, rfl⟩ := List.mem_map.mp hr
      simp
    · obtain ⟨d, hd, rfl⟩ := List.mem_map.mp hr
      rw [List.length_cons, List.length_map]
      have := (h.prog d hd).2.2
      omega
theorem SmB.rowLen {b : RB} (h : SmB b) (hm : b.mem.length ≤ 19) : ∀ p ∈ (rowsW b).map rowT, p.length ≤ 420 := fun p hp => by
  obtain ⟨r, hr, rfl⟩ := List.mem_map.mp hp
  have h1 := rowT_len (h.rows r hr)
  have h2 := h.few hm r hr
  have : r.length * 21 ≤ 20 * 21 := Nat.mul_le_mul_right _ h2
  omega
theorem SmB.joinLen {b : RB} (h : SmB b) (hm : b.mem.length ≤ 19) (hr : (rowsW b).length ≤ 100) : (((rowsW b).map rowT).map (·.length)).sum + ((rowsW b).map rowT).length * ("\n" : Str).length ≤ 50000 := by
  have h2 := sum_le (f := fun w : Str => w.length) (k := 420) (l := (rowsW b).map rowT) (h.rowLen hm)
  have h3 : ("\n" : Str).length = 1 := by decide +kernel
  rw [h3]
  rw [List.length_map] at h2 ⊢
  have : (rowsW b).length * 420 ≤ 100 * 420 := Nat.mul_le_mul_right _ hr
  omega
theorem SmB.textLen {b : RB} (h : SmB b) (hm : b.mem.length ≤ 19) (hr : (rowsW b).length ≤ 100) : (textOf b).length ≤ 50000 := Nat.le_trans (join_len _ _) (h.joinLen hm hr)
theorem SmB.split {b : RB} (h : SmB b) : Txt.split (textOf b) "\n" = (rowsW b).map rowT := split_rows (fun p hp => by
  obtain ⟨r, hr, rfl⟩ := List.mem_map.mp hp
  exact (rowT_free (h.rows r hr)).1) (by unfold rowsW; simp)
theorem SmB.strOk {b : RB} (h : SmB b) : PyData.strOk (textOf b) = true := by
  have key : ∀ c ∈ tl (textOf b), c < 1114112 := by
    unfold textOf rowsW
    rw [List.map_cons, tl_rows]
    intro c hc
    rcases List.mem_append.mp hc with hc | hc
    · exact (rowT_free h.wm).2 c hc
    · obtain ⟨p, hp, hc⟩ := List.mem_flatMap.mp hc
      rcases List.mem_cons.mp hc with rfl | hc
      · decide
      · obtain ⟨r, hr, rfl⟩ := List.mem_map.mp hp
        exact (rowT_free (h.rows r (List.mem_cons_of_mem _ hr))).2 c hc
  unfold PyData.strOk
  rw [← Array.all_toList, List.all_eq_true]
  exact fun c hc => decide_eq_true (key c hc)
/-! ### what a word, a row reads as -/
def fig (c : Nat) : Bool := decide (48 ≤ c) && decide (c ≤ 57)
def numOf (w : Str) : Option Int :=
  if w = "" then none else if 9 < w.length then none else if (tl w).headD 0 = 48 ∧ w ≠ "0" then none else if (tl w).all fig = true then some ((NumText.digitsVal (tl w) : Nat) : Int) else none
theorem numOf_100 : ∀ n : Nat, n < 100 → numOf (numS (n : Int)) = some (n : Int) := by decide +kernel
theorem numOf_num {i : Int} (h : Sm i) : numOf (numS i) = some i := by
  obtain ⟨n, hn, rfl⟩ := h.nat
  exact numOf_100 n hn
theorem numOf_dash : numOf "-" = none := by decide +kernel
theorem numOf_opt {o : Option Int} (h : ∀ i, o = some i → Sm i) : numOf (optS o) = o := by
  cases o with
  | none => exact numOf_dash
  | some i => exact numOf_num (h i rfl)
theorem map_numOf : ∀ {ns : List Int}, (∀ n ∈ ns, Sm n) → (ns.map numS).map numOf = ns.map some
  | [], _ => rfl
  | n :: ns, h => by
    rw [List.map_cons, List.map_cons, List.map_cons, numOf_num (h n List.mem_cons_self), map_numOf fun m hm => h m (List.mem_cons_of_mem _ hm)]
def countsL : List (Str × Int) := [("set", 2), ("add", 2), ("say", 1), ("start", 1), ("wait", 0), ("clean", 1), ("drop", 1)]
def countOf (w : Str) : Int := (countsL.lookup w).getD (-1)
def rowOf (ws : List Str) : Option (Str × List (Option Int)) := match ws with
  | [] => none
  | w :: r =>
    let ns := r.map numOf
    if w = "order" then
      if ns.length ≠ 4 then none else if none ∈ ns.take 3 then none else if ns[3]? = some none ∧ r[3]? ≠ some ("-" : Str) then none else some (w, ns)
    else if none ∈ ns then none else if w ≠ "memory" ∧ countOf w ≠ (ns.length : Int) then none else some (w, ns)
theorem none_some (ns : List Int) : none ∉ ns.map (some : Int → Option Int) := fun h => by
  obtain ⟨_, _, z⟩ := List.mem_map.mp h
  cases z
theorem rowOf_mem {b : RB} (h : SmB b) : rowOf (wMem b.mem) = some (("memory" : Str), b.mem.map some) := by
  unfold rowOf
  simp only [map_numOf h.mem]
  rw [if_neg (by decide), if_neg (none_some _), if_neg (fun z => z.1 rfl)]
theorem rowOf_ord {b : RB} (h : SmB b) {o : ROrd} (ho : o ∈ b.ords) : rowOf (wOrd o) = some (("order" : Str), [some o.1, some o.2.1, some o.2.2.1, o.2.2.2]) := by
  obtain ⟨h1, h2, h3, h4⟩ := h.ords o ho
  unfold rowOf
  simp only [List.map_cons, List.map_nil, numOf_num h1, numOf_num h2, numOf_num h3, numOf_opt h4]
  rw [if_pos trivial, if_neg (by simp), if_neg (by simp), if_neg]
  rintro ⟨z1, z2⟩
  simp only [List.getElem?_cons_succ, List.getElem?_cons_zero, Option.some.injEq] at z1 z2
  rw [z1] at z2
  exact z2 rfl
theorem no_orders : (["set", "add", "say", "start", "wait", "clean", "drop"] : List Str).all (fun w => decide (w ≠ "order") && decide (w ≠ "memory")) = true := by decide +kernel
theorem deed_word (d : Deed) : d.raw.1 ∈ (["set", "add", "say", "start", "wait", "clean", "drop"] : List Str) := by cases d <;> simp [Deed.raw]
theorem no_order (d : Deed) : d.raw.1 ≠ "order" := by
  have := List.all_eq_true.mp no_orders _ (deed_word d)
  rw [Bool.and_eq_true, decide_eq_true_eq] at this
  exact this.1
theorem no_memory (d : Deed) : d.raw.1 ≠ "memory" := by
  have := List.all_eq_true.mp no_orders _ (deed_word d)
  rw [Bool.and_eq_true, decide_eq_true_eq, decide_eq_true_eq] at this
  exact this.2
theorem rowOf_deed {b : Bd} (g : Good b) {d : Deed} (hd : d ∈ b.prog) : rowOf (wDeed d.raw) = some (d.raw.1, d.raw.2.map some) := by
  have h := (g.sm.prog d.raw (List.mem_map_of_mem hd)).2.1
  unfold rowOf
  simp only [map_numOf h]
  have h1 : d.raw.1 ≠ "order" := no_order d
  have h2 : countOf d.raw.1 = ((d.raw.2.map (some : Int → Option Int)).length : Int) := by
    rw [List.length_map]
    cases d <;> (simp only [Deed.raw, List.length_cons, List.length_nil]; decide +kernel)
  rw [if_neg h1, if_neg (none_some _), if_neg (fun z => z.2 h2)]
end BC
/-! BCTextW: steps of walks over texts, lists of texts, a written dict's get. -/
namespace BC
open PySem PySem.Spec PyProof.Rows L2 TL
/-! ### a written dict of texts and numbers -/
def EntS : List DictEntry → List (Str × Int) → Prop
  | [], [] => True
  | e :: es, p :: ps => (∃ t, e.key = .str p.1 t) ∧ (∃ t, e.val = .int p.2 t) ∧ EntS es ps
  | _, _ => False
structure KTab (K : PySem.W.Frag) (w : World) (a : Addr) (ps : List (Str × Int)) : Prop where
  ex : ∃ es n, K.lookup a = some ⟨.type "dict", none, .dict es n, #[]⟩ ∧ PySem.W.KeysLit w.params es.toList ∧ EntS es.toList ps
  sys : (a == sysModules) = false
theorem entS_find {z : Str} : ∀ {es : List DictEntry} {ps : List (Str × Int)}, EntS es ps → RelO ((ps.lookup z).map V.int) ((es.find? fun e => Value.isStrOf z e.key).map (·.val))
  | [], [], _ => True.intro
  | e :: es, p :: ps, h => by
    obtain ⟨⟨t, h1⟩, ⟨u, h2⟩, h3⟩ := h
    obtain ⟨k, i⟩ := p
    have hb : Value.isStrOf z e.key = (z == k) := by
      rw [h1]
      show (k == z) = (z == k)
      exact Bool.eq_iff_iff.mpr ⟨fun q => by rw [beq_iff_eq.mp q]; exact beq_self_eq_true _, fun q => by rw [beq_iff_eq.mp q]; exact beq_self_eq_true _⟩
    rw [List.find?_cons, hb]
    simp only [List.lookup]
    cases z == k with
    | true => exact ⟨u, h2⟩
    | false => exact entS_find h3
  | [], _ :: _, h => h.elim
  | _ :: _, [], h => h.elim
def tKGet2 (K : PySem.W.Frag) (w : World) (td ty tx : TE) : TE := fun σ H Q => td σ H fun x H1 => ∃ a ps, x = .ref a ∧ KTab K w a ps ∧ ty σ H1 fun y H2 => ∃ z, y = .str z ∧ tx σ H2 fun d H3 => Q (((ps.lookup z).map V.int).getD d) H3
theorem pe_kget2 {X : Cx} {o e f : Expr} {apos cpos : Pos} {td ty tx : TE} (ho : PE X o td) (he : PE X e ty) (hf : PE X f tx) (m : M2 X o "get" apos e f cpos) : PE X (.Call (.Attribute o "get" apos) [e, f] [] cpos) (tKGet2 X.K X.w td ty tx) := by
  refine ⟨fun pins s σ H Q I h => ?_⟩
  refine wpAny_Call_method m.base m.few m.line PySem.F.plainAttrs_dict PySem.F.slot_dict_get PySem.F.type_dict_get (thn (ho.run pins s σ H _ I h) fun u s1 ⟨x, H1, I1, rx, a, ps, ex, d, q1⟩ => ?_)
  subst ex
  obtain rfl : u = Value.ref a := rx
  obtain ⟨⟨es, n, hl, hk, hes⟩, hs⟩ := d
  have hm1 := PySem.W.mapOf_K (prog := X.prog) (w := X.w) I1.kIn hl hk
  refine ⟨hm1.typeIs, fun b q => by cases q; exact ⟨_, I1.kIn _ _ hl, rfl⟩, ?_⟩
  rw [m.trees]
  refine Calls.callWith_builtin rfl (Calls.evalArgs_plain (Calls.spliced_cons (thn (he.run pins s1 σ H1 _ I1 q1) fun iv s2 ⟨y, H2, I2, ry, z, ey, q2⟩ =>
    Calls.spliced_cons (thn (hf.run pins s2 σ H2 _ I2 q2) fun fv s3 ⟨dv, H3, I3, rz, q3⟩ => Calls.spliced_nil ?_))))
  subst ey
  obtain ⟨t, rfl⟩ := (show ∃ t, iv = Value.str z t from ry)
  have hm3 := PySem.W.mapOf_K (prog := X.prog) (w := X.w) I3.kIn hl hk
  refine call_meetsIn PySem.F.slot_dict_get hm3.typeIs PySem.F.entry_dict_get (PySem.F.args_dict_get_3 _ _ _) (meets_dict_get_default (strKind X.prog X.w) a (strKind_is X.prog X.w z t) hs fv) ⟨_, hm3, ?_⟩
  refine ⟨_, H3, I3.tok _, ?_, q3⟩
  have r := entS_find (z := z) hes
  have e : findBy Value.isStrOf es z = (es.toList.find? fun e => Value.isStrOf z e.key).map (·.val) := by
    unfold findBy
    rw [Array.find?_toList]
  rw [e]
  exact RelO.getD r rz
def rJoin (K : PySem.W.Frag) : V → List V → Hp → VK → Prop := fun x xs H Q => ∃ a p, ∃ ys : List Str, x = .str a ∧ xs = [.ref p] ∧ (SqL K H p (ys.map V.str) ∨ SqT K H p (ys.map V.str)) ∧
    (ys.map (·.length)).sum + ys.length * a.length ≤ 16777216 ∧ Q (.str (Txt.join a ys)) H
theorem pe_joinR {X : Cx} {o e : Expr} {to te : TE} {apos pos : Pos} (ho : PE X o to) (he : PE X e te) (hs : starEach [e] X.env = [(false, eval e X.env)] := by rfl) (hbase : attributeBase o "join" X.env (eval o X.env) = eval o X.env := by rfl) (hline : (apos.endLine == pos.line) = true := by rfl) :
    PE X (.Call (.Attribute o "join" apos) [e] [] pos) (tM1 (rJoin X.K) to te) := pe_join ho he hs hbase hline
/-! ### steps -/
section
variable {K : PySem.W.Frag} {σ : L2.St} {H H0 H1 : Hp} {D : Ends} {Q : VK} {te to tl' : TE} {ta : TA} {g : TG} {tb : TS} {x : V} {l : Addr} {xs : List V} {ds es : List PyData}
theorem st_tM1 {r : V → List V → Hp → VK → Prop} (h : to σ H fun x H1 => (∃ a, x = .str a) ∧ te σ H1 fun y H2 => r x [y] H2 Q) : tM1 r to te σ H Q := h
theorem tyS {s : Str} {A : Prop} (h : A) : (∃ a, V.str s = .str a) ∧ A := ⟨⟨_, rfl⟩, h⟩
theorem st_str {i : Int} (h : Sm i) (q : Q (.str (numS i)) H) : rStrI [.int i] H Q := by
  obtain ⟨n, hn, rfl⟩ := h.nat
  refine ⟨_, rfl, ?_, q⟩
  have : ((n : Int)).natAbs = n := rfl
  rw [this]
  exact Nat.lt_of_le_of_lt (Nat.log2_le_self n) (by omega)
theorem st_addS {i j : Str} (hl : i.length + j.length ≤ 1000000) (q : Q (.str (i ++ j)) H) : rAddS (.str i) (.str j) H Q := ⟨i, j, rfl, rfl, Nat.le_trans hl (by decide), q⟩
theorem st_join {a : Str} {p : Addr} {ys : List Str} (h : SqL K H p (ys.map V.str)) (hl : (ys.map (·.length)).sum + ys.length * a.length ≤ 1000000) (q : Q (.str (Txt.join a ys)) H) : rJoin K (.str a) [.ref p] H Q :=
  ⟨a, p, ys, rfl, rfl, .inl h, Nat.le_trans hl (by decide), q⟩
theorem st_split {a b : Str} (hb : (b.length == 0) = false) (hl : a.length ≤ 1000000) (q : ∀ p H2, H p = none → Ex H H2 → H2 p = some (.lst ((Txt.split a b).map V.str)) → Q (.ref p) H2) :
    ∃ a' b', V.str a = .str a' ∧ [V.str b] = [.str b'] ∧ (b'.length == 0) = false ∧ a'.length + 2 ≤ sizeLine ∧ rNewStrs (Txt.split a' b') H Q :=
  ⟨a, b, rfl, rfl, hb, Nat.le_trans (Nat.add_le_add_right hl 2) (by decide), fun p hp => q p _ hp (Ex.new hp) upd_same⟩
/-- two tuples -/
theorem tx_catT {y : V} (hx : Im H0 (.tuple ds) x) (kx : Kp H0 H) (hy : Im H1 (.tuple es) y) (ky : Kp H1 H) (hl : ds.length + es.length ≤ 100000) (q : ∀ v H2, Ex H H2 → Im H2 (.tuple (ds ++ es)) v → Q v H2) : rCatA K x y H Q := by
  obtain ⟨a, xs, rfl, h1, h2⟩ := (hx.kp kx).tup
  obtain ⟨b, ys, rfl, g1, g2⟩ := (hy.kp ky).tup
  refine ⟨a, b, xs, ys, rfl, rfl, SqT.of h1, SqT.of g1, by rw [h2.length, g2.length]; exact sz_le hl, fun e => ?_, fun e1 e2 => ?_, fun e1 e2 p np => ?_⟩
  · subst e
    have : ds = [] := List.length_eq_zero_iff.mp h2.length.symm
    subst this
    exact q _ H (Ex.refl _) (im_tup g1 g2)
  · subst e2
    have : es = [] := List.length_eq_zero_iff.mp g2.length.symm
    subst this
    exact q _ H (Ex.refl _) (by rw [List.append_nil]; exact im_tup h1 h2)
  · exact q _ _ (Ex.new np) (im_tup upd_same ((h2.append g2).kp (Ex.new np).kp))
/-- two new lists in one -/
theorem tx_cat {a b : Addr} {ys : List V} (ha : H a = some (.lst xs)) (hb : H b = some (.lst ys)) (hl : xs.length + ys.length ≤ 100000) (q : ∀ p H2, H p = none → Ex H H2 → H2 p = some (.lst (xs ++ ys)) → Q (.ref p) H2) : rCat (.ref a) (.ref b) H Q :=
  ⟨a, b, xs, ys, rfl, rfl, ha, hb, sz_le hl, fun p hp => q p _ hp (Ex.new hp) upd_same⟩
/-- xs != [], both empty; and not -/
theorem tx_neNil0 {a b : Addr} (ha : H a = some (.lst [])) (hb : H b = some (.lst [])) (q : Q (.bl false) H) : rNeD K (.ref a) (.ref b) H Q := by
  refine st_neD (lst_dp ha iml_nil) (lst_dp hb iml_nil) sh_lnil sh_lnil ?_
  rw [eqv_lnil]
  exact q
end
/-! ### lists of texts -/
def RowsA (H : Hp) : List (List Str) → List V → Prop
  | [], xs => xs = []
  | r :: rs, xs => ∃ a vs, xs = .ref a :: vs ∧ H a = some (.lst (r.map V.str)) ∧ RowsA H rs vs
theorem RowsA.ex {H H' : Hp} (e : Ex H H') : ∀ {rs : List (List Str)} {xs : List V}, RowsA H rs xs → RowsA H' rs xs
  | [], _, h => h
  | r :: rs, _, h => by
    obtain ⟨a, vs, rfl, h1, h2⟩ := h
    exact ⟨a, vs, rfl, e _ _ h1, h2.ex e⟩
theorem RowsA.append {H : Hp} {qs : List (List Str)} {ys : List V} (g : RowsA H qs ys) : ∀ {rs : List (List Str)} {xs : List V}, RowsA H rs xs → RowsA H (rs ++ qs) (xs ++ ys)
  | [], _, h => by
    cases (show _ = [] from h)
    exact g
  | r :: rs, _, h => by
    obtain ⟨a, vs, rfl, h1, h2⟩ := h
    exact ⟨a, vs ++ ys, rfl, h1, g.append h2⟩
theorem RowsA.length {H : Hp} : ∀ {rs : List (List Str)} {xs : List V}, RowsA H rs xs → xs.length = rs.length
  | [], _, h => by
    cases (show _ = [] from h)
    rfl
  | r :: rs, _, h => by
    obtain ⟨a, vs, rfl, h1, h2⟩ := h
    rw [List.length_cons, List.length_cons, h2.length]
theorem RowsA.at {H : Hp} {v : V} : ∀ {rs : List (List Str)} {xs : List V} {i : Nat}, RowsA H rs xs → xs[i]? = some v → ∃ a r, v = .ref a ∧ rs[i]? = some r ∧ H a = some (.lst (r.map V.str))
  | [], _, _, h, e => by
    cases (show _ = [] from h)
    simp at e
  | r :: rs, _, 0, h, e => by
    obtain ⟨a, vs, rfl, h1, h2⟩ := h
    simp at e
    exact ⟨a, r, e.symm, by simp, h1⟩
  | r :: rs, _, i + 1, h, e => by
    obtain ⟨a, vs, rfl, h1, h2⟩ := h
    obtain ⟨a', r', e1, e2, e3⟩ := h2.at (i := i) (by simpa using e)
    exact ⟨a', r', e1, by simpa using e2, e3⟩
theorem RowsA.one {H : Hp} {a : Addr} {r : List Str} (h : H a = some (.lst (r.map V.str))) : RowsA H [r] [.ref a] := ⟨a, [], rfl, h, rfl⟩
/-! ### comprehensions that make texts -/
section
variable {K : PySem.W.Frag} {σ : L2.St} {H H0 H1 : Hp} {Q : VK} {te : TE} {own : List Nat} {x : V} {l : Addr} {xs : List V} {ds : List PyData} {i : Nat}
/-- [.. for d in t], each a text -/
theorem st_lcStr {f : PyData → Str} (h : Im H0 (.tuple ds) x) (k0 : Kp H0 H1) (hn : ds.length ≤ 50000) (hw : ∀ v, wipe ((wipe σ own).set i (some v)) own = wipe σ own)
    (turn : ∀ d v H R, d ∈ ds → Ex H1 H → Im H d v → (∀ H', Ex H H' → R (.str (f d)) H') → te ((wipe σ own).set i (some v)) H R)
    (q : ∀ D H2, H1 D = none → Ex H1 H2 → H2 D = some (.lst ((ds.map f).map V.str)) → Q (.ref D) H2) : LcU K (gName i) tYes te own σ x H1 Q := by
  refine st_lcTup h k0 fun D H2 nD e2 hD => ?_
  refine ⟨fun j H' => Ex H1 H' ∧ H' D = some (.lst (((ds.take j).map f).map V.str)), ⟨e2, hD⟩, fun j H' p => k0.trans p.1.kp, fun j d v H' hd hv p => ?_, fun H' p => ?_⟩
  · refine ⟨hw v, ?_⟩
    with_reducible refine st_yes ?_
    with_reducible refine st_T ?_
    have hj : j < ds.length := (List.getElem?_eq_some_iff.mp hd).1
    refine turn d v H' _ (List.mem_of_getElem? hd) p.1 hv fun H3 e3 => ?_
    refine st_lcPut (e3 _ _ p.2) (by rw [List.length_map, List.length_map, List.length_take]; omega) fun H5 f5 k5 h5 => ?_
    refine ⟨Fr.ex (p.1.trans e3) (fun a ha => by rw [List.mem_singleton.mp ha]; exact nD) f5, ?_⟩
    rw [h5, List.take_add_one, hd, List.map_append, List.map_append]
    rfl
  · obtain ⟨p1, p2⟩ := p
    rw [List.take_length] at p2
    exact q D H' nD p1 p2
/-- [.. for d in t], each a new list of texts -/
theorem st_lcRows {f : PyData → List Str} (h : Im H0 (.tuple ds) x) (k0 : Kp H0 H1) (hn : ds.length ≤ 50000) (hw : ∀ v, wipe ((wipe σ own).set i (some v)) own = wipe σ own)
    (turn : ∀ d v H R, d ∈ ds → Ex H1 H → Im H d v → (∀ a H', H a = none → Ex H H' → H' a = some (.lst ((f d).map V.str)) → R (.ref a) H') → te ((wipe σ own).set i (some v)) H R)
    (q : ∀ D H2 xs, H1 D = none → Ex H1 H2 → H2 D = some (.lst xs) → RowsA H2 (ds.map f) xs → Q (.ref D) H2) : LcU K (gName i) tYes te own σ x H1 Q := by
  refine st_lcTup h k0 fun D H2 nD e2 hD => ?_
  refine ⟨fun j H' => ∃ xs, Ex H1 H' ∧ H' D = some (.lst xs) ∧ xs.length = j ∧ (∀ H'', Fr [D] H' H'' → RowsA H'' ((ds.take j).map f) xs), ⟨[], e2, hD, rfl, fun _ _ => by simp [RowsA]⟩, fun j H' p => k0.trans p.choose_spec.1.kp, fun j d v H' hd hv p => ?_, fun H' p => ?_⟩
  · obtain ⟨xs, p1, p2, p3, p4⟩ := p
    refine ⟨hw v, ?_⟩
    with_reducible refine st_yes ?_
    with_reducible refine st_T ?_
    have hj : j < ds.length := (List.getElem?_eq_some_iff.mp hd).1
    refine turn d v H' _ (List.mem_of_getElem? hd) p1 hv fun a H3 na e3 ha => ?_
    have haD : a ∉ [D] := fun z => by
      rw [List.mem_singleton.mp z, p2] at na
      cases na
    refine st_lcPut (e3 _ _ p2) (by omega) fun H5 f5 k5 h5 => ?_
    refine ⟨xs ++ [.ref a], Fr.ex (p1.trans e3) (fun a ha => by rw [List.mem_singleton.mp ha]; exact nD) f5, h5, by simp [p3], fun H6 f6 => ?_⟩
    rw [List.take_add_one, hd, List.map_append]
    exact (RowsA.one (f6 _ _ (f5 _ _ ha haD) haD)).append (p4 H6 ((e3.fr.trans f5).trans f6))
  · obtain ⟨xs, p1, p2, p3, p4⟩ := p
    rw [List.take_length] at p4
    exact q D H' xs nD p1 p2 (p4 H' (Fr.refl _ _))
/-- [.. for row in rows], each a text -/
theorem st_lcJoins {rs : List (List Str)} {f : List Str → Str} (h : H1 l = some (.lst xs)) (hr : RowsA H1 rs xs) (hn : rs.length ≤ 50000) (hw : ∀ v, wipe ((wipe σ own).set i (some v)) own = wipe σ own)
    (turn : ∀ r a H R, r ∈ rs → Ex H1 H → H a = some (.lst (r.map V.str)) → R (.str (f r)) H → te ((wipe σ own).set i (some (.ref a))) H R)
    (q : ∀ D H2, H1 D = none → Ex H1 H2 → H2 D = some (.lst ((rs.map f).map V.str)) → Q (.ref D) H2) : LcL K (gName i) tYes te own σ (.ref l) H1 Q := by
  refine st_lcList (SqL.of h) fun D H2 nD e2 hD => ?_
  refine ⟨fun j H' => Ex H1 H' ∧ H' D = some (.lst (((rs.take j).map f).map V.str)), ⟨e2, hD⟩, fun j H' p => SqL.of (p.1 _ _ h), fun j v H' hv p => ?_, fun H' p => ?_⟩
  · refine ⟨hw v, ?_⟩
    with_reducible refine st_yes ?_
    with_reducible refine st_T ?_
    obtain ⟨a, r, rfl, hrr, ha⟩ := hr.at hv
    have hj : j < rs.length := (List.getElem?_eq_some_iff.mp hrr).1
    refine turn r a H' _ (List.mem_of_getElem? hrr) p.1 (p.1 _ _ ha) ?_
    refine st_lcPut p.2 (by rw [List.length_map, List.length_map, List.length_take]; omega) fun H5 f5 k5 h5 => ?_
    refine ⟨Fr.ex p.1 (fun a ha => by rw [List.mem_singleton.mp ha]; exact nD) f5, ?_⟩
    rw [h5, List.take_add_one, hrr, List.map_append, List.map_append]
    rfl
  · obtain ⟨p1, p2⟩ := p
    rw [hr.length, List.take_length] at p2
    exact q D H' nD p1 p2
/-- [.. for word in words], words a list of texts; what is made is V-valued -/
theorem st_lcWords {ws : List Str} {f : Str → V} (h : H1 l = some (.lst (ws.map V.str))) (hn : ws.length ≤ 50000) (hw : ∀ v, wipe ((wipe σ own).set i (some v)) own = wipe σ own)
    (turn : ∀ w H R, w ∈ ws → Ex H1 H → (∀ H', Ex H H' → R (f w) H') → te ((wipe σ own).set i (some (.str w))) H R)
    (q : ∀ D H2, H1 D = none → Ex H1 H2 → H2 D = some (.lst (ws.map f)) → Q (.ref D) H2) : LcL K (gName i) tYes te own σ (.ref l) H1 Q := by
  refine st_lcList (SqL.of h) fun D H2 nD e2 hD => ?_
  refine ⟨fun j H' => Ex H1 H' ∧ H' D = some (.lst ((ws.take j).map f)), ⟨e2, hD⟩, fun j H' p => SqL.of (p.1 _ _ h), fun j v H' hv p => ?_, fun H' p => ?_⟩
  · refine ⟨hw v, ?_⟩
    with_reducible refine st_yes ?_
    with_reducible refine st_T ?_
    obtain ⟨w, hw', rfl⟩ := map_at' hv
    have hj : j < ws.length := (List.getElem?_eq_some_iff.mp hw').1
    refine turn w H' _ (List.mem_of_getElem? hw') p.1 fun H3 e3 => ?_
    refine st_lcPut (e3 _ _ p.2) (by rw [List.length_map, List.length_take]; omega) fun H5 f5 k5 h5 => ?_
    refine ⟨Fr.ex (p.1.trans e3) (fun a ha => by rw [List.mem_singleton.mp ha]; exact nD) f5, ?_⟩
    rw [h5, List.take_add_one, hw', List.map_append]
    rfl
  · obtain ⟨p1, p2⟩ := p
    rw [List.length_map, List.take_length] at p2
    exact q D H' nD p1 p2
/-- the turns of a comprehension over a text's signs -/
def LcS (g : TG) (tt : TT) (te : TE) (own : List Nat) (σ : L2.St) (x : V) (H1 : Hp) (Q : VK) : Prop := ∃ z, x = .str z ∧ LcT (Its z) g tt te own σ H1 Q
theorem st_lcS {tl' : TE} {g : TG} {tt : TT} (h : tl' σ H fun x H1 => LcS g tt te own σ x H1 Q) : tLc (iStr tl') g tt te own σ H Q := h
theorem st_lcSigns {z : Str} {f : Nat → V} (hn : (tl z).length ≤ 50000) (hw : ∀ v, wipe ((wipe σ own).set i (some v)) own = wipe σ own)
    (turn : ∀ c H R, c ∈ tl z → Ex H1 H → R (f c) H → te ((wipe σ own).set i (some (.str ⟨#[c]⟩))) H R)
    (q : ∀ D H2, H1 D = none → Ex H1 H2 → H2 D = some (.lst ((tl z).map f)) → Q (.ref D) H2) : LcS (gName i) tYes te own σ (.str z) H1 Q := by
  refine ⟨z, rfl, fun D nD => ?_⟩
  refine lc_it (walk_str (z := z)) (fun j H' => Ex H1 H' ∧ H' D = some (.lst (((tl z).take j).map f))) ⟨Ex.new nD, by rw [upd_same]; rfl⟩ (fun _ _ _ _ => True.intro) (fun j x H H' hj p y => ?_) fun H' p => ?_
  · obtain ⟨rfl, c, hc, rfl⟩ := y
    refine ⟨hw _, ?_⟩
    with_reducible refine st_yes ?_
    with_reducible refine st_T ?_
    have hc' : (tl z)[j]? = some c := by
      rw [← hc]
      exact Array.getElem?_toList
    refine turn c H' _ (List.mem_of_getElem? hc') p.1 ?_
    have hl : j < (tl z).length := (List.getElem?_eq_some_iff.mp hc').1
    refine ⟨_, p.2, sz_lt (by rw [List.length_map, List.length_take]; omega), Ex.mut nD p.1, ?_⟩
    rw [upd_same, List.take_add_one, hc', List.map_append]
    rfl
  · obtain ⟨p1, p2⟩ := p
    rw [show z.cps.size = (tl z).length from Array.length_toList.symm, List.take_length] at p2
    exact q D H' nD p1 p2
end
end BC
namespace BC
open PySem PySem.Spec PyProof.Rows L2 TL
def rInSign : R2 := fun x y H Q => ∃ (c : Nat) (z : Str), x = .str ⟨#[c]⟩ ∧ y = .str z ∧ Q (.bl (decide (c ∈ z.cps.toList))) H
theorem o_inSign {X : Cx} : OpR X (compareOp .In) rInSign := op_in_sign
def rIntS : List V → Hp → VK → Prop := fun xs H Q => ∃ a n, xs = [.str a] ∧ PySem.intText? a = some n ∧ a.length ≤ 640 ∧ Q (.int n) H
theorem c_intS {X : Cx} : CallR X (.type "int") rIntS := call_int_str
def strD : PyData → Str
  | .int i => numS i
  | .none => "-"
  | .str s => s
  | _ => ""
def wordsO : PyData → List Str
  | .tuple ds => "order" :: ds.map strD
  | _ => []
def wordsP : PyData → List Str
  | .tuple (d :: ds) => strD d :: ds.map strD
  | _ => []
theorem strD_ints (ns : List Int) : (ns.map PyData.int).map strD = ns.map numS := by
  rw [List.map_map]
  rfl
theorem strD_opt (o : Option Int) : strD (pyOpt o) = optS o := by cases o <;> rfl
theorem wordsO_ords (os : List ROrd) : (os.map pyOrd).map wordsO = os.map wOrd := by
  rw [List.map_map]
  refine List.map_congr_left fun o _ => ?_
  show ("order" : Str) :: [numS o.1, numS o.2.1, numS o.2.2.1, strD (pyOpt o.2.2.2)] = wOrd o
  rw [strD_opt]
theorem wordsP_prog (p : List RDeed) : (p.map pyDeed).map wordsP = p.map wDeed := by
  rw [List.map_map]
  refine List.map_congr_left fun d _ => ?_
  show d.1 :: (d.2.map PyData.int).map strD = wDeed d
  rw [strD_ints]
theorem sm_opt {H : Hp} {v : V} {d : PyData} {o : ROrd} (hd : d ∈ [PyData.int o.1, .int o.2.1, .int o.2.2.1, pyOpt o.2.2.2]) (hs : Sm o.1 ∧ Sm o.2.1 ∧ Sm o.2.2.1 ∧ ∀ i, o.2.2.2 = some i → Sm i) (hv : Im H d v) :
    ∃ u : Option Int, v = vOpt u ∧ (∀ i, u = some i → Sm i) ∧ optS u = strD d := by
  obtain ⟨h1, h2, h3, h4⟩ := hs
  simp only [List.mem_cons, List.not_mem_nil, or_false] at hd
  rcases hd with rfl | rfl | rfl | rfl
  · exact ⟨some o.1, Im.int_iff.mp hv, fun i e => by cases e; exact h1, rfl⟩
  · exact ⟨some o.2.1, Im.int_iff.mp hv, fun i e => by cases e; exact h2, rfl⟩
  · exact ⟨some o.2.2.1, Im.int_iff.mp hv, fun i e => by cases e; exact h3, rfl⟩
  · exact ⟨o.2.2.2, im_opt.mp hv, h4, (strD_opt _).symm⟩
theorem tl_figures : tl ("0123456789" : Str) = [48, 49, 50, 51, 52, 53, 54, 55, 56, 57] := by decide +kernel
theorem fig_in (c : Nat) : decide (c ∈ tl ("0123456789" : Str)) = fig c := by
  rw [tl_figures]
  unfold fig
  rw [Bool.eq_iff_iff, decide_eq_true_eq, Bool.and_eq_true, decide_eq_true_eq, decide_eq_true_eq]
  simp only [List.mem_cons, List.not_mem_nil, or_false]
  omega
theorem tl_zero : tl ("0" : Str) = [48] := by decide +kernel
theorem sign_zero (c : Nat) : ((⟨#[c]⟩ : Str) = "0") ↔ c = 48 := by
  constructor
  · intro h
    have : tl (⟨#[c]⟩ : Str) = tl "0" := by rw [h]
    rw [tl_zero] at this
    exact (List.cons.inj this).1
  · rintro rfl
    refine ext_tl ?_
    rw [tl_zero]
theorem empty_tl (w : Str) : w = "" ↔ tl w = [] := by
  constructor
  · rintro rfl
    decide +kernel
  · intro h
    refine ext_tl ?_
    rw [h]
    decide +kernel
theorem inV_none : ∀ ns : List (Option Int), inV .non (ns.map vOpt) = decide (none ∈ ns)
  | [] => by simp [inV]
  | o :: ns => by
    have ih := inV_none ns
    unfold inV at ih ⊢
    rw [List.map_cons, List.any_cons, ih]
    cases o with
    | none => simp [vOpt, eqV]
    | some i =>
      rw [Bool.eq_iff_iff]
      simp [vOpt, eqV]
theorem vOpt_non (o : Option Int) : decide (vOpt o = .non) = o.isNone := by cases o <;> simp [vOpt]
theorem flat_opts (ns : List (Option Int)) : (ns.map vOpt).all flatV = true := by
  rw [List.all_eq_true]
  intro v hv
  obtain ⟨o, _, rfl⟩ := List.mem_map.mp hv
  cases o <;> rfl
theorem im_opts {H : Hp} : ∀ ns : List (Option Int), ImL H (ns.map pyOpt) (ns.map vOpt)
  | [] => iml_nil
  | o :: ns => iml_cons (im_opt.mpr rfl) (im_opts ns)
end BC
namespace BC
open PySem PySem.Spec PyProof.Rows L2 TL
theorem rowT_snoc (w : Str) (ws : List Str) (x : Str) : rowT (w :: ws) ++ (" " : Str) ++ x = rowT (w :: (ws ++ [x])) := by
  refine ext_tl ?_
  rw [tl_append, tl_append, tl_rowT, tl_rowT, tl_sp, List.flatMap_append]
  simp
theorem rowT_one (w : Str) : rowT [w] = w := by
  refine ext_tl ?_
  rw [tl_rowT]
  simp
theorem join_snoc {ps : List Str} (h : ps ≠ []) (p : Str) : Txt.join "\n" ps ++ ("\n" : Str) ++ p = Txt.join "\n" (ps ++ [p]) := by
  cases ps with
  | nil => exact absurd rfl h
  | cons a r =>
    refine ext_tl ?_
    rw [List.cons_append, tl_append, tl_append, tl_rows, tl_rows, tl_nl, List.flatMap_append]
    simp
theorem join_ext {ps : List Str} (h : ps ≠ []) (p x : Str) : Txt.join "\n" (ps ++ [p]) ++ x = Txt.join "\n" (ps ++ [p ++ x]) := by
  cases ps with
  | nil => exact absurd rfl h
  | cons a r =>
    refine ext_tl ?_
    rw [List.cons_append, List.cons_append, tl_append, tl_rows, tl_rows, List.flatMap_append, List.flatMap_append]
    simp only [List.flatMap_cons, List.flatMap_nil, List.append_nil, List.append_assoc, List.cons_append, tl_append]
theorem join_one (p : Str) : Txt.join "\n" [p] = p := by
  refine ext_tl ?_
  rw [tl_rows]
  simp
theorem nl_order : ("\norder" : Str) = ("\n" : Str) ++ ("order" : Str) := by decide +kernel
theorem join_small {ps : List Str} (h : ∀ p ∈ ps, p.length ≤ 500) (hn : ps.length ≤ 100) : (Txt.join "\n" ps).length ≤ 60000 := by
  have h1 := join_len "\n" ps
  have h2 := sum_le (f := fun w : Str => w.length) (k := 500) (l := ps) h
  have h3 : ("\n" : Str).length = 1 := by decide +kernel
  rw [h3] at h1
  have h4 : ps.length * 500 ≤ 100 * 500 := Nat.mul_le_mul_right _ hn
  have : (ps.map fun w : Str => w.length) = ps.map (·.length) := rfl
  omega
theorem len_app (a b : Str) : (a ++ b).length = a.length + b.length := by
  rw [len_tl, len_tl a, len_tl b, tl_append, List.length_append]
/-- what the rows of a good board read as, row by row -/
theorem row_at {b : Bd} (g : Good b) {i : Nat} {r : List Str} (h : (rowsW b.raw)[i]? = some r) : ∃ (w : Str) (ns : List (Option Int)), rowOf r = some (w, ns) ∧ decide (w = "memory") = decide ((i : Int) = 0) ∧
    (w = "order" → 1 ≤ i ∧ i ≤ b.raw.ords.length ∧ ∃ o, b.raw.ords[i - 1]? = some o ∧ PyData.tuple (ns.map pyOpt) = pyOrd o) ∧ (i = 0 → w ≠ "order" ∧ ns.map pyOpt = b.raw.mem.map .int) ∧
    (i ≠ 0 → w ≠ "order" → b.raw.ords.length + 1 ≤ i ∧ ∃ d, b.raw.prog[i - 1 - b.raw.ords.length]? = some d ∧ PyData.tuple (.str w :: ns.map pyOpt) = pyDeed d) := by
  have sm := g.sm
  have e0 : ∀ ns : List Int, (ns.map (some : Int → Option Int)).map pyOpt = ns.map .int := fun ns => by
    rw [List.map_map]
    rfl
  cases i with
  | zero =>
    have : r = wMem b.raw.mem := by
      unfold rowsW at h
      rw [List.getElem?_cons_zero] at h
      exact (Option.some.inj h).symm
    subst this
    exact ⟨_, _, rowOf_mem sm, by decide +kernel, fun z => absurd z (by decide +kernel), fun _ => ⟨by decide +kernel, e0 _⟩, fun z => absurd rfl z⟩
  | succ i =>
    unfold rowsW at h
    rw [List.getElem?_cons_succ] at h
    by_cases hi : i < b.raw.ords.length
    · rw [List.getElem?_append_left (by rw [List.length_map]; exact hi)] at h
      obtain ⟨o, ho, rfl⟩ := map_at' h
      refine ⟨_, _, rowOf_ord sm (List.mem_of_getElem? ho), ?_, fun _ => ⟨by omega, by omega, o, by simpa using ho, rfl⟩, fun z => absurd z (by omega), fun _ z => absurd rfl z⟩
      rw [decide_eq_false (show ¬ (("order" : Str) = "memory") by decide +kernel), decide_eq_false (by omega)]
    · rw [List.getElem?_append_right (by rw [List.length_map]; omega), List.length_map] at h
      obtain ⟨d, hd, rfl⟩ := map_at' h
      obtain ⟨d', hd', rfl⟩ := List.mem_map.mp (List.mem_of_getElem? hd)
      refine ⟨_, _, rowOf_deed g hd', ?_, fun z => absurd z (no_order d'), fun z => absurd z (by omega), fun _ _ => ⟨by omega, d'.raw, by simpa [Nat.add_sub_cancel] using hd, by rw [e0]⟩⟩
      rw [decide_eq_false (no_memory d'), decide_eq_false (by omega)]
end BC
namespace BC
open PySem PySem.Spec PyProof.Rows L2 TL
theorem tx_al_deed {n : Nat} (d : Deed) : Al (n + 1) (pyDeed d.raw) := by
  have w : ∀ s ∈ [("set" : Str), "add", "say", "start", "wait", "clean", "drop"], PyData.strOk s = true := by decide +kernel
  have hs : PyData.strOk d.raw.1 = true := w _ (by cases d <;> simp [Deed.raw])
  have hl : d.raw.2.length ≤ 2 := by cases d <;> simp [Deed.raw]
  refine al_tup (by simp; omega) fun e he => ?_
  rcases List.mem_cons.mp he with rfl | he
  · exact al_str hs
  · exact al_ints e he
theorem tx_al_board {n : Nat} {b : Bd} (g : Good b) : Al (n + 3) (pyB b.raw) := by
  have h1 := g.lines
  have h2 := g.ords
  have h3 := g.len
  refine al_tup (by simp) fun e he => ?_
  simp only [List.mem_cons, List.not_mem_nil, or_false] at he
  rcases he with rfl | rfl | rfl
  · exact al_tup (by rw [List.length_map]; show b.mem.length ≤ _; omega) al_ints
  · refine al_tup (by rw [List.length_map, List.length_map]; omega) fun d hd => ?_
    obtain ⟨o, _, rfl⟩ := List.mem_map.mp hd
    refine al_tup (by simp) fun e he => ?_
    simp only [List.mem_cons, List.not_mem_nil, or_false] at he
    rcases he with rfl | rfl | rfl | rfl
    · exact al_int
    · exact al_int
    · exact al_int
    · exact al_opt
  · refine al_tup (by rw [List.length_map, List.length_map]; omega) fun d hd => ?_
    rw [List.map_map] at hd
    obtain ⟨d, _, rfl⟩ := List.mem_map.mp hd
    exact tx_al_deed d
end BC
/-! BCTold: all that is told of a board; lists that are told, spoilt, kept. -/
namespace BC
open PySem PySem.Spec PyProof.Rows L2
theorem al_sh : ∀ {n : Nat} {d : PyData}, Al n d → Sh n d
  | 0, d, h => by
    rcases h with rfl | ⟨_, rfl⟩ | ⟨_, rfl⟩ | ⟨s, rfl, h⟩
    · exact sh_none
    · exact sh_bool
    · exact sh_int
    · exact sh_str h
  | n + 1, d, h => by
    rcases h with (rfl | ⟨_, rfl⟩ | ⟨_, rfl⟩ | ⟨s, rfl, h⟩) | ⟨ds, s, _, h⟩
    · exact sh_none
    · exact sh_bool
    · exact sh_int
    · exact sh_str h
    · rcases s with rfl | rfl
      · exact sh_lst fun d hd => al_sh (h d hd)
      · exact sh_tup fun d hd => al_sh (h d hd)
/-- v is what d says; its lists stand at F -/
inductive Item (H : Hp) : V → PyData → List Addr → Prop
  | im {v : V} {d : PyData} (h : Im H d v) : Item H v d []
  | lst {l : Addr} {xs : List V} {ds : List PyData} (h : H l = some (.lst xs)) (i : ImL H ds xs) (n : ds.length ≤ 50000) : Item H (.ref l) (.list ds) [l]
  | two {t r f : Addr} {xs ys : List V} {ds es : List PyData} (ht : H t = some (.tup [.ref r, .ref f])) (hr : H r = some (.lst xs)) (ir : ImL H ds xs) (hf : H f = some (.lst ys)) (jf : ImL H es ys) (n1 : ds.length ≤ 50000) (n2 : es.length ≤ 50000) :
      Item H (.ref t) (.tuple [.list ds, .list es]) [r, f]
inductive Items (H : Hp) : List V → List PyData → List Addr → Prop
  | nil : Items H [] [] []
  | cons {v : V} {d : PyData} {F : List Addr} {vs : List V} {ds : List PyData} {G : List Addr} (h : Item H v d F) (t : Items H vs ds G) : Items H (v :: vs) (d :: ds) (F ++ G)
theorem Item.dp {K : PySem.W.Frag} {H : Hp} {v : V} {d : PyData} {F : List Addr} (h : Item H v d F) : Dp K H v d := by
  cases h with
  | im h => exact h.dp _ _
  | lst h i n => exact lst_dp h i
  | two ht hr ir hf jf n1 n2 => exact .tup (SqT.of ht) (.cons (lst_dp hr ir) (.cons (lst_dp hf jf) .nil))
theorem Items.dp {K : PySem.W.Frag} {H : Hp} : ∀ {vs : List V} {ds : List PyData} {G : List Addr}, Items H vs ds G → DpAll K H vs ds
  | _, _, _, .nil => .nil
  | _, _, _, .cons h t => .cons h.dp t.dp
theorem Item.fr {H H' : Hp} {v : V} {d : PyData} {F F' : List Addr} (h : Item H v d F) (f : Fr F' H H') (k : Kp H H') (n : ∀ a ∈ F, a ∉ F') : Item H' v d F := by
  cases h with
  | im h => exact .im (h.kp k)
  | lst h i m => exact .lst (f _ _ h (n _ List.mem_cons_self)) (i.kp k) m
  | two ht hr ir hf jf n1 n2 => exact .two (k _ _ ht) (f _ _ hr (n _ List.mem_cons_self)) (ir.kp k) (f _ _ hf (n _ (List.mem_cons_of_mem _ List.mem_cons_self))) (jf.kp k) n1 n2
theorem Items.fr {H H' : Hp} {F' : List Addr} (f : Fr F' H H') (k : Kp H H') : ∀ {vs : List V} {ds : List PyData} {G : List Addr}, Items H vs ds G → (∀ a ∈ G, a ∉ F') → Items H' vs ds G
  | _, _, _, .nil, _ => .nil
  | _, _, _, .cons h t, n => .cons (h.fr f k fun a ha => n a (List.mem_append_left _ ha)) (t.fr f k fun a ha => n a (List.mem_append_right _ ha))
theorem Items.ex {H H' : Hp} (e : Ex H H') {vs : List V} {ds : List PyData} {G : List Addr} (h : Items H vs ds G) : Items H' vs ds G := h.fr (F' := []) e.fr e.kp (by simp)
theorem Items.length {H : Hp} : ∀ {vs : List V} {ds : List PyData} {G : List Addr}, Items H vs ds G → vs.length = ds.length
  | _, _, _, .nil => rfl
  | _, _, _, .cons h t => by rw [List.length_cons, List.length_cons, t.length]
theorem Items.at {H : Hp} {v : V} : ∀ {vs : List V} {ds : List PyData} {G : List Addr} {i : Nat}, Items H vs ds G → vs[i]? = some v → ∃ d F, Item H v d F ∧ ds[i]? = some d ∧ ∀ a ∈ F, a ∈ G
  | _, _, _, _, .nil, e => by simp at e
  | _, _, _, 0, .cons h t, e => by
    simp at e
    subst e
    exact ⟨_, _, h, by simp, fun a ha => List.mem_append_left _ ha⟩
  | _, _, _, i + 1, .cons h t, e => by
    obtain ⟨d, F, h1, h2, h3⟩ := t.at (i := i) (by simpa using e)
    exact ⟨d, F, h1, by simpa using h2, fun a ha => List.mem_append_right _ (h3 a ha)⟩
theorem Items.snoc {H : Hp} {v : V} {d : PyData} {F : List Addr} (g : Item H v d F) : ∀ {vs : List V} {ds : List PyData} {G : List Addr}, Items H vs ds G → Items H (vs ++ [v]) (ds ++ [d]) (G ++ F)
  | _, _, _, .nil => by
    have := Items.cons g .nil
    simpa using this
  | _, _, _, .cons h t => by
    have := Items.cons h (t.snoc g)
    simpa [List.append_assoc] using this
/-- each of G is a list of data -/
def ListsOk (H : Hp) (G : List Addr) (n : Nat) : Prop := ∀ a ∈ G, ∃ (xs : List V) (ds : List PyData), H a = some (.lst xs) ∧ ImL H ds xs ∧ xs.length ≤ n
theorem Item.lists {H : Hp} {v : V} {d : PyData} {F : List Addr} (h : Item H v d F) : ListsOk H F 50000 := fun a ha => by
  cases h with
  | im h => cases ha
  | lst h i n =>
    rw [List.mem_singleton.mp ha]
    exact ⟨_, _, h, i, by rw [i.length]; exact n⟩
  | two ht hr ir hf jf n1 n2 =>
    simp only [List.mem_cons, List.not_mem_nil, or_false] at ha
    rcases ha with rfl | rfl
    · exact ⟨_, _, hr, ir, by rw [ir.length]; exact n1⟩
    · exact ⟨_, _, hf, jf, by rw [jf.length]; exact n2⟩
theorem Items.lists {H : Hp} : ∀ {vs : List V} {ds : List PyData} {G : List Addr}, Items H vs ds G → ListsOk H G 50000
  | _, _, _, .nil => fun a ha => by cases ha
  | _, _, _, .cons h t => fun a ha => by
    rcases List.mem_append.mp ha with ha | ha
    · exact h.lists a ha
    · exact t.lists a ha
section
variable {K : PySem.W.Frag} {σ : L2.St} {H H0 H1 : Hp} {D : Ends} {Q : VK} {te : TE} {g : TG} {tb : TS} {t : Addr} {xs : List V} {tt : TT} {own : List Nat}
theorem tx_walkT (h : H t = some (.tup xs)) (Pv : Nat → L2.St → Hp → Prop) (h0 : Pv 0 σ H) (hk : ∀ m σ' H', Pv m σ' H' → H' t = some (.tup xs))
    (hs : ∀ m v σ' H', xs[m]? = some v → Pv m σ' H' → g v σ' H' fun σ2 H2 => tb { D with nx := Pv (m + 1), ct := Pv (m + 1), bk := D.nx } σ2 H2) (hd : ∀ σ' H', Pv xs.length σ' H' → D.nx σ' H') : WalkT K g tb D σ (.ref t) H :=
  ⟨t, rfl, ⟨xs, SqT.of h⟩, for_tup (K := K) (a := t) (xs := xs) Pv h0 (fun m σ' H' _ p => SqT.of (hk m σ' H' p)) hs hd⟩
theorem tx_lcTup (h : H1 t = some (.tup xs)) (k : ∀ D H2, H1 D = none → Ex H1 H2 → H2 D = some (.lst []) → ∃ Pv : Nat → Hp → Prop, Pv 0 H2 ∧ (∀ i H, Pv i H → H t = some (.tup xs)) ∧ (∀ (i : Nat) v H, xs[i]? = some v → Pv i H → LcTurn g tt te own σ D v H (Pv (i + 1))) ∧ ∀ H, Pv xs.length H → Q (.ref D) H) :
    LcU K g tt te own σ (.ref t) H1 Q := by
  refine ⟨t, rfl, ⟨xs, SqT.of h⟩, fun D hD => ?_⟩
  obtain ⟨Pv, p0, hk, hs, hd⟩ := k D _ hD (Ex.new hD) upd_same
  exact lc_tup (K := K) (a := t) (xs := xs) Pv p0 (fun i H _ p => SqT.of (hk i H p)) (fun i v H hv p => hs i v H hv p) hd
end
/-- what a tuple of data is -/
theorem im_ty {H : Hp} {v : V} {d : PyData} (h : Im H d v) : (tyN d = "tuple" ∧ ∃ ds, d = .tuple ds) ∨ (kitB (tyN d) "tuple" = some false) := by
  cases d with
  | none => exact .inr kb_NoneType_tuple
  | bool b => exact .inr kb_bool_tuple
  | int i => exact .inr kb_int_tuple
  | str s => exact .inr kb_str_tuple
  | tuple ds => exact .inl ⟨rfl, ds, rfl⟩
  | list ds => exact (by simp only [Im] at h)
  | dict ds => exact (by simp only [Im] at h)
theorem im_notlist {H : Hp} {v : V} {d : PyData} (h : Im H d v) : kitB (tyN d) "list" = some false := by
  cases d with
  | none => exact kb_NoneType_list
  | bool b => exact kb_bool_list
  | int i => exact kb_int_list
  | str s => exact kb_str_list
  | tuple ds => exact kb_tuple_list
  | list ds => exact (by simp only [Im] at h)
  | dict ds => exact (by simp only [Im] at h)
/-! ### what is told -/
noncomputable def wordOf (b : Bd) : Str := by
  classical
  exact if Bad b (MS.init b) then "torn" else "sure"
theorem wordOf_bad {b : Bd} (h : Bad b (MS.init b)) : wordOf b = "torn" := by
  unfold wordOf
  exact if_pos h
theorem wordOf_sure {b : Bd} (h : ¬ Bad b (MS.init b)) : wordOf b = "sure" := by
  unfold wordOf
  exact if_neg h
theorem wordOf_ok (b : Bd) : PyData.strOk (wordOf b) = true := by
  by_cases h : Bad b (MS.init b)
  · rw [wordOf_bad h]
    decide +kernel
  · rw [wordOf_sure h]
    decide +kernel
def two : List TF := [(0, .wait), (0, .drop 0)]
noncomputable def toldD (b : Bd) (p : List Bool) : List PyData :=
  [.list ((goneOf b p).rows.map pyRow), .tuple [pyMem (saidOf (goneOf b p).rows), pyMem (goneOf b p).mem, .int ((goneOf b p).beats : Int)], .tuple [pyMem (plainOf b).said, pyMem (plainOf b).mem],
   .tuple [.list ((plainOf b).reads.map pySeen), .list ((plainOf b).fetches.map pySeen)], .list ((amissOf b p).map pyRow), .list (pyTFs (fullyOf (b.mem.length / 4) b.prog)), .str (wordOf b), .str (textOf b.raw), pyB (withB b two).raw]
theorem two_good {b : Bd} (g : Good b) (h : b.prog.length ≤ 50) : Good (withB b two) := with_good g (fun f hf => by
  have := g.lines
  simp only [two, List.mem_cons, List.not_mem_nil, or_false] at hf
  rcases hf with rfl | rfl
  · exact .inl rfl
  · exact .inr (.inr ⟨0, by omega, rfl⟩)) (by simp only [two, List.length_cons, List.length_nil]; omega)
theorem two_ok {b : Bd} (g : Good b) : ∀ f ∈ two.map TF.raw, fenceOk b.raw f = true := fun f hf => by
  have h4 := g.lines
  have hd : ∀ d : Deed, d.Ok b.raw.mem.length b.raw.ords.length → deedOk b.raw.mem.length b.raw.ords.length d.raw = true := fun d h => deedOk_raw h
  simp only [two, List.map_cons, List.map_nil, List.mem_cons, List.not_mem_nil, or_false] at hf
  rcases hf with rfl | rfl
  · unfold fenceOk
    rw [Bool.and_eq_true, Bool.and_eq_true, decide_eq_true_eq, decide_eq_true_eq]
    exact ⟨⟨Int.le_refl _, Int.natCast_nonneg _⟩, .inl rfl, hd .wait True.intro⟩
  · unfold fenceOk
    rw [Bool.and_eq_true, Bool.and_eq_true, decide_eq_true_eq, decide_eq_true_eq]
    exact ⟨⟨Int.le_refl _, Int.natCast_nonneg _⟩, .inr (.inr rfl), hd (.drop 0) (by show (0 : Nat) < b.mem.length / 4; omega)⟩
theorem al_told {b : Bd} (g : Good b) (h : b.prog.length ≤ 50) (p : List Bool) : Al 6 (.list (toldD b p)) := by
  obtain ⟨gok, grows, gbeats⟩ := gone_ok g p
  have gml := gok.len
  have gl := g.lines
  have hsl := saidOf_len (goneOf b p).rows
  have sm := plainOf_small g
  have hsr := sm.r
  have hsf := sm.f
  have hss := sm.s
  have hml : (plainOf b).mem.length = b.mem.length := plain_mem_len _ _ _
  have hfc := fully_count g
  have hal := amissOf_len g p
  have seen : ∀ ss : List (Nat × Int), ∀ d ∈ ss.map pySeen, Al 3 d := fun ss d hd => by
    obtain ⟨s, _, rfl⟩ := List.mem_map.mp hd
    refine al_tup (by simp) ?_
    intro e he
    simp only [List.mem_cons, List.not_mem_nil, or_false] at he
    rcases he with rfl | rfl <;> exact al_int
  refine al_lst (by simp [toldD]) fun d hd => ?_
  simp only [toldD, List.mem_cons, List.not_mem_nil, or_false] at hd
  rcases hd with rfl | rfl | rfl | rfl | rfl | rfl | rfl | rfl | rfl
  · exact al_mono (n := 2) (by decide) (al_rows (gone_rows b p) (by omega))
  · refine al_mono (n := 3) (by decide) (al_tup (by simp) fun e he => ?_)
    simp only [List.mem_cons, List.not_mem_nil, or_false] at he
    rcases he with rfl | rfl | rfl
    · exact al_tup (by rw [List.length_map]; omega) al_ints
    · exact al_tup (by rw [List.length_map]; omega) al_ints
    · exact al_int
  · refine al_mono (n := 3) (by decide) (al_tup (by simp) fun e he => ?_)
    simp only [List.mem_cons, List.not_mem_nil, or_false] at he
    rcases he with rfl | rfl
    · exact al_tup (by rw [List.length_map]; omega) al_ints
    · exact al_tup (by rw [List.length_map]; omega) al_ints
  · refine al_tup (by simp) fun e he => ?_
    simp only [List.mem_cons, List.not_mem_nil, or_false] at he
    rcases he with rfl | rfl
    · exact al_lst (by rw [List.length_map]; omega) (seen _)
    · exact al_lst (by rw [List.length_map]; omega) (seen _)
  · exact al_mono (n := 2) (by decide) (al_rowsL (amiss_words b p) (by omega))
  · exact al_mono (n := 3) (by decide) (al_tfs (n := 0) (by omega))
  · exact al_str (wordOf_ok b)
  · exact al_str g.sm.strOk
  · exact al_mono (n := 3) (by decide) (al_board (n := 0) (two_good g h))
end BC
/-! BCTold2: what was told stays. -/
namespace BC
open PySem PySem.Spec PyProof.Rows L2
/-- a list that was told stands at t, its lists at G -/
structure TS (H : Hp) (t : Addr) (ds : List PyData) (G : List Addr) : Prop where
  ex : ∃ xs, H t = some (.lst xs) ∧ Items H xs ds G
  out : t ∉ G
abbrev TG2 := Addr × List Addr
def allOf (tg : TG2) : List Addr := tg.1 :: tg.2
theorem TS.fr {H H' : Hp} {t : Addr} {ds : List PyData} {G F : List Addr} (h : TS H t ds G) (f : Fr F H H') (k : Kp H H') (n : ∀ a ∈ t :: G, a ∉ F) : TS H' t ds G := by
  obtain ⟨xs, h1, h2⟩ := h.ex
  exact ⟨⟨xs, f _ _ h1 (n _ List.mem_cons_self), h2.fr f k fun a ha => n a (List.mem_cons_of_mem _ ha)⟩, h.out⟩
theorem TS.ex' {H H' : Hp} {t : Addr} {ds : List PyData} {G : List Addr} (h : TS H t ds G) (e : Ex H H') : TS H' t ds G := h.fr (F := []) e.fr e.kp (by simp)
theorem TS.some {H : Hp} {t : Addr} {ds : List PyData} {G : List Addr} (h : TS H t ds G) : ∀ a ∈ t :: G, H a ≠ none := fun a ha z => by
  obtain ⟨xs, h1, h2⟩ := h.ex
  rcases List.mem_cons.mp ha with rfl | ha
  · rw [h1] at z
    cases z
  · obtain ⟨_, _, h3, _⟩ := h2.lists a ha
    rw [h3] at z
    cases z
theorem TS.dp {K : PySem.W.Frag} {H : Hp} {t : Addr} {ds : List PyData} {G : List Addr} (h : TS H t ds G) : Dp K H (.ref t) (.list ds) := by
  obtain ⟨xs, h1, h2⟩ := h.ex
  exact .lst (SqL.of h1) h2.dp
theorem st_neTold {K : PySem.W.Frag} {H : Hp} {Q : VK} {t k : Addr} {ds : List PyData} {G F : List Addr} (h : TS H t ds G) (g : TS H k ds F) (s : Sh 6 (.list ds)) (q : Q (.bl false) H) : rNeD K (.ref t) (.ref k) H Q := by
  refine st_neD h.dp g.dp s.shaped s.shaped ?_
  rw [eqv_same s]
  exact q
theorem st_eqTold {K : PySem.W.Frag} {H : Hp} {Q : VK} {t k : Addr} {ds : List PyData} {G F : List Addr} (h : TS H t ds G) (g : TS H k ds F) (s : Sh 6 (.list ds)) (q : Q (.bl true) H) : rEqD K (.ref t) (.ref k) H Q := by
  refine st_eqD h.dp g.dp s.shaped s.shaped ?_
  rw [eqv_same s]
  exact q
theorem told_tups {b : Bd} (g : Good b) (p : List Bool) : ∀ d ∈ toldD b p, ∀ es, d = .tuple es → es.length ≤ 50000 := fun d hd es he => by
  subst he
  simp only [toldD, List.mem_cons, List.not_mem_nil, or_false, reduceCtorEq, PyData.tuple.injEq, false_or, or_false] at hd
  rcases hd with rfl | rfl | rfl | rfl <;> simp
theorem Item.keepAt {H H' : Hp} {v : V} {d : PyData} {F : List Addr} (h : Item H v d F) (n : ∀ a ∈ F, H' a = H a) (k : Kp H H') : Item H' v d F := by
  cases h with
  | im h => exact .im (h.kp k)
  | lst h i m => exact .lst ((n _ List.mem_cons_self).trans h) (i.kp k) m
  | two ht hr ir hf jf n1 n2 => exact .two (k _ _ ht) ((n _ List.mem_cons_self).trans hr) (ir.kp k) ((n _ (List.mem_cons_of_mem _ List.mem_cons_self)).trans hf) (jf.kp k) n1 n2
theorem Items.keepAt {H H' : Hp} (k : Kp H H') : ∀ {vs : List V} {ds : List PyData} {G : List Addr}, Items H vs ds G → (∀ a ∈ G, H' a = H a) → Items H' vs ds G
  | _, _, _, .nil, _ => .nil
  | _, _, _, .cons h t, n => .cons (h.keepAt (fun a ha => n a (List.mem_append_left _ ha)) k) (t.keepAt k fun a ha => n a (List.mem_append_right _ ha))
theorem tupOf {H : Hp} {a : Addr} {ds : List PyData} {xs : List V} (h : H a = some (.tup xs)) (i : ImL H ds xs) : Im H (.tuple ds) (.ref a) := im_tup h i
end BC
/-! the law's own text: where each def stands, what the top has written. -/
namespace BC
open PySem PySem.Spec PyProof.Rows L2
open C8 (tCut pss_cut)
def topS (i : Nat) : Stmt := PySem.Challenge.pw_blockcarrier_k16_asked_again.main.body.getD i (.Pass ⟨0, 0, 0, 0⟩)
abbrev s_is_from : Stmt := topS 13
abbrev s_lines_in : Stmt := topS 14
abbrev s_memory_fault : Stmt := topS 15
abbrev s_is_order : Stmt := topS 16
abbrev s_is_deed : Stmt := topS 17
abbrev s_check_board : Stmt := topS 18
abbrev s_moves_of : Stmt := topS 19
abbrev s_Machine___init__ : Stmt := inClass (topS 21) 0
abbrev s_Machine_copied : Stmt := inClass (topS 21) 1
abbrev s_Machine_note : Stmt := inClass (topS 21) 2
abbrev s_Machine_take : Stmt := inClass (topS 21) 3
abbrev s_Machine_read : Stmt := inClass (topS 21) 4
abbrev s_Machine_write : Stmt := inClass (topS 21) 5
abbrev s_Machine_clean : Stmt := inClass (topS 21) 6
abbrev s_Machine_drop : Stmt := inClass (topS 21) 7
abbrev s_Machine_process : Stmt := inClass (topS 21) 8
abbrev s_Machine_may_rest : Stmt := inClass (topS 21) 9
abbrev s_Machine_carry : Stmt := inClass (topS 21) 10
abbrev s_Machine_is_over : Stmt := inClass (topS 21) 11
abbrev s_Machine_finish : Stmt := inClass (topS 21) 12
abbrev s_Machine_key : Stmt := inClass (topS 21) 13
abbrev s_gone : Stmt := topS 23
abbrev s_story : Stmt := topS 24
abbrev s_ended : Stmt := topS 25
abbrev s_Plain___init__ : Stmt := inClass (topS 27) 0
abbrev s_Plain_look : Stmt := inClass (topS 27) 1
abbrev s_Plain_does : Stmt := inClass (topS 27) 2
abbrev s_plain_end : Stmt := topS 28
abbrev s_sights : Stmt := topS 29
abbrev s_amiss : Stmt := topS 31
abbrev s_Judge___init__ : Stmt := inClass (topS 32) 0
abbrev s_Judge_is_amiss : Stmt := inClass (topS 32) 1
abbrev s_Judge_torn : Stmt := inClass (topS 32) 2
abbrev s_Judge_onward : Stmt := inClass (topS 32) 3
abbrev s_judged : Stmt := topS 33
abbrev s_check_fences : Stmt := topS 36
abbrev s_put_in : Stmt := topS 37
abbrev s_fenced : Stmt := topS 38
abbrev s_fully : Stmt := topS 39
abbrev s_number_text : Stmt := topS 41
abbrev s_written : Stmt := topS 42
abbrev s__law_begun : Stmt := topS 44
abbrev s__law_take : Stmt := topS 45
abbrev s__law_order : Stmt := topS 46
abbrev s__law_deed : Stmt := topS 47
abbrev s__law_board : Stmt := topS 48
abbrev s__law_pace : Stmt := topS 49
abbrev s__law_told : Stmt := topS 50
abbrev s__law_spoil : Stmt := topS 51
abbrev s__law_kept : Stmt := topS 52
abbrev s__law_kinds : Stmt := topS 53
abbrev s_law : Stmt := topS 54
/-- where the classes stand -/
structure Cl where
  Machine : Addr
  Plain : Addr
  Judge : Addr
/-- what the top has written -/
structure Txt (K : PySem.W.Frag) (mg : Str → Option Value) (c : Cl) : Prop where
  len : mg "len" = none
  range : mg "range" = none
  min : mg "min" = none
  int : mg "int" = none
  list : mg "list" = none
  tuple : mg "tuple" = none
  sorted : mg "sorted" = none
  enumerate : mg "enumerate" = none
  isinstance : mg "isinstance" = none
  str : mg "str" = none
  ValueError : mg "ValueError" = none
  g_WIDE : HasC mg "WIDE" (.int 4)
  g_MOST_LINES : HasC mg "MOST_LINES" (.int 4)
  g_MOST_DIGIT : HasC mg "MOST_DIGIT" (.int 9)
  g_MOST_ORDERS : HasC mg "MOST_ORDERS" (.int 4)
  g_MOST_CELLS : HasC mg "MOST_CELLS" (.int 8)
  g_MOST_DEEDS : HasC mg "MOST_DEEDS" (.int 60)
  g_MOST_STARTS : HasC mg "MOST_STARTS" (.int 3)
  g_MOST_FENCES : HasC mg "MOST_FENCES" (.int 30)
  g_FENCES : ∃ a, HasC mg "FENCES" (.ref a) ∧ ∀ H, SqT K H a [.str "wait", .str "clean", .str "drop"]
  F_is_from : ∃ f fd, Fun K "is_from" "is_from" s_is_from f fd ∧ mg "is_from" = some (.ref f)
  F_lines_in : ∃ f fd, Fun K "lines_in" "lines_in" s_lines_in f fd ∧ mg "lines_in" = some (.ref f)
  F_memory_fault : ∃ f fd, Fun K "memory_fault" "memory_fault" s_memory_fault f fd ∧ mg "memory_fault" = some (.ref f)
  F_is_order : ∃ f fd, Fun K "is_order" "is_order" s_is_order f fd ∧ mg "is_order" = some (.ref f)
  F_is_deed : ∃ f fd, Fun K "is_deed" "is_deed" s_is_deed f fd ∧ mg "is_deed" = some (.ref f)
  F_check_board : ∃ f fd, Fun K "check_board" "check_board" s_check_board f fd ∧ mg "check_board" = some (.ref f)
  F_moves_of : ∃ f fd, Fun K "moves_of" "moves_of" s_moves_of f fd ∧ mg "moves_of" = some (.ref f)
  F_Machine___init__ : ∃ f fd, Fun K "__init__" "Machine.__init__" s_Machine___init__ f fd ∧ Mk K c.Machine f
  F_Machine_copied : ∃ f fd, Fun K "copied" "Machine.copied" s_Machine_copied f fd ∧ Meth K c.Machine "copied" f
  F_Machine_note : ∃ f fd, Fun K "note" "Machine.note" s_Machine_note f fd ∧ Meth K c.Machine "note" f
  F_Machine_take : ∃ f fd, Fun K "take" "Machine.take" s_Machine_take f fd ∧ Meth K c.Machine "take" f
  F_Machine_read : ∃ f fd, Fun K "read" "Machine.read" s_Machine_read f fd ∧ Meth K c.Machine "read" f
  F_Machine_write : ∃ f fd, Fun K "write" "Machine.write" s_Machine_write f fd ∧ Meth K c.Machine "write" f
  F_Machine_clean : ∃ f fd, Fun K "clean" "Machine.clean" s_Machine_clean f fd ∧ Meth K c.Machine "clean" f
  F_Machine_drop : ∃ f fd, Fun K "drop" "Machine.drop" s_Machine_drop f fd ∧ Meth K c.Machine "drop" f
  F_Machine_process : ∃ f fd, Fun K "process" "Machine.process" s_Machine_process f fd ∧ Meth K c.Machine "process" f
  F_Machine_may_rest : ∃ f fd, Fun K "may_rest" "Machine.may_rest" s_Machine_may_rest f fd ∧ Meth K c.Machine "may_rest" f
  F_Machine_carry : ∃ f fd, Fun K "carry" "Machine.carry" s_Machine_carry f fd ∧ Meth K c.Machine "carry" f
  F_Machine_is_over : ∃ f fd, Fun K "is_over" "Machine.is_over" s_Machine_is_over f fd ∧ Meth K c.Machine "is_over" f
  F_Machine_finish : ∃ f fd, Fun K "finish" "Machine.finish" s_Machine_finish f fd ∧ Meth K c.Machine "finish" f
  F_Machine_key : ∃ f fd, Fun K "key" "Machine.key" s_Machine_key f fd ∧ Meth K c.Machine "key" f
  F_gone : ∃ f fd, Fun K "gone" "gone" s_gone f fd ∧ mg "gone" = some (.ref f)
  F_story : ∃ f fd, Fun K "story" "story" s_story f fd ∧ mg "story" = some (.ref f)
  F_ended : ∃ f fd, Fun K "ended" "ended" s_ended f fd ∧ mg "ended" = some (.ref f)
  F_Plain___init__ : ∃ f fd, Fun K "__init__" "Plain.__init__" s_Plain___init__ f fd ∧ Mk K c.Plain f
  F_Plain_look : ∃ f fd, Fun K "look" "Plain.look" s_Plain_look f fd ∧ Meth K c.Plain "look" f
  F_Plain_does : ∃ f fd, Fun K "does" "Plain.does" s_Plain_does f fd ∧ Meth K c.Plain "does" f
  F_plain_end : ∃ f fd, Fun K "plain_end" "plain_end" s_plain_end f fd ∧ mg "plain_end" = some (.ref f)
  F_sights : ∃ f fd, Fun K "sights" "sights" s_sights f fd ∧ mg "sights" = some (.ref f)
  F_amiss : ∃ f fd, Fun K "amiss" "amiss" s_amiss f fd ∧ mg "amiss" = some (.ref f)
  F_Judge___init__ : ∃ f fd, Fun K "__init__" "Judge.__init__" s_Judge___init__ f fd ∧ Mk K c.Judge f
  F_Judge_is_amiss : ∃ f fd, Fun K "is_amiss" "Judge.is_amiss" s_Judge_is_amiss f fd ∧ Meth K c.Judge "is_amiss" f
  F_Judge_torn : ∃ f fd, Fun K "torn" "Judge.torn" s_Judge_torn f fd ∧ Meth K c.Judge "torn" f
  F_Judge_onward : ∃ f fd, Fun K "onward" "Judge.onward" s_Judge_onward f fd ∧ Meth K c.Judge "onward" f
  F_judged : ∃ f fd, Fun K "judged" "judged" s_judged f fd ∧ mg "judged" = some (.ref f)
  F_check_fences : ∃ f fd, Fun K "check_fences" "check_fences" s_check_fences f fd ∧ mg "check_fences" = some (.ref f)
  F_put_in : ∃ f fd, Fun K "put_in" "put_in" s_put_in f fd ∧ mg "put_in" = some (.ref f)
  F_fenced : ∃ f fd, Fun K "fenced" "fenced" s_fenced f fd ∧ mg "fenced" = some (.ref f)
  F_fully : ∃ f fd, Fun K "fully" "fully" s_fully f fd ∧ mg "fully" = some (.ref f)
  F_number_text : ∃ f fd, Fun K "number_text" "number_text" s_number_text f fd ∧ mg "number_text" = some (.ref f)
  F_written : ∃ f fd, Fun K "written" "written" s_written f fd ∧ mg "written" = some (.ref f)
  F__law_begun : ∃ f fd, Fun K "_law_begun" "_law_begun" s__law_begun f fd ∧ mg "_law_begun" = some (.ref f)
  F__law_take : ∃ f fd, Fun K "_law_take" "_law_take" s__law_take f fd ∧ mg "_law_take" = some (.ref f)
  F__law_order : ∃ f fd, Fun K "_law_order" "_law_order" s__law_order f fd ∧ mg "_law_order" = some (.ref f)
  F__law_deed : ∃ f fd, Fun K "_law_deed" "_law_deed" s__law_deed f fd ∧ mg "_law_deed" = some (.ref f)
  F__law_board : ∃ f fd, Fun K "_law_board" "_law_board" s__law_board f fd ∧ mg "_law_board" = some (.ref f)
  F__law_pace : ∃ f fd, Fun K "_law_pace" "_law_pace" s__law_pace f fd ∧ mg "_law_pace" = some (.ref f)
  F__law_told : ∃ f fd, Fun K "_law_told" "_law_told" s__law_told f fd ∧ mg "_law_told" = some (.ref f)
  F__law_spoil : ∃ f fd, Fun K "_law_spoil" "_law_spoil" s__law_spoil f fd ∧ mg "_law_spoil" = some (.ref f)
  F__law_kept : ∃ f fd, Fun K "_law_kept" "_law_kept" s__law_kept f fd ∧ mg "_law_kept" = some (.ref f)
  F__law_kinds : ∃ f fd, Fun K "_law_kinds" "_law_kinds" s__law_kinds f fd ∧ mg "_law_kinds" = some (.ref f)
  F_law : ∃ f fd, Fun K "law" "law" s_law f fd ∧ mg "law" = some (.ref f)
  mg_Machine : mg "Machine" = some (.ref c.Machine)
  cl_Machine : Cls K c.Machine
  na_Machine_memory : NoAttr K c.Machine "memory"
  na_Machine_orders : NoAttr K c.Machine "orders"
  na_Machine_program : NoAttr K c.Machine "program"
  na_Machine_held : NoAttr K c.Machine "held"
  na_Machine_left : NoAttr K c.Machine "left"
  na_Machine_at : NoAttr K c.Machine "at"
  na_Machine_beats : NoAttr K c.Machine "beats"
  na_Machine_rows : NoAttr K c.Machine "rows"
  na_Machine_idle : NoAttr K c.Machine "idle"
  na_Machine_many_reads : NoAttr K c.Machine "many_reads"
  na_Machine_many_fetches : NoAttr K c.Machine "many_fetches"
  mg_Plain : mg "Plain" = some (.ref c.Plain)
  cl_Plain : Cls K c.Plain
  na_Plain_memory : NoAttr K c.Plain "memory"
  na_Plain_reads : NoAttr K c.Plain "reads"
  na_Plain_fetches : NoAttr K c.Plain "fetches"
  na_Plain_said : NoAttr K c.Plain "said"
  mg_Judge : mg "Judge" = some (.ref c.Judge)
  cl_Judge : Cls K c.Judge
  na_Judge_board : NoAttr K c.Judge "board"
  na_Judge_aim : NoAttr K c.Judge "aim"
  na_Judge_met : NoAttr K c.Judge "met"
end BC
namespace BC
open PySem PySem.Spec PyProof.Rows L2
open C8 (tCut pss_cut)
local macro_rules | `(tactic| walk_at "kp") => `(tactic| first
  | exact Kp.refl _ | assumption | exact Ex.kp (by assumption)
  | (refine Kp.new (by assumption) ?_; walk_at "kp")
  | (refine Kp.mut (nt_of (by assumption) trivial) ?_; walk_at "kp")
  | (refine Kp.trans ?_ (by assumption); walk_at "kp")
  | (refine Kp.trans ?_ (Ex.kp (by assumption)); walk_at "kp"))
local macro_rules | `(tactic| walk_at "ex") => `(tactic| first
  | exact Ex.refl _ | assumption
  | (refine Ex.trans ?_ (Ex.new (by assumption)); walk_at "ex")
  | (refine Ex.trans ?_ (by assumption); walk_at "ex"))
local macro_rules | `(tactic| walk_at "rd1") => `(tactic| first
  | with_reducible refine st_seq ?_ | with_reducible refine st_asg ?_ | with_reducible refine st_ret ?_ | with_reducible refine st_retN ?_ | with_reducible refine st_drop ?_ | with_reducible refine st_ifS ?_ | with_reducible refine st_name ?_
  | with_reducible refine st_var rfl ?_ | with_reducible refine st_c ?_ | with_reducible refine st_op ?_ | with_reducible refine st_un ?_ | with_reducible refine st_if ?_
  | with_reducible refine st_cons ?_ | with_reducible refine st_nil ?_ | with_reducible refine st_call ?_ | with_reducible refine st_CB ?_ | with_reducible refine st_tup ?_ | with_reducible refine st_lst ?_
  | with_reducible refine st_test ?_ | with_reducible refine st_tB ?_ | with_reducible refine st_and ?_ | with_reducible refine st_or ?_ | with_reducible refine st_not ?_ | with_reducible refine st_andV ?_ | with_reducible refine st_orV ?_ | with_reducible refine st_notV ?_
  | with_reducible refine st_bl ?_ | with_reducible refine st_T ?_ | with_reducible refine st_F ?_ | with_reducible refine st_next ?_ | with_reducible refine st_brk ?_ | with_reducible refine st_cont ?_
  | with_reducible refine st_I0 ?_ | with_reducible refine st_eqI ?_ | with_reducible refine st_neI ?_ | with_reducible refine st_eqS ?_ | with_reducible refine st_neS ?_ | with_reducible refine st_eqB ?_ | with_reducible refine st_neB ?_
  | with_reducible refine st_isN0 ?_ | with_reducible refine st_isNI ?_ | with_reducible refine st_isNR ?_ | with_reducible refine st_notN0 ?_ | with_reducible refine st_notNI ?_ | with_reducible refine st_notNR ?_ | with_reducible refine st_isN ?_ | with_reducible refine st_notN ?_
  | with_reducible refine st_intS ?_ | with_reducible refine st_intN (by decide) ?_ | with_reducible refine st_intB ?_ | with_reducible refine st_oT1 ?_ | with_reducible refine st_oT2 ?_ | with_reducible refine st_oF (by decide) (by decide) ?_ | with_reducible refine st_min ?_ | with_reducible refine st_gnil ?_ | with_reducible refine st_gcons ?_ | with_reducible refine st_bm ?_ | with_reducible refine st_bm0 ?_ | with_reducible refine st_yes ?_ | with_reducible refine st_lcR ?_ | with_reducible refine st_lcL ?_ | with_reducible refine st_lcU ?_ | with_reducible refine st_sT ?_ | with_reducible refine st_sF (by decide) ?_ | with_reducible refine st_wL ?_ | with_reducible refine st_wT ?_ | with_reducible refine st_wR ?_ | with_reducible refine st_wE ?_ | with_reducible refine st_NT ?_ | with_reducible refine st_NF ?_ | with_reducible refine st_fld ?_ | with_reducible refine st_sfld ?_ | with_reducible refine st_meth ?_ | with_reducible refine st_make ?_ | with_reducible refine st_fldaug ?_ | with_reducible refine st_gsub ?_ | with_reducible refine st_dget ?_ | with_reducible refine st_din ?_ | with_reducible refine st_dnotin ?_ | with_reducible refine st_dput ?_ | with_reducible refine st_nnot ?_ | with_reducible refine st_nput ?_ | with_reducible refine st_wK ?_ | with_reducible refine st_dupd ?_ | with_reducible refine st_dpop ?_ | with_reducible refine st_pcons ?_ | with_reducible refine st_pnil ?_ | with_reducible refine st_sl ?_ | with_reducible refine st_npart ?_ | with_reducible refine st_part ?_ | with_reducible refine st_pint ?_ | with_reducible refine st_aug rfl ?_ | with_reducible refine st_ip ?_ | with_reducible refine st_fdiv ⟨by decide, by decide⟩ ?_ | with_reducible refine st_mod (by decide) ?_)
local macro_rules | `(tactic| walk_at "rd") => `(tactic| repeat walk_at "rd1")
/-! ### moves_of -/
theorem sc_moves_of : FnScope ["orders", "number", "found", "source", "goal", "many", "later", "step"] ["orders", "number"] (defScope s_moves_of) := ⟨rfl, rfl, rfl, by decide +kernel, rfl, by decide +kernel, by decide +kernel⟩
def vN (o : Option Nat) : V := vOpt (oN o)
/-- the new list l holds these -/
def NewList (H H' : Hp) (l : Addr) (ds : List PyData) : Prop := H l = none ∧ Ex H H' ∧ ∃ xs, H' l = some (.lst xs) ∧ ImL H' ds xs
def sp_moves_of : Sp := fun vs H Q _ => ∃ (x : V) (cells : Nat) (os : List Ord) (k : Nat), vs = [x, .int (k : Int)] ∧ Im H (pyOrds (os.map Ord.raw)) x ∧ OrdsOk cells os ∧ os.length ≤ 4 ∧ k < os.length ∧
  ∀ l H', NewList H H' l ((movesOf os k).map pyMv) → Q (.ref l) H'
theorem cal_moves_of {P w base K mg c} (T : Txt K mg c) : Cal CX0 P w K mg base 1 "moves_of" sp_moves_of := by
  obtain ⟨f, fd, F, m⟩ := T.F_moves_of
  refine cal_of F m (fun _ _ _ _ _ _ us hl => match us, hl with | [_, _], _ => rfl) sc_moves_of (fun vs H Q E h => ?_) (fun cdv A outer s H vs Q E hr h => ?_)
  · obtain ⟨x, cells, os, k, rfl, _⟩ := h
    rfl
  · obtain ⟨x, cells, os, k, rfl, hx, g, h4, hk, q⟩ := h
    refine ⟨_, (pss_cons (ps_set (i := 2) sc_moves_of.nd rfl (.inl rfl) (pe_lst pa_nil))
      (pss_cons (ps_while PassesOwn.never (pt_cmpR o_notN (pv 1) pe_non (nomark _))
      (pss_cons (ps_asg (pe_ix ix_tup (pv 0) (pv 1) (fun _ _ => rfl)) (pg_tup (n := 4) rfl (pgs_cons (pg_name (i := 3) sc_moves_of.nd rfl (.inl rfl)) (pgs_cons (pg_name (i := 4) sc_moves_of.nd rfl (.inl rfl)) (pgs_cons (pg_name (i := 5) sc_moves_of.nd rfl (.inl rfl)) (pgs_cons (pg_name (i := 6) sc_moves_of.nd rfl (.inl rfl)) pgs_nil))))))
      (pss_cons (ps_for PassesOwn.never rfl (pi_range1 rfl T.range (pa_cons (pv 5) pa_nil)) (pg_name (i := 7) sc_moves_of.nd rfl (.inl rfl))
      (pss_one (ps_expr (pe_bm PySem.F.plainAttrs_list PySem.F.slot_list_append PySem.F.type_list_append mt_append (pv 2) (pa_cons (pe_tup (pa_cons (pe_op op_add (pv 3) (pv 7)) (pa_cons (pe_op op_add (pv 4) (pv 7)) (pa_cons (pe_ifExp (pt_cmpR op_eq (pv 7) (pe_op op_sub (pv 5) pe_int) (nomark _)) (pv 1) pe_non) pa_nil)))) pa_nil)))))
      (pss_one (ps_set (i := 1) sc_moves_of.nd rfl (.inl rfl) (pv 6))))))
      (pss_one (ps_ret (pv 2))))), ?_⟩
    walk_at "rd"
    refine st_newL (by decide) fun l H1 nl e1 hl => ?_
    walk_at "rd"
    -- while number is not None
    refine ⟨fun m σ H2 => ∃ (cur : Option Nat) (done : List Mv) (xs : List V) (a b c d e : Option V), σ = [some x, some (vN cur), some (.ref l), a, b, c, d, e] ∧ Ex H H2 ∧ H2 l = some (.lst xs) ∧ ImL H2 (done.map pyMv) xs ∧
      done ++ movesO os cur = movesOf os k ∧ (∀ j, cur = some j → j < os.length) ∧ m = (match cur with | none => 0 | some j => os.length - j), ⟨os.length - k, some k, [], [], _, _, _, _, _, rfl, e1, hl, iml_nil, rfl, fun j hj => by cases hj; exact hk, rfl⟩, fun m σ H2 hW => ?_⟩
    obtain ⟨cur, done, xs, a, b, c, d, e, rfl, e2, hl2, hxs, hd, hj, hm⟩ := hW
    walk_at "rd"
    cases cur with
    | none =>
      show if (!decide (V.non = V.non)) = true then _ else _
      rw [decide_eq_true rfl]
      walk_at "rd"
      have e0 : done = movesOf os k := by
        rw [← hd]
        exact (List.append_nil done).symm
      subst e0
      exact q l H2 ⟨nl, e2, xs, hl2, hxs⟩
    | some j =>
      have hj' : j < os.length := hj j rfl
      show if (!decide (V.int (j : Int) = V.non)) = true then _ else _
      rw [decide_eq_false (fun z => by cases z)]
      walk_at "rd"
      refine ⟨_, fun _ _ h => h, ?_⟩
      walk_at "rd"
      have ho : os[j]? = some os[j] := List.getElem?_eq_getElem hj'
      generalize eo : os[j] = o at ho
      refine st_ixT hx e2.kp (atI_nat (map_at (map_at ho))) fun v hv => ?_
      refine st_gtup hv (Kp.refl _) rfl fun ys hys => ?_
      cases ord_inv hys
      walk_at "rd"
      obtain ⟨b1, b2, b3, b4, b5⟩ := g.ok j o ho
      refine st_walkR (n := o.many) (by omega) (fun i σ H3 => ∃ (zs : List V) (y : Option V), σ = [some x, some (.int (j : Int)), some (.ref l), some (.int (o.src : Int)), some (.int (o.dst : Int)), some (.int (o.many : Int)), some (vN o.later), y] ∧ Ex H H3 ∧ H3 l = some (.lst zs) ∧ ImL H3 ((done ++ (List.range i).map (mvAt o j)).map pyMv) zs) ⟨xs, e, rfl, e2, hl2, by simpa using hxs⟩ (fun i σ' H3 hi p => ?_) (fun σ' H3 p => ?_)
      · obtain ⟨zs, y, rfl, e3, hl3, hzs⟩ := p
        walk_at "rd"
        refine tyL hl3 ?_
        walk_at "rd"
        have hlen : zs.length ≤ 32 := by
          have h1 : (movesOf os k).length ≤ 8 * os.length := moves_len g _ _
          have h2 : (movesOf os k).length = done.length + (movesO os (some j)).length := by rw [← hd, List.length_append]
          rw [movesO_some g ho, List.length_append, movesOne_len] at h2
          rw [hzs.length, List.length_map, List.length_append, List.length_map, List.length_range]
          omega
        have nx : ∀ (H5 : Hp) (p : Addr) (v : V), v = vN (if i + 1 = o.many then some j else none) → Ex H H5 → H5 p = some (.tup [.int ((o.src : Int) + (i : Int)), .int ((o.dst : Int) + (i : Int)), v]) → H5 l = some (.lst (zs ++ [.ref p])) → Kp H3 H5 →
            ∃ (zs : List V) (y : Option V), [some x, some (.int (j : Int)), some (.ref l), some (.int (o.src : Int)), some (.int (o.dst : Int)), some (.int (o.many : Int)), some (vN o.later), some (.int (i : Int))] = [some x, some (.int (j : Int)), some (.ref l), some (.int (o.src : Int)), some (.int (o.dst : Int)), some (.int (o.many : Int)), some (vN o.later), y] ∧ Ex H H5 ∧ H5 l = some (.lst zs) ∧ ImL H5 ((done ++ (List.range (i + 1)).map (mvAt o j)).map pyMv) zs := by
          intro H5 p v ev e5 hp hl5 k5
          refine ⟨zs ++ [.ref p], _, rfl, e5, hl5, ?_⟩
          rw [show done ++ (List.range (i + 1)).map (mvAt o j) = (done ++ (List.range i).map (mvAt o j)) ++ [mvAt o j i] by simp [List.range_succ], List.map_append (f := pyMv)]
          refine (hzs.kp k5).append (iml_cons (im_tup hp (iml_cons ?_ (iml_cons ?_ (iml_cons ?_ iml_nil)))) iml_nil)
          · rw [Im.int_iff]
            simp [mvAt]
          · rw [Im.int_iff]
            simp [mvAt]
          · rw [ev]
            exact im_opt.mpr rfl
        refine st_D (fun h => ?_) (fun h => ?_)
        all_goals walk_at "rd"
        all_goals refine st_newT (by simp) fun p H4 np e4 hp => ?_
        all_goals walk_at "rd"
        all_goals refine st_app (e4 l _ hl3) (sz_lt (by omega)) fun H5 f5 k5 hl5 => ?_
        all_goals walk_at "rd"
        · refine nx H5 p _ ?_ (Fr.ex (e3.trans e4) (fun a ha => by rw [List.mem_singleton.mp ha]; exact nl) f5) (k5 _ _ hp) hl5 (e4.kp.trans k5)
          rw [if_pos (by omega)]
          rfl
        · refine nx H5 p _ ?_ (Fr.ex (e3.trans e4) (fun a ha => by rw [List.mem_singleton.mp ha]; exact nl) f5) (k5 _ _ hp) hl5 (e4.kp.trans k5)
          rw [if_neg (by omega)]
          rfl
      · obtain ⟨zs, y, rfl, e3, hl3, hzs⟩ := p
        walk_at "rd"
        have hm' : m = os.length - j := hm
        refine ⟨match o.later with | none => 0 | some l => os.length - l, ?_, o.later, done ++ movesOne o j, zs, _, _, _, _, _, rfl, e3, hl3, ?_, ?_, fun l' hl' => (b5 l' hl').2, rfl⟩
        · rw [hm']
          cases e : o.later with
          | none =>
            show 0 < os.length - j
            omega
          | some l' =>
            have := b5 l' e
            show os.length - l' < os.length - j
            omega
        · exact hzs
        · rw [List.append_assoc, ← movesO_some g ho]
          exact hd
/-! ### _law_begun -/
theorem sc__law_begun : FnScope ["_law_script", "_law_stirred", "_law_cell"] ["_law_script"] (defScope s__law_begun) := ⟨rfl, rfl, rfl, by decide +kernel, rfl, by decide +kernel, by decide +kernel⟩
def sp_law_begun (K : PySem.W.Frag) : Sp := fun vs H Q _ => ∃ (a : Addr) (ns : List Int), vs = [.ref a] ∧ SqL K H a (ns.map V.int) ∧ ∀ b l H', Ex H H' → H b = none → H l = none → BoxAt H' b l → Q (.ref b) H'
theorem cal_law_begun {P w base K mg c} (T : Txt K mg c) : Cal CX0 P w K mg base 1 "_law_begun" (sp_law_begun K) := by
  obtain ⟨f, fd, F, m⟩ := T.F__law_begun
  refine cal_of F m (fun _ _ _ _ _ _ us hl => match us, hl with | [_], _ => rfl) sc__law_begun (fun vs H Q E h => ?_) (fun cdv A outer s H vs Q E hr h => ?_)
  · obtain ⟨a, ns, rfl, _⟩ := h
    rfl
  · obtain ⟨a, ns, rfl, hS, q⟩ := h
    refine ⟨_, (pss_cons (ps_set (i := 1) sc__law_begun.nd rfl (.inl rfl) pe_int)
      (pss_cons (ps_for PassesOwn.never rfl (pi_list (pv 0)) (pg_name (i := 2) sc__law_begun.nd rfl (.inl rfl))
      (pss_one (ps_set (i := 1) sc__law_begun.nd rfl (.inl rfl) (pe_op op_mod (pe_op op_add (pe_op op_add (pe_op op_mul (pv 1) pe_int) (pe_op op_mul (pv 2) pe_int)) pe_int) pe_int))))
      (pss_one (ps_ret (pe_lst (pa_cons (pe_callTy c_list (by rfl) T.list (by decide +kernel) (pa_cons (pv 0) pa_nil)) (pa_cons (pe_op op_mul (pv 1) (pe_callTy c_int (by rfl) T.int (by decide +kernel) (pa_cons (pe_cmpR op_gt (pe_callB c_len (by rfl) T.len PySem.boot_len (pa_cons (pv 0) pa_nil)) pe_int (nomark _)) pa_nil))) pa_nil))))))), ?_⟩
    walk_at "rd"
    refine st_walkLS hS (fun i σ H' => ∃ (z : Int) (y : Option V), σ = [some (.ref a), some (.int z), y] ∧ H' = H ∧ 0 ≤ z ∧ z < 2147483647) ⟨0, none, rfl, rfl, by omega, by omega⟩ (fun i σ H' p => ?_) (fun i v σ H' hv p => ?_) (fun σ H' p => ?_)
    · obtain ⟨_, _, _, rfl, _⟩ := p
      exact hS
    · obtain ⟨z, y, rfl, rfl, z1, z2⟩ := p
      obtain ⟨n, _, rfl⟩ := map_at' hv
      walk_at "rd"
      refine st_mul (.inl ⟨by omega, by omega⟩) ?_
      walk_at "rd"
      refine st_mul (.inr ⟨by decide, by decide⟩) ?_
      walk_at "rd"
      exact ⟨_, _, rfl, rfl, Int.emod_nonneg _ (by decide), Int.emod_lt_of_pos _ (by decide)⟩
    · obtain ⟨z, y, rfl, rfl, z1, z2⟩ := p
      walk_at "rd"
      refine st_listS hS fun l H1 nl e1 hl => ?_
      walk_at "rd"
      refine st_lenS (ex_l e1 hS) ?_
      walk_at "rd"
      refine st_mul (.inl ⟨by omega, by omega⟩) ?_
      walk_at "rd"
      refine st_newL (by simp) fun b H2 nb e2 hb => ?_
      refine q b l H2 (e1.trans e2) (e1.free nb) nl ⟨⟨_, hb, ?_, ?_⟩, ⟨ns, e2 _ _ hl⟩⟩
      · split <;> omega
      · split <;> omega
/-! ### _law_take -/
theorem sc__law_take : FnScope ["_law_box", "_law_many", "_law_number"] ["_law_box", "_law_many"] (defScope s__law_take) := ⟨rfl, rfl, rfl, by decide +kernel, rfl, by decide +kernel, by decide +kernel⟩
def sp_law_take : Sp := fun vs H Q _ => ∃ (b l : Addr) (m : Int), vs = [.ref b, .int m] ∧ BoxAt H b l ∧ 0 < m ∧ m.natAbs.log2 < 9000 ∧ ∀ (r : Int) H', Dr b l H H' → 0 ≤ r → r < m → Q (.int r) H'
theorem sh_empty : Sh 1 (.list []) := sh_lst (by simp)
theorem cal_law_take {P w base K mg c} (T : Txt K mg c) : Cal CX0 P w K mg base 1 "_law_take" sp_law_take := by
  obtain ⟨f, fd, F, m⟩ := T.F__law_take
  refine cal_of F m (fun _ _ _ _ _ _ us hl => match us, hl with | [_, _], _ => rfl) sc__law_take (fun vs H Q E h => ?_) (fun cdv A outer s H vs Q E hr h => ?_)
  · obtain ⟨b, l, m, rfl, _⟩ := h
    rfl
  · obtain ⟨b, l, m, rfl, hB, m0, ml, q⟩ := h
    refine ⟨_, (pss_cons (ps_if (pt_cmpR (op_eqD hr.units) (pe_ix ix_list (pv 0) pe_int (fun _ _ => rfl)) (pe_lst pa_nil) (nomark _)) (pss_cons (ps_asg (pe_op op_mod (pe_op op_mul (pe_ix ix_list (pv 0) pe_int (fun _ _ => rfl)) pe_int) pe_int) (pg_sub (pv 0) pe_int set_list))
      (pss_one (ps_ret (pe_op op_mod (pe_op op_fdiv (pe_ix ix_list (pv 0) pe_int (fun _ _ => rfl)) pe_int) (pv 1))))) pss_nil)
      (pss_cons (ps_set (i := 2) sc__law_take.nd rfl (.inl rfl) (pe_ix ix_list (pe_ix ix_list (pv 0) pe_int (fun _ _ => rfl)) pe_int (fun _ _ => rfl)))
      (pss_cons (ps_asg (pe_op op_fdivW (pv 2) (pv 1)) (pg_sub (pe_ix ix_list (pv 0) pe_int (fun _ _ => rfl)) pe_int set_list))
      (pss_cons (ps_if (PW.pt (pw_or (pt_cmpR op_eq (pe_ix ix_list (pe_ix ix_list (pv 0) pe_int (fun _ _ => rfl)) pe_int (fun _ _ => rfl)) pe_int (nomark _)) (pw_or1 (pt_cmpR op_eq (pe_ix ix_list (pe_ix ix_list (pv 0) pe_int (fun _ _ => rfl)) pe_int (fun _ _ => rfl)) (pe_un un_neg pe_int) (nomark _))))) (pss_one (ps_expr (pe_bm PySem.F.plainAttrs_list PySem.F.slot_list_pop PySem.F.type_list_pop mt_popAt (pe_ix ix_list (pv 0) pe_int (fun _ _ => rfl)) (pa_cons pe_int pa_nil)))) pss_nil)
      (pss_one (ps_ret (pe_op op_mod (pv 2) (pv 1)))))))), ?_⟩
    obtain ⟨⟨st, hb, z1, z2⟩, ⟨ns, hl⟩⟩ := id hB
    have nbl : b ≠ l := hB.ne
    have nlb : l ≠ b := fun z => nbl z.symm
    walk_at "rd"
    refine st_ixL hb (atI_nat (j := 0) rfl) ?_
    walk_at "rd"
    refine st_newL (by simp) fun e H1 ne e1 he => ?_
    refine st_eqD (lst_dp (ds := ns.map .int) (e1 _ _ hl) (ImL.ints.mpr rfl)) (lst_dp (ds := []) he iml_nil) (sh_lst (n := 0) sh_ints).shaped sh_empty.shaped ?_
    walk_at "rd"
    have hb1 := e1 _ _ hb
    have hl1 := e1 _ _ hl
    cases ns with
    | nil =>
      refine iteT ?_
      walk_at "rd"
      refine st_ixL hb1 (atI_nat (j := 1) rfl) ?_
      walk_at "rd"
      refine st_mul (.inl ⟨by omega, by omega⟩) ?_
      walk_at "rd"
      refine st_setI (k := 1) hb1 (by simp) fun H2 f2 k2 h2 => ?_
      walk_at "rd"
      refine st_ixL h2 (atI_nat (j := 1) rfl) ?_
      walk_at "rd"
      refine st_mod m0 ?_
      refine q _ H2 ⟨e1.fr.trans (f2.mono (by simp)), e1.kp.trans k2, ⟨_, h2, Int.emod_nonneg _ (by decide), Int.emod_lt_of_pos _ (by decide)⟩, ⟨[], fr1 f2 hl1 nlb⟩⟩ (Int.emod_nonneg _ (by omega)) (Int.emod_lt_of_pos _ m0)
    | cons n ns =>
      refine iteF ?_
      walk_at "rd"
      refine st_ixL hb1 (atI_nat (j := 0) rfl) ?_
      walk_at "rd"
      refine st_ixL hl1 (atI_nat (j := 0) rfl) ?_
      walk_at "rd"
      refine st_fdivW ⟨m0, ml⟩ ?_
      walk_at "rd"
      refine st_ixL hb1 (atI_nat (j := 0) rfl) ?_
      walk_at "rd"
      refine st_setI (k := 0) hl1 (by simp) fun H2 f2 k2 h2 => ?_
      have hb2 := fr1 f2 hb1 nbl
      have fin : ∀ H3, Fr [b, l] H2 H3 → Kp H2 H3 → BoxAt H3 b l → Q (.int (n % m)) H3 := fun H3 f3 k3 h3 =>
        q _ H3 ⟨(e1.fr.trans (f2.mono (by simp))).trans f3, (e1.kp.trans k2).trans k3, h3⟩ (Int.emod_nonneg _ (by omega)) (Int.emod_lt_of_pos _ m0)
      have hB2 : BoxAt H2 b l := ⟨⟨st, hb2, z1, z2⟩, ⟨(n / m) :: ns, h2⟩⟩
      have pop : ∀ Q' : VK, (∀ H3, Fr [l] H2 H3 → Kp H2 H3 → H3 l = some (.lst (ns.map V.int)) → Q' (.int (n / m)) H3) → rPopAt (.ref l) [.int 0] H2 Q' := fun Q' h => st_popAt0 h2 h
      walk_at "rd"
      refine st_ixL hb2 (atI_nat (j := 0) rfl) ?_
      walk_at "rd"
      refine st_ixL h2 (atI_nat (j := 0) rfl) ?_
      walk_at "rd"
      have last : ∀ H3, Fr [l] H2 H3 → Kp H2 H3 → H3 l = some (.lst (ns.map V.int)) → Q (.int (n % m)) H3 := fun H3 f3 k3 h3 => fin H3 (f3.mono (by simp)) k3 ⟨⟨st, fr1 f3 hb2 nbl, z1, z2⟩, ⟨ns, h3⟩⟩
      refine st_D (fun h => ?_) (fun h => ?_)
      · walk_at "rd"
        refine st_ixL hb2 (atI_nat (j := 0) rfl) ?_
        refine tyL h2 ?_
        walk_at "rd"
        refine pop _ fun H3 f3 k3 h3 => ?_
        walk_at "rd"
        refine st_mod m0 ?_
        exact last H3 f3 k3 h3
      · walk_at "rd"
        refine st_ixL hb2 (atI_nat (j := 0) rfl) ?_
        walk_at "rd"
        refine st_ixL h2 (atI_nat (j := 0) rfl) ?_
        walk_at "rd"
        refine ⟨1, rfl, ?_⟩
        walk_at "rd"
        refine st_D (fun h' => ?_) (fun h' => ?_)
        · walk_at "rd"
          refine st_ixL hb2 (atI_nat (j := 0) rfl) ?_
          refine tyL h2 ?_
          walk_at "rd"
          refine pop _ fun H3 f3 k3 h3 => ?_
          walk_at "rd"
          refine st_mod m0 ?_
          exact last H3 f3 k3 h3
        · walk_at "rd"
          refine st_mod m0 ?_
          exact fin H2 (Fr.refl _ _) (Kp.refl _) hB2
/-! ### _law_order -/
theorem sc__law_order : FnScope ["_law_box", "_law_cells", "_law_number", "_law_many", "_law_count", "_law_later"] ["_law_box", "_law_cells", "_law_number", "_law_many"] (defScope s__law_order) := ⟨rfl, rfl, rfl, by decide +kernel, rfl, by decide +kernel, by decide +kernel⟩
def sp_law_order : Sp := fun vs H Q _ => ∃ (b l : Addr) (cells i n : Nat), vs = [.ref b, .int (cells : Int), .int (i : Int), .int (n : Int)] ∧ BoxAt H b l ∧ 1 ≤ cells ∧ cells ≤ 16 ∧ i < n ∧ n ≤ 4 ∧
  ∀ (o : Ord) v H', Dr b l H H' → 1 ≤ o.many → o.many ≤ 8 → o.src + o.many ≤ cells → o.dst + o.many ≤ cells → (∀ k, o.later = some k → i < k ∧ k < n) → Im H' (pyOrd o.raw) v → Q v H'
theorem cal_law_order {P w base K mg c} (T : Txt K mg c) : Cal CX0 P w K mg base 2 "_law_order" sp_law_order := by
  obtain ⟨f, fd, F, m⟩ := T.F__law_order
  have c__law_take := cal_law_take (P := P) (w := w) (base := base) T
  refine cal_of F m (fun _ _ _ _ _ _ us hl => match us, hl with | [_, _, _, _], _ => rfl) sc__law_order (fun vs H Q E h => ?_) (fun cdv A outer s H vs Q E hr h => ?_)
  · obtain ⟨b, l, x, i, n, rfl, _⟩ := h
    rfl
  · obtain ⟨b, l, cells, i, n, rfl, hB, c1, c16, hi, hn, q⟩ := h
    refine ⟨_, (pss_cons (ps_set (i := 4) sc__law_order.nd rfl (.inl rfl) (pe_op op_add pe_int (pe_c c__law_take hr (by decide) (by rfl) (pa_cons (pv 0) (pa_cons (pe_callB (c_min rfl) (by rfl) T.min (by decide +kernel) (pa_cons pe_int (pa_cons (pv 1) pa_nil))) pa_nil)))))
      (pss_cons (ps_set (i := 5) sc__law_order.nd rfl (.inl rfl) pe_non)
      (pss_cut (ps_if (PW.pt (pw_and (pt_cmpR op_lt (pe_op op_add (pv 2) pe_int) (pv 3) (nomark _)) (pw_and1 (pt_cmpR op_eq (pe_c c__law_take hr (by decide) (by rfl) (pa_cons (pv 0) (pa_cons pe_int pa_nil))) pe_int (nomark _))))) (pss_one (ps_set (i := 5) sc__law_order.nd rfl (.inl rfl) (pe_op op_add (pe_op op_add (pv 2) pe_int) (pe_c c__law_take hr (by decide) (by rfl) (pa_cons (pv 0) (pa_cons (pe_op op_sub (pe_op op_sub (pv 3) (pv 2)) pe_int) pa_nil)))))) pss_nil)
      (pss_one (ps_ret (pe_tup (pa_cons (pe_c c__law_take hr (by decide) (by rfl) (pa_cons (pv 0) (pa_cons (pe_op op_add (pe_op op_sub (pv 1) (pv 4)) pe_int) pa_nil))) (pa_cons (pe_c c__law_take hr (by decide) (by rfl) (pa_cons (pv 0) (pa_cons (pe_op op_add (pe_op op_sub (pv 1) (pv 4)) pe_int) pa_nil))) (pa_cons (pv 4) (pa_cons (pv 5) pa_nil)))))))))), ?_⟩
    have small : ∀ z : Int, z.natAbs < 512 → z.natAbs.log2 < 9000 := fun z hz => by
      have := Nat.log2_le_self z.natAbs
      omega
    walk_at "rd"
    refine ⟨b, l, _, rfl, hB, ?_, ?_, fun r H1 d1 r0 r1 => ?_⟩
    · split <;> omega
    · split
      · exact small _ (by omega)
      · exact small _ (by decide)
    walk_at "rd"
    -- the count
    obtain ⟨m, rfl⟩ : ∃ m : Nat, r = (m : Int) := ⟨r.toNat, by omega⟩
    have hm : m + 1 ≤ 8 ∧ m + 1 ≤ cells := by
      split at r1 <;> omega
    refine st_cut (fun σ H2 => ∃ o : Option Nat, σ = [some (.ref b), some (.int (cells : Int)), some (.int (i : Int)), some (.int (n : Int)), some (.int (1 + (m : Int))), some (vOpt (oN o))] ∧ Dr b l H H2 ∧ ∀ k, o = some k → i < k ∧ k < n) ?_ fun σ H2 hM => ?_
    · walk_at "rd"
      refine st_D (fun h => ?_) (fun h => ?_)
      · walk_at "rd"
        refine ⟨b, l, 2, rfl, d1.2.2, by decide, by decide, fun r H2 d2 r0 r1 => ?_⟩
        walk_at "rd"
        refine st_D (fun h2 => ?_) (fun h2 => ?_)
        · walk_at "rd"
          refine ⟨b, l, _, rfl, d2.2.2, by omega, small _ (by omega), fun r3 H3 d3 r30 r31 => ?_⟩
          walk_at "rd"
          refine ⟨some (i + 1 + r3.toNat), ?_, (d1.trans d2).trans d3, ?_⟩
          · have e : V.int ((i : Int) + 1 + r3) = vOpt (oN (some (i + 1 + r3.toNat))) := by
              show V.int _ = V.int ((i + 1 + r3.toNat : Nat) : Int)
              congr 1
              omega
            rw [← e]
            rfl
          · intro k hk
            cases hk
            omega
        · walk_at "rd"
          exact ⟨none, rfl, d1.trans d2, by intro k hk; cases hk⟩
      · walk_at "rd"
        exact ⟨none, rfl, d1, by intro k hk; cases hk⟩
    · obtain ⟨o, rfl, d2, ho⟩ := hM
      walk_at "rd"
      refine ⟨b, l, _, rfl, d2.2.2, by omega, small _ (by omega), fun r3 H3 d3 r30 r31 => ?_⟩
      walk_at "rd"
      refine ⟨b, l, _, rfl, d3.2.2, by omega, small _ (by omega), fun r4 H4 d4 r40 r41 => ?_⟩
      walk_at "rd"
      refine st_newT (by simp) fun p H5 np e5 hp => ?_
      refine q ⟨r3.toNat, r4.toNat, m + 1, o⟩ _ H5 (((d2.trans d3).trans d4).ex e5) (by simp) hm.1 ?_ ?_ ho ?_
      · show r3.toNat + (m + 1) ≤ cells
        omega
      · show r4.toNat + (m + 1) ≤ cells
        omega
      · refine im_tup hp (iml_cons ?_ (iml_cons ?_ (iml_cons ?_ (iml_cons ?_ iml_nil))))
        · rw [Im.int_iff]
          show V.int r3 = V.int (r3.toNat : Int)
          congr 1
          omega
        · rw [Im.int_iff]
          show V.int r4 = V.int (r4.toNat : Int)
          congr 1
          omega
        · rw [Im.int_iff]
          show V.int (1 + (m : Int)) = V.int ((m + 1 : Nat) : Int)
          congr 1
          omega
        · exact im_opt.mpr rfl
/-! ### _law_deed -/
theorem sc__law_deed : FnScope ["_law_box", "_law_cells", "_law_orders", "_law_kinds_here", "_law_word", "_law_cell"] ["_law_box", "_law_cells", "_law_orders", "_law_kinds_here"] (defScope s__law_deed) := ⟨rfl, rfl, rfl, by decide +kernel, rfl, by decide +kernel, by decide +kernel⟩
/-- the words that stand for deeds -/
def words7 : List Str := ["set", "add", "say", "start", "wait", "clean", "drop"]
def sp_law_deed : Sp := fun vs H Q _ => ∃ (b l kl : Addr) (cells n : Nat) (ks : List Str), vs = [.ref b, .int (cells : Int), .int (n : Int), .ref kl] ∧ BoxAt H b l ∧ H kl = some (.lst (ks.map V.str)) ∧ kl ≠ b ∧ kl ≠ l ∧ ks ≠ [] ∧ ks.length ≤ 100 ∧ (∀ s ∈ ks, s ∈ words7) ∧
  4 ≤ cells ∧ cells ≤ 16 ∧ 1 ≤ n ∧ n ≤ 4 ∧ ∀ (d : Deed) v H', Dr b l H H' → d.Ok cells n → d.raw.1 ∈ ks → Im H' (pyDeed d.raw) v → Q v H'
theorem cal_law_deed {P w base K mg c} (T : Txt K mg c) : Cal CX0 P w K mg base 2 "_law_deed" sp_law_deed := by
  obtain ⟨f, fd, F, m⟩ := T.F__law_deed
  have c__law_take := cal_law_take (P := P) (w := w) (base := base) T
  refine cal_of F m (fun _ _ _ _ _ _ us hl => match us, hl with | [_, _, _, _], _ => rfl) sc__law_deed (fun vs H Q E h => ?_) (fun cdv A outer s H vs Q E hr h => ?_)
  · obtain ⟨b, l, kl, x, n, ks, rfl, _⟩ := h
    rfl
  · obtain ⟨b, l, kl, cells, n, ks, rfl, hB, hk, nkb, nkl, hne, hkl, hw, c4, c16, n1, n4, q⟩ := h
    refine ⟨_, (pss_cons (ps_set (i := 4) sc__law_deed.nd rfl (.inl rfl) (pe_ix ix_list (pv 3) (pe_c c__law_take hr (by decide) (by rfl) (pa_cons (pv 0) (pa_cons (pe_callB c_len (by rfl) T.len PySem.boot_len (pa_cons (pv 3) pa_nil)) pa_nil))) (fun _ _ => rfl)))
      (pss_cons (ps_if (pt_cmpR op_eq (pv 4) pe_str (nomark _)) (pss_one (ps_ret (pe_tup (pa_cons (pv 4) pa_nil)))) pss_nil)
      (pss_cons (ps_if (pt_cmpR op_in_seq (pv 4) (pe_tup (pa_cons pe_str (pa_cons pe_str pa_nil))) (by rfl)) (pss_one (ps_ret (pe_tup (pa_cons (pv 4) (pa_cons (pe_c c__law_take hr (by decide) (by rfl) (pa_cons (pv 0) (pa_cons (pe_op op_fdiv (pv 1) pe_int) pa_nil))) pa_nil))))) pss_nil)
      (pss_cons (ps_if (pt_cmpR op_eq (pv 4) pe_str (nomark _)) (pss_one (ps_ret (pe_tup (pa_cons (pv 4) (pa_cons (pe_c c__law_take hr (by decide) (by rfl) (pa_cons (pv 0) (pa_cons (pv 2) pa_nil))) pa_nil))))) pss_nil)
      (pss_cons (ps_set (i := 5) sc__law_deed.nd rfl (.inl rfl) (pe_c c__law_take hr (by decide) (by rfl) (pa_cons (pv 0) (pa_cons (pv 1) pa_nil))))
      (pss_cons (ps_if (pt_cmpR op_eq (pv 4) pe_str (nomark _)) (pss_one (ps_ret (pe_tup (pa_cons (pv 4) (pa_cons (pv 5) pa_nil))))) pss_nil)
      (pss_one (ps_ret (pe_tup (pa_cons (pv 4) (pa_cons (pv 5) (pa_cons (pe_c c__law_take hr (by decide) (by rfl) (pa_cons (pv 0) (pa_cons (pe_ix ix_list (pe_lst (pa_cons pe_int (pa_cons (pv 1) pa_nil))) (pe_callTy c_int (by rfl) T.int (by decide +kernel) (pa_cons (pe_cmpR op_eq (pv 4) pe_str (nomark _)) pa_nil)) (fun _ _ => rfl)) pa_nil))) pa_nil)))))))))))), ?_⟩
    have small : ∀ z : Int, z.natAbs < 512 → z.natAbs.log2 < 9000 := fun z hz => by
      have := Nat.log2_le_self z.natAbs
      omega
    have hpos : 0 < ks.length := List.length_pos_iff.mpr hne
    walk_at "rd"
    refine st_lenL hk ?_
    walk_at "rd"
    refine ⟨b, l, _, rfl, hB, by rw [List.length_map]; omega, small _ (by rw [List.length_map]; omega), fun r H1 d1 r0 r1 => ?_⟩
    rw [List.length_map] at r1
    obtain ⟨j, rfl⟩ : ∃ j : Nat, r = (j : Int) := ⟨r.toNat, by omega⟩
    have hj : j < ks.length := by omega
    have hk1 : H1 kl = some (.lst (ks.map V.str)) := d1.1 kl _ hk (by simp; exact ⟨nkb, nkl⟩)
    refine st_ixL hk1 (atI_nat (map_at (List.getElem?_eq_getElem hj))) ?_
    have hin : ks[j] ∈ ks := List.getElem_mem hj
    have hw7 := hw _ hin
    generalize ks[j] = s at hin hw7
    have mk1 : ∀ (H2 : Hp) (p : Addr) (s' : Str) (i : Nat), H2 p = some (.tup [.str s', .int (i : Int)]) → Im H2 (.tuple [.str s', .int (i : Int)]) (.ref p) := fun H2 p s' i hp => im_tup hp (iml_cons im_str (iml_cons im_int iml_nil))
    simp only [words7, List.mem_cons, List.not_mem_nil, or_false] at hw7
    rcases hw7 with rfl | rfl | rfl | rfl | rfl | rfl | rfl
    case inr.inr.inr.inr.inl =>
      walk_at "rd"
      refine st_newT (by simp) fun p H2 np e2 hp => ?_
      exact q .wait _ H2 (d1.ex e2) trivial hin (im_tup hp (iml_cons im_str iml_nil))
    all_goals walk_at "rd"
    all_goals refine st_newT (by simp) fun p H2 np e2 hp => ?_
    all_goals refine st_in2 hp ?_
    all_goals walk_at "rd"
    all_goals refine ⟨b, l, _, rfl, d1.2.2.ex e2, by omega, small _ (by omega), fun r3 H3 d3 r30 r31 => ?_⟩
    all_goals obtain ⟨x, rfl⟩ : ∃ x : Nat, r3 = (x : Int) := ⟨r3.toNat, by omega⟩
    all_goals walk_at "rd"
    all_goals have d3' := (d1.ex e2).trans d3
    case inr.inr.inl =>
      refine st_newT (by simp) fun p3 H4 np4 e4 hp4 => ?_
      exact q (.say x) _ H4 (d3'.ex e4) (show x < cells by omega) hin (im_tup hp4 (iml_cons im_str (iml_cons im_int iml_nil)))
    case inr.inr.inr.inl =>
      refine st_newT (by simp) fun p3 H4 np4 e4 hp4 => ?_
      exact q (.start x) _ H4 (d3'.ex e4) (show x < n by omega) hin (im_tup hp4 (iml_cons im_str (iml_cons im_int iml_nil)))
    case inr.inr.inr.inr.inr.inl =>
      refine st_newT (by simp) fun p3 H4 np4 e4 hp4 => ?_
      exact q (.clean x) _ H4 (d3'.ex e4) (show x < cells / 4 by omega) hin (im_tup hp4 (iml_cons im_str (iml_cons im_int iml_nil)))
    case inr.inr.inr.inr.inr.inr =>
      refine st_newT (by simp) fun p3 H4 np4 e4 hp4 => ?_
      exact q (.drop x) _ H4 (d3'.ex e4) (show x < cells / 4 by omega) hin (im_tup hp4 (iml_cons im_str (iml_cons im_int iml_nil)))
    all_goals refine st_newL (by simp) fun p4 H4 np4 e4 hp4 => ?_
    all_goals walk_at "rd"
    case inl =>
      refine st_ixL hp4 (atI_nat (j := 0) rfl) ?_
      walk_at "rd"
      refine ⟨b, l, 10, rfl, d3.2.2.ex e4, by decide, by decide, fun r5 H5 d5 r50 r51 => ?_⟩
      obtain ⟨y, rfl⟩ : ∃ y : Nat, r5 = (y : Int) := ⟨r5.toNat, by omega⟩
      walk_at "rd"
      refine st_newT (by simp) fun p6 H6 np6 e6 hp6 => ?_
      exact q (.set x y) _ H6 (((d3'.ex e4).trans d5).ex e6) (show x < cells ∧ y ≤ 9 by omega) hin (im_tup hp6 (iml_cons im_str (iml_cons im_int (iml_cons im_int iml_nil))))
    case inr.inl =>
      refine st_ixL hp4 (atI_nat (j := 1) rfl) ?_
      walk_at "rd"
      refine ⟨b, l, _, rfl, d3.2.2.ex e4, by omega, small _ (by omega), fun r5 H5 d5 r50 r51 => ?_⟩
      obtain ⟨y, rfl⟩ : ∃ y : Nat, r5 = (y : Int) := ⟨r5.toNat, by omega⟩
      walk_at "rd"
      refine st_newT (by simp) fun p6 H6 np6 e6 hp6 => ?_
      exact q (.add x y) _ H6 (((d3'.ex e4).trans d5).ex e6) (show x < cells ∧ y < cells by omega) hin (im_tup hp6 (iml_cons im_str (iml_cons im_int (iml_cons im_int iml_nil))))
/-! ### _law_board -/
theorem sc__law_board : FnScope ["_law_box", "_law_lines", "_law_deeds", "_law_kinds_here", "_law_cells", "_law_memory", "_law_cell", "_law_many", "_law_orders", "_law_number", "_law_program", "_law_turn", "_law_deed_here", "_law_one"] ["_law_box", "_law_lines", "_law_deeds", "_law_kinds_here"] (defScope s__law_board) := ⟨rfl, rfl, rfl, by decide +kernel, rfl, by decide +kernel, by decide +kernel⟩
/-- what a drawn board is -/
structure Drawn (lines deeds : Nat) (ks : List Str) (bd : Bd) : Prop where
  good : Good bd
  lines : bd.mem.length ≤ 4 * lines
  deeds : bd.prog.length ≤ deeds
  ords : 1 ≤ bd.ords.length
  words : ∀ d ∈ bd.prog, d.raw.1 ∈ ks ∨ ∃ c, d = .say c
def sp_law_board : Sp := fun vs H Q _ => ∃ (b l kl : Addr) (lines deeds : Nat) (ks : List Str), vs = [.ref b, .int (lines : Int), .int (deeds : Int), .ref kl] ∧ BoxAt H b l ∧ H kl = some (.lst (ks.map V.str)) ∧ kl ≠ b ∧ kl ≠ l ∧ ks ≠ [] ∧ ks.length ≤ 100 ∧ (∀ s ∈ ks, s ∈ words7) ∧
  1 ≤ lines ∧ lines ≤ 4 ∧ deeds ≤ 60 ∧ ∀ (bd : Bd) v H', Dr b l H H' → Drawn lines deeds ks bd → Im H' (pyB bd.raw) v → Q v H'
theorem cal_law_board {P w base K mg c} (T : Txt K mg c) : Cal CX0 P w K mg base 3 "_law_board" sp_law_board := by
  obtain ⟨f, fd, F, m⟩ := T.F__law_board
  have c__law_take := cal_law_take (P := P) (w := w) (base := base) T
  have c__law_order := cal_law_order (P := P) (w := w) (base := base) T
  have c__law_deed := cal_law_deed (P := P) (w := w) (base := base) T
  refine cal_of F m (fun _ _ _ _ _ _ us hl => match us, hl with | [_, _, _, _], _ => rfl) sc__law_board (fun vs H Q E h => ?_) (fun cdv A outer s H vs Q E hr h => ?_)
  · obtain ⟨b, l, kl, x, n, ks, rfl, _⟩ := h
    rfl
  · obtain ⟨b, l, kl, lines, deeds, ks, rfl, hB, hk, nkb, nkl, hne, hkl, hw, l1, l4, hd60, q⟩ := h
    refine ⟨_, (pss_cons (ps_set (i := 4) sc__law_board.nd rfl (.inr rfl) (pe_op op_mul pe_int (pe_op op_add pe_int (pe_c c__law_take hr (by decide) (by rfl) (pa_cons (pv 0) (pa_cons (pv 1) pa_nil))))))
      (pss_cons (ps_set (i := 5) sc__law_board.nd rfl (.inl rfl) (pe_callTy c_tuple (by rfl) T.tuple (by decide +kernel) (pa_cons (pe_lc (own := [("_law_cell", 6)]) (g := (gName 6)) (tt := tYes) (te := (tCall sp_law_take [] L2.E0 (tCons (tVar 0) (tCons (tC (.int 10)) tNil)))) rfl sc__law_board.nd (pi_range1 rfl T.range (pa_cons (pv 4) pa_nil)) (blkOk_by (N := ["_law_box", "_law_lines", "_law_deeds", "_law_kinds_here", "_law_cells", "_law_memory", "_law_cell", "_law_many", "_law_orders", "_law_number", "_law_program", "_law_turn", "_law_deed_here", "_law_one"]) (sc := defScope s__law_board) (own := [("_law_cell", 6)]) (by decide +kernel)) (fun _ _ _ _ _ => (pg_name (i := 6) sc__law_board.nd rfl (.inl rfl))) (fun _ _ _ _ _ => pts_nil) (fun _ _ _ _ _ => (pe_c c__law_take hr (by decide) (by rfl) (pa_cons (pv 0) (pa_cons pe_int pa_nil))))) pa_nil)))
      (pss_cons (ps_set (i := 7) sc__law_board.nd rfl (.inr rfl) (pe_op op_add pe_int (pe_c c__law_take hr (by decide) (by rfl) (pa_cons (pv 0) (pa_cons pe_int pa_nil)))))
      (pss_cons (ps_set (i := 8) sc__law_board.nd rfl (.inl rfl) (pe_callTy c_tuple (by rfl) T.tuple (by decide +kernel) (pa_cons (pe_lc (own := [("_law_number", 9)]) (g := (gName 9)) (tt := tYes) (te := (tCall sp_law_order [] L2.E0 (tCons (tVar 0) (tCons (tVar 4) (tCons (tVar 9) (tCons (tVar 7) tNil)))))) rfl sc__law_board.nd (pi_range1 rfl T.range (pa_cons (pv 7) pa_nil)) (blkOk_by (N := ["_law_box", "_law_lines", "_law_deeds", "_law_kinds_here", "_law_cells", "_law_memory", "_law_cell", "_law_many", "_law_orders", "_law_number", "_law_program", "_law_turn", "_law_deed_here", "_law_one"]) (sc := defScope s__law_board) (own := [("_law_number", 9)]) (by decide +kernel)) (fun _ _ _ _ _ => (pg_name (i := 9) sc__law_board.nd rfl (.inl rfl))) (fun _ _ _ _ _ => pts_nil) (fun _ _ _ _ _ => (pe_c c__law_order hr (by decide) (by rfl) (pa_cons (pv 0) (pa_cons (pv 4) (pa_cons (pv 9) (pa_cons (pv 7) pa_nil))))))) pa_nil)))
      (pss_cons (ps_set (i := 10) sc__law_board.nd rfl (.inl rfl) (pe_lst pa_nil))
      (pss_cons (ps_for PassesOwn.never rfl (pi_range1 rfl T.range (pa_cons (pe_c c__law_take hr (by decide) (by rfl) (pa_cons (pv 0) (pa_cons (pe_op op_add (pv 2) pe_int) pa_nil))) pa_nil)) (pg_name (i := 11) sc__law_board.nd rfl (.inl rfl))
      (pss_cons (ps_set (i := 12) sc__law_board.nd rfl (.inl rfl) (pe_c c__law_deed hr (by decide) (by rfl) (pa_cons (pv 0) (pa_cons (pv 4) (pa_cons (pv 7) (pa_cons (pv 3) pa_nil))))))
      (pss_cons (ps_if (PW.pt (pw_and (pt_cmpR op_eq (pe_ix ix_tup (pv 12) pe_int (fun _ _ => rfl)) pe_str (nomark _)) (pw_and1 (pt_cmpR op_eq (pe_callB c_len (by rfl) T.len PySem.boot_len (pa_cons (pe_lc (own := [("_law_one", 13)]) (g := (gName 13)) (tt := (tTest (tOp rEq (tOp (rIxT K) (tVar 13) (tC (.int 0))) (tC (.str "start"))))) (te := (tVar 13)) rfl sc__law_board.nd (pi_list (pv 10)) (blkOk_by (N := ["_law_box", "_law_lines", "_law_deeds", "_law_kinds_here", "_law_cells", "_law_memory", "_law_cell", "_law_many", "_law_orders", "_law_number", "_law_program", "_law_turn", "_law_deed_here", "_law_one"]) (sc := defScope s__law_board) (own := [("_law_one", 13)]) (by decide +kernel)) (fun _ _ _ _ _ => (pg_name (i := 13) sc__law_board.nd rfl (.inl rfl))) (fun _ _ _ _ _ => (pts_one (pt_cmpR op_eq (pe_ix ix_tup (pv 13) pe_int (fun _ _ => rfl)) pe_str (nomark _)))) (fun _ _ _ _ _ => (pv 13))) pa_nil)) pe_int (nomark _))))) (pss_one (ps_set (i := 12) sc__law_board.nd rfl (.inl rfl) (pe_tup (pa_cons pe_str (pa_cons (pe_c c__law_take hr (by decide) (by rfl) (pa_cons (pv 0) (pa_cons (pv 4) pa_nil))) pa_nil))))) pss_nil)
      (pss_one (ps_expr (pe_bm PySem.F.plainAttrs_list PySem.F.slot_list_append PySem.F.type_list_append mt_append (pv 10) (pa_cons (pv 12) pa_nil)))))))
      (pss_one (ps_ret (pe_tup (pa_cons (pv 5) (pa_cons (pv 8) (pa_cons (pe_callTy c_tuple (by rfl) T.tuple (by decide +kernel) (pa_cons (pv 10) pa_nil)) pa_nil)))))))))))), ?_⟩
    have small : ∀ z : Int, z.natAbs < 512 → z.natAbs.log2 < 9000 := fun z hz => by
      have := Nat.log2_le_self z.natAbs
      omega
    have nbl : ∀ {D : Addr}, H D = none → D ≠ b ∧ D ≠ l := fun {D} hD => by
      obtain ⟨_, h, _⟩ := hB.box
      obtain ⟨_, h2⟩ := hB.nums
      exact ⟨fun z => (by rw [z, h] at hD; cases hD), fun z => (by rw [z, h2] at hD; cases hD)⟩
    have free : ∀ {H1 : Hp} {D : Addr}, Dr b l H H1 → H1 D = none → H D = none := fun {H1 D} d hD => by
      cases e : H D with
      | none => rfl
      | some o =>
        by_cases hm : D ∈ [b, l]
        · obtain ⟨_, h, _⟩ := d.2.2.box
          obtain ⟨_, h2⟩ := d.2.2.nums
          simp only [List.mem_cons, List.not_mem_nil, or_false] at hm
          rcases hm with rfl | rfl
          · rw [h] at hD; cases hD
          · rw [h2] at hD; cases hD
        · rw [d.1 D o e hm] at hD
          cases hD
    walk_at "rd"
    refine ⟨b, l, _, rfl, hB, by omega, small _ (by omega), fun r H1 d1 r0 r1 => ?_⟩
    obtain ⟨k, rfl⟩ : ∃ k : Nat, r = (k : Int) := ⟨r.toNat, by omega⟩
    walk_at "rd"
    refine st_mul (.inl ⟨by decide, by decide⟩) ?_
    walk_at "rd"
    have ecells : (4 : Int) * (1 + (k : Int)) = ((4 * (1 + k) : Nat) : Int) := by omega
    rw [ecells]
    have hk4 : k < 4 := by omega
    have hkl' : k < lines := by omega
    generalize hc : 4 * (1 + k) = cells
    -- memory
    refine st_lcRange (n := cells) (by omega) fun D H2 nD e2 hD => ?_
    have nD0 := free d1 nD
    refine ⟨fun i H' => ∃ ns : List Int, ns.length = i ∧ (∀ n ∈ ns, 0 ≤ n ∧ n ≤ 9) ∧ Dr b l H H' ∧ H' D = some (.lst (ns.map V.int)), ⟨[], rfl, by simp, d1.ex e2, hD⟩, fun i H' hi hp => ?_, fun H' hp => ?_⟩
    · obtain ⟨ns, h1, h2, h3, h4⟩ := hp
      show gName 6 _ _ _ _
      walk_at "rd"
      refine ⟨rfl, ?_⟩
      walk_at "rd"
      refine ⟨b, l, 10, rfl, h3.2.2, by decide, by decide, fun r H3 d3 r0 r1 => ?_⟩
      have h4' : H3 D = some (.lst (ns.map V.int)) := d3.1 D _ h4 (by simp; exact nbl nD0)
      refine st_lcPut h4' (by rw [List.length_map]; omega) fun H4 f4 k4 h5 => ?_
      refine ⟨ns ++ [r], by simp [h1], ?_, Dr.put hB (h3.trans d3) nD0 f4 k4, by rw [h5, List.map_append]; rfl⟩
      intro n hn
      rcases List.mem_append.mp hn with hn | hn
      · exact h2 n hn
      · rw [List.mem_singleton.mp hn]
        omega
    obtain ⟨mem, hmem, hdig, d2, hD2⟩ := hp
    walk_at "rd"
    refine st_tupL hD2 fun tm H3 ntm e3 htm => ?_
    have d3 := d2.ex e3
    walk_at "rd"
    refine ⟨b, l, 4, rfl, d3.2.2, by decide, by decide, fun r H4 d4 r0 r1 => ?_⟩
    obtain ⟨k2, rfl⟩ : ∃ k2 : Nat, r = (k2 : Int) := ⟨r.toNat, by omega⟩
    walk_at "rd"
    have emany : (1 : Int) + (k2 : Int) = ((1 + k2 : Nat) : Int) := by omega
    rw [emany]
    have hm4 : 1 + k2 ≤ 4 := by omega
    have hm1 : 1 ≤ 1 + k2 := by omega
    generalize hmn : 1 + k2 = many at hm4 hm1
    have d34 := d3.trans d4
    -- orders
    refine st_lcRange (n := many) (by omega) fun D2 H5 nD2 e5 hD5 => ?_
    have nD20 := free d34 nD2
    refine ⟨fun i H' => ∃ (os : List Ord) (xs : List V), os.length = i ∧ (∀ j o, os[j]? = some o → 1 ≤ o.many ∧ o.many ≤ 8 ∧ o.src + o.many ≤ cells ∧ o.dst + o.many ≤ cells ∧ ∀ k, o.later = some k → j < k ∧ k < many) ∧ Dr b l H H' ∧ Kp H3 H' ∧ H' D2 = some (.lst xs) ∧ ImL H' ((os.map Ord.raw).map pyOrd) xs,
      ⟨[], [], rfl, by simp, d34.ex e5, d4.2.1.trans e5.kp, hD5, iml_nil⟩, fun i H' hi hp => ?_, fun H' hp => ?_⟩
    · obtain ⟨os, xs, h1, h2, h3, hkp, h4, h5⟩ := hp
      show gName 9 _ _ _ _
      walk_at "rd"
      refine ⟨rfl, ?_⟩
      walk_at "rd"
      refine ⟨b, l, cells, i, many, rfl, h3.2.2, by omega, by omega, hi, hm4, fun o v H6 d6 o1 o2 o3 o4 o5 hv => ?_⟩
      have h4' : H6 D2 = some (.lst xs) := d6.1 D2 _ h4 (by simp; exact nbl nD20)
      refine st_lcPut h4' (by rw [h5.length, List.length_map, List.length_map]; omega) fun H7 f7 k7 h7 => ?_
      refine ⟨os ++ [o], xs ++ [v], by simp [h1], ?_, Dr.put hB (h3.trans d6) nD20 f7 k7, (hkp.trans d6.2.1).trans k7, h7, ?_⟩
      · intro j o' hj
        by_cases hj' : j < os.length
        · rw [List.getElem?_append_left hj'] at hj
          exact h2 j o' hj
        · rw [List.getElem?_append_right (by omega)] at hj
          have hz : j - os.length = 0 := by
            cases e : j - os.length with
            | zero => rfl
            | succ n => rw [e] at hj; simp at hj
          rw [hz] at hj
          simp at hj
          subst hj
          have : j = i := by omega
          subst this
          exact ⟨o1, o2, o3, o4, o5⟩
      · rw [List.map_append, List.map_append]
        exact ((h5.kp d6.2.1).kp k7).append (iml_cons (hv.kp k7) iml_nil)
    obtain ⟨os, xs, hos, hok, d5, hkp5, hD2', hos'⟩ := hp
    walk_at "rd"
    refine st_tupL hD2' fun to H6 nto e6 hto => ?_
    have d6 := d5.ex e6
    walk_at "rd"
    refine st_newL (by simp) fun pl H7 npl e7 hpl => ?_
    have d7 := d6.ex e7
    have npl0 := free d6 npl
    have kl7 : H7 kl = some (.lst (ks.map V.str)) := d7.1 kl _ hk (by simp; exact ⟨nkb, nkl⟩)
    walk_at "rd"
    refine ⟨b, l, _, rfl, d7.2.2, by omega, small _ (by omega), fun r H8 d8 r0 r1 => ?_⟩
    obtain ⟨turns, rfl⟩ : ∃ k2 : Nat, r = (k2 : Int) := ⟨r.toNat, by omega⟩
    have hpl8 : H8 pl = some (.lst []) := d8.1 pl _ hpl (by simp; exact nbl npl0)
    walk_at "rd"
    refine st_walkR (n := turns) (by omega) (fun i σ' H' => ∃ (p : List Deed) (ys : List V) (y1 y2 y3 y4 y5 : Option V), σ' = [some (.ref b), some (.int (lines : Int)), some (.int (deeds : Int)), some (.ref kl), some (.int (cells : Int)), some (.ref tm), y1, some (.int (many : Int)), some (.ref to), y2, some (.ref pl), y3, y4, y5] ∧
      p.length = i ∧ (∀ d ∈ p, d.Ok cells many) ∧ (p.filter Deed.isStart).length ≤ 3 ∧ (∀ d ∈ p, d.raw.1 ∈ ks ∨ ∃ c, d = .say c) ∧ Dr b l H H' ∧ Kp H7 H' ∧ H' pl = some (.lst ys) ∧ ImL H' ((p.map Deed.raw).map pyDeed) ys) ⟨[], [], _, _, _, _, _, rfl, rfl, by simp, by simp, by simp, d7.trans d8, d8.2.1, hpl8, iml_nil⟩ (fun i σ' H' hi hp => ?_) (fun σ' H' hp => ?_)
    · obtain ⟨p, ys, y1, y2, y3, y4, y5, rfl, p1, p2, p3, p4, dd, kk, hp', hys⟩ := hp
      walk_at "rd"
      have klh : H' kl = some (.lst (ks.map V.str)) := dd.1 kl _ hk (by simp; exact ⟨nkb, nkl⟩)
      refine ⟨b, l, kl, cells, many, ks, rfl, dd.2.2, klh, nkb, nkl, hne, hkl, hw, by omega, by omega, hm1, hm4, fun d v H9 d9 ok inks hv => ?_⟩
      have hp9 : H9 pl = some (.lst ys) := d9.1 pl _ hp' (by simp; exact nbl npl0)
      have hys9 := hys.kp d9.2.1
      have hylen : ys.length = i := by rw [hys.length, List.length_map, List.length_map]; exact p1
      -- the deed is put
      have put : ∀ (d' : Deed) (v' : V) (H10 : Hp) (y4 y5 : Option V), Dr b l H9 H10 → Kp H9 H10 → H10 pl = some (.lst ys) → d'.Ok cells many → (d'.isStart = true → (p.filter Deed.isStart).length ≤ 2) → (d'.raw.1 ∈ ks ∨ ∃ c, d' = .say c) → Im H10 (pyDeed d'.raw) v' →
          ∀ H11, Fr [pl] H10 H11 → Kp H10 H11 → H11 pl = some (.lst (ys ++ [v'])) → ∃ (p : List Deed) (ys : List V) (z1 z2 z3 z4 z5 : Option V), ([some (.ref b), some (.int (lines : Int)), some (.int (deeds : Int)), some (.ref kl), some (.int (cells : Int)), some (.ref tm), y1, some (.int (many : Int)), some (.ref to), y2, some (.ref pl), some (.int (i : Int)), y4, y5] : L2.St) = [some (.ref b), some (.int (lines : Int)), some (.int (deeds : Int)), some (.ref kl), some (.int (cells : Int)), some (.ref tm), z1, some (.int (many : Int)), some (.ref to), z2, some (.ref pl), z3, z4, z5] ∧
            p.length = i + 1 ∧ (∀ d ∈ p, d.Ok cells many) ∧ (p.filter Deed.isStart).length ≤ 3 ∧ (∀ d ∈ p, d.raw.1 ∈ ks ∨ ∃ c, d = .say c) ∧ Dr b l H H11 ∧ Kp H7 H11 ∧ H11 pl = some (.lst ys) ∧ ImL H11 ((p.map Deed.raw).map pyDeed) ys := by
        intro d' v' H10 y4 y5 d10 k10 hp10 ok' st' in' hv' H11 f11 k11 h11
        refine ⟨p ++ [d'], ys ++ [v'], _, _, _, _, _, rfl, by simp [p1], ?_, ?_, ?_, Dr.put hB ((dd.trans d9).trans d10) npl0 f11 k11, ((kk.trans d9.2.1).trans k10).trans k11, h11, ?_⟩
        · intro e he
          rcases List.mem_append.mp he with he | he
          · exact p2 e he
          · rw [List.mem_singleton.mp he]; exact ok'
        · rw [List.filter_append, List.length_append]
          cases hs : d'.isStart with
          | true =>
            have := st' hs
            simp [List.filter_cons, hs]
            omega
          | false =>
            simp [List.filter_cons, hs]
            omega
        · intro e he
          rcases List.mem_append.mp he with he | he
          · exact p4 e he
          · rw [List.mem_singleton.mp he]; exact in'
        · rw [List.map_append, List.map_append]
          exact ((hys9.kp k10).kp k11).append (iml_cons (hv'.kp k11) iml_nil)
      walk_at "rd"
      refine st_ixT_str hv (Kp.refl _) (atI_nat (j := 0) rfl) ?_
      walk_at "rd"
      have eS : decide (d.raw.1 = ("start" : Str)) = d.isStart := isStart_raw d
      rw [eS]
      refine st_B (fun h => ?_) (fun h => ?_)
      · walk_at "rd"
        refine st_lcList (SqL.of hp9) fun D3 H10 nD3 e10 hD3 => ?_
        refine ⟨fun j H11 => ∃ acc, Ex H9 H11 ∧ H11 D3 = some (.lst acc) ∧ acc.length = ((p.take j).filter Deed.isStart).length, ⟨[], e10, hD3, by simp⟩, fun j H11 hh => ?_, fun j v1 H11 hv1 hh => ?_, fun H11 hh => ?_⟩
        · obtain ⟨_, e, _⟩ := hh
          exact SqL.of (e _ _ hp9)
        · obtain ⟨acc, e11, hacc, hlen⟩ := hh
          obtain ⟨dd1, g1, g2⟩ := hys9.get' hv1
          obtain ⟨dr, g3, rfl⟩ := map_at' g1
          obtain ⟨dj, g4, rfl⟩ := map_at' g3
          show gName 13 _ _ _ _
          walk_at "rd"
          refine ⟨rfl, ?_⟩
          walk_at "rd"
          refine st_ixT_str (g2.ex e11) (Kp.refl _) (atI_nat (j := 0) rfl) ?_
          walk_at "rd"
          have eS2 : decide (dj.raw.1 = ("start" : Str)) = dj.isStart := isStart_raw dj
          rw [eS2]
          have ht : p.take (j + 1) = p.take j ++ [dj] := by rw [List.take_add_one, g4]; rfl
          refine st_B (fun hs => ?_) (fun hs => ?_)
          · walk_at "rd"
            have : ((p.take j).filter Deed.isStart).length ≤ p.length := Nat.le_trans (List.length_filter_le _ _) (by rw [List.length_take]; omega)
            refine st_lcPut hacc (by omega) fun H12 f12 k12 h12 => ?_
            refine ⟨acc ++ [v1], Fr.ex e11 (fun a ha => by rw [List.mem_singleton.mp ha]; exact nD3) f12, h12, ?_⟩
            rw [ht, List.filter_append, List.length_append, List.length_append, hlen]
            simp [List.filter_cons, hs]
          · refine ⟨acc, e11, hacc, ?_⟩
            rw [ht, List.filter_append, List.length_append, hlen]
            simp [List.filter_cons, hs]
        · obtain ⟨acc, e11, hacc, hlen⟩ := hh
          rw [hylen, ← p1, List.take_length] at hlen
          walk_at "rd"
          refine st_lenL hacc ?_
          walk_at "rd"
          have d11 := d9.2.2.ex e11
          refine st_D (fun h3 => ?_) (fun h3 => ?_)
          · walk_at "rd"
            refine ⟨b, l, _, rfl, d11, by omega, small _ (by omega), fun r H12 d12 r0 r1 => ?_⟩
            obtain ⟨cell, rfl⟩ : ∃ k2 : Nat, r = (k2 : Int) := ⟨r.toNat, by omega⟩
            walk_at "rd"
            refine st_newT (by simp) fun t H13 nt e13 ht => ?_
            have hp13 : H13 pl = some (.lst ys) := e13 _ _ (d12.1 pl _ (e11 _ _ hp9) (by simp; exact nbl npl0))
            walk_at "rd"
            refine tyL hp13 ?_
            walk_at "rd"
            refine st_app hp13 (sz_lt (by omega)) fun H14 f14 k14 h14 => ?_
            exact put (.say cell) _ H13 _ _ (((Dr.start d9.2.2).ex e11).trans (d12.ex e13)) ((e11.kp.trans d12.2.1).trans e13.kp) hp13 (show cell < cells by omega) (fun z => by cases z) (.inr ⟨cell, rfl⟩) (im_tup ht (iml_cons im_str (iml_cons im_int iml_nil))) H14 f14 k14 h14
          · walk_at "rd"
            refine tyL (e11 _ _ hp9) ?_
            walk_at "rd"
            refine st_app (e11 _ _ hp9) (sz_lt (by omega)) fun H14 f14 k14 h14 => ?_
            exact put d _ H11 _ _ ((Dr.start d9.2.2).ex e11) e11.kp (e11 _ _ hp9) ok (fun _ => by omega) (.inl inks) (hv.ex e11) H14 f14 k14 h14
      · walk_at "rd"
        refine tyL hp9 ?_
        walk_at "rd"
        refine st_app hp9 (sz_lt (by omega)) fun H14 f14 k14 h14 => ?_
        exact put d _ H9 _ _ (Dr.start d9.2.2) (Kp.refl _) hp9 ok (fun z => by rw [h] at z; cases z) (.inl inks) hv H14 f14 k14 h14
    · obtain ⟨p, ys, y1, y2, y3, y4, y5, rfl, p1, p2, p3, p4, dd, kk, hp', hys⟩ := hp
      walk_at "rd"
      refine st_tupL hp' fun tp H9 ntp e9 htp => ?_
      walk_at "rd"
      refine st_newT (by simp) fun t H10 nt e10 ht => ?_
      have hmem' : Im H3 (pyMem mem) (.ref tm) := im_tup htm (ImL.ints.mpr rfl)
      have hord' : Im H6 (pyOrds (os.map Ord.raw)) (.ref to) := im_tup hto (hos'.ex e6)
      refine q ⟨mem, os, p⟩ _ H10 ((dd.ex e9).ex e10) ⟨⟨?_, ?_, hdig, by show os.length ≤ 4; omega, ⟨?_⟩, by show p.length ≤ 60; omega, ?_, p3⟩, by show mem.length ≤ _; omega, by show p.length ≤ _; omega, by show 1 ≤ os.length; omega, p4⟩ ?_
      · show mem.length % 4 = 0
        omega
      · show 1 ≤ mem.length / 4 ∧ mem.length / 4 ≤ 4
        omega
      · intro i o ho
        show _ ∧ _ ∧ o.src + o.many ≤ mem.length ∧ o.dst + o.many ≤ mem.length ∧ ∀ l, o.later = some l → i < l ∧ l < os.length
        rw [hmem, hos]
        exact hok i o ho
      · intro d hd
        show d.Ok mem.length os.length
        rw [hmem, hos]
        exact p2 d hd
      · refine im_tup ht (iml_cons (hmem'.kp ?_) (iml_cons (hord'.kp ?_) (iml_cons ?_ iml_nil)))
        · exact (((hkp5.trans e6.kp).trans e7.kp).trans kk).trans (e9.kp.trans e10.kp)
        · exact (e7.kp.trans kk).trans (e9.kp.trans e10.kp)
        · exact (im_tup htp (hys.ex e9)).ex e10
/-! ### _law_pace -/
theorem sc__law_pace : FnScope ["_law_box", "_law_often", "_law_kind", "_law_many", "_law_turn"] ["_law_box"] (defScope s__law_pace) := ⟨rfl, rfl, rfl, by decide +kernel, rfl, by decide +kernel, by decide +kernel⟩
def sp_law_pace : Sp := fun vs H Q _ => ∃ (b l : Addr), vs = [.ref b] ∧ BoxAt H b l ∧ ∀ (p : Addr) (pace : List Bool) H', Dr b l H H' → H p = none → H' p = some (.lst (pace.map V.bl)) → pace.length ≤ 100 → Q (.ref p) H'
theorem cal_law_pace {P w base K mg c} (T : Txt K mg c) : Cal CX0 P w K mg base 2 "_law_pace" sp_law_pace := by
  obtain ⟨f, fd, F, m⟩ := T.F__law_pace
  have c__law_take := cal_law_take (P := P) (w := w) (base := base) T
  refine cal_of F m (fun _ _ _ _ _ _ us hl => match us, hl with | [_], _ => rfl) sc__law_pace (fun vs H Q E h => ?_) (fun cdv A outer s H vs Q E hr h => ?_)
  · obtain ⟨b, l, rfl, _⟩ := h
    rfl
  · obtain ⟨b, l, rfl, hB, q⟩ := h
    refine ⟨_, (pss_cons (ps_set (i := 1) sc__law_pace.nd rfl (.inr rfl) (pe_ix ix_list (pe_lst (pa_cons pe_int (pa_cons pe_int (pa_cons pe_int pa_nil)))) (pe_c c__law_take hr (by decide) (by rfl) (pa_cons (pv 0) (pa_cons pe_int pa_nil))) (fun _ _ => rfl)))
      (pss_cons (ps_set (i := 2) sc__law_pace.nd rfl (.inr rfl) (pe_cmpR op_eq (pe_c c__law_take hr (by decide) (by rfl) (pa_cons (pv 0) (pa_cons pe_int pa_nil))) pe_int (nomark _)))
      (pss_cons (ps_set (i := 3) sc__law_pace.nd rfl (.inl rfl) (pe_ix ix_list (pe_lst (pa_cons pe_int (pa_cons pe_int pa_nil))) (pe_callTy c_int (by rfl) T.int (by decide +kernel) (pa_cons (pe_cmpR op_eq (pe_c c__law_take hr (by decide) (by rfl) (pa_cons (pv 0) (pa_cons pe_int pa_nil))) pe_int (nomark _)) pa_nil)) (fun _ _ => rfl)))
      (pss_one (ps_ret (pe_lc (own := [("_law_turn", 4)]) (g := (gName 4)) (tt := tYes) (te := (tOp rEq (tOp rEq (tCall sp_law_take [] L2.E0 (tCons (tVar 0) (tCons (tVar 1) tNil))) (tC (.int 0))) (tVar 2))) rfl sc__law_pace.nd (pi_range1 rfl T.range (pa_cons (pe_c c__law_take hr (by decide) (by rfl) (pa_cons (pv 0) (pa_cons (pv 3) pa_nil))) pa_nil)) (blkOk_by (N := ["_law_box", "_law_often", "_law_kind", "_law_many", "_law_turn"]) (sc := defScope s__law_pace) (own := [("_law_turn", 4)]) (by decide +kernel)) (fun _ _ _ _ _ => (pg_name (i := 4) sc__law_pace.nd rfl (.inl rfl))) (fun _ _ _ _ _ => pts_nil) (fun _ _ _ _ _ => (pe_cmpR op_eq (pe_cmpR op_eq (pe_c c__law_take hr (by decide) (by rfl) (pa_cons (pv 0) (pa_cons (pv 1) pa_nil))) pe_int (nomark _)) (pv 2) (nomark _))))))))), ?_⟩
    walk_at "rd"
    refine st_newL (by simp) fun p1 H1 n1 e1 h1 => ?_
    walk_at "rd"
    refine ⟨b, l, 3, rfl, hB.ex e1, by decide, by decide, fun r H2 d2 r0 r1 => ?_⟩
    have hp1 : H2 p1 = _ := d2.1 p1 _ h1 (hB.new n1)
    obtain ⟨often, ho, hat⟩ : ∃ o : Nat, (1 ≤ o ∧ o ≤ 4) ∧ atI [V.int 2, V.int 4, V.int 1] r = some (.int (o : Int)) := by
      have : r = 0 ∨ r = 1 ∨ r = 2 := by omega
      rcases this with rfl | rfl | rfl
      · exact ⟨2, by omega, atI_nat (j := 0) rfl⟩
      · exact ⟨4, by omega, atI_nat (j := 1) rfl⟩
      · exact ⟨1, by omega, atI_nat (j := 2) rfl⟩
    walk_at "rd"
    refine st_ixL hp1 hat ?_
    have D2 : Dr b l H H2 := (Dr.start hB).ex e1 |>.trans d2
    walk_at "rd"
    refine ⟨b, l, 2, rfl, d2.2.2, by decide, by decide, fun r3 H3 d3 r30 r31 => ?_⟩
    have D3 := D2.trans d3
    walk_at "rd"
    generalize decide (r3 = 1) = kind
    refine st_newL (by simp) fun p4 H4 n4 e4 h4 => ?_
    walk_at "rd"
    refine ⟨b, l, 8, rfl, D3.2.2.ex e4, by decide, by decide, fun r5 H5 d5 r50 r51 => ?_⟩
    have hp4 : H5 p4 = _ := d5.1 p4 _ h4 (D3.2.2.new n4)
    walk_at "rd"
    refine st_ixL hp4 ix01 ?_
    obtain ⟨dn, hdn, edn⟩ : ∃ dn : Nat, (1 ≤ dn ∧ dn ≤ 101) ∧ (if decide (r5 = 7) = true then V.int 101 else V.int 25) = .int (dn : Int) := by
      cases decide (r5 = 7) with
      | true => exact ⟨101, by omega, rfl⟩
      | false => exact ⟨25, by omega, rfl⟩
    rw [edn]
    have D5 := (D3.ex e4).trans d5
    walk_at "rd"
    refine ⟨b, l, dn, rfl, D5.2.2, by omega, log_small (by omega), fun r6 H6 d6 r60 r61 => ?_⟩
    obtain ⟨many, rfl⟩ : ∃ k : Nat, r6 = (k : Int) := ⟨r6.toNat, by omega⟩
    have D6 := D5.trans d6
    refine st_lcRange (n := many) (by omega) fun D H7 nD e7 hD => ?_
    have nD0 := D6.free nD
    refine ⟨fun i H' => ∃ bs : List Bool, bs.length = i ∧ Dr b l H H' ∧ H' D = some (.lst (bs.map V.bl)), ⟨[], rfl, D6.ex e7, hD⟩, fun i H' hi hp => ?_, fun H' hp => ?_⟩
    · obtain ⟨bs, h1, h3, h4⟩ := hp
      show gName 4 _ _ _ _
      walk_at "rd"
      refine ⟨rfl, ?_⟩
      walk_at "rd"
      refine ⟨b, l, often, rfl, h3.2.2, by omega, log_small (by omega), fun r H8 d8 r0 r1 => ?_⟩
      have h4' : H8 D = some (.lst (bs.map V.bl)) := d8.1 D _ h4 (hB.new nD0)
      walk_at "rd"
      refine st_lcPut h4' (by rw [List.length_map]; omega) fun H9 f9 k9 h9 => ?_
      refine ⟨bs ++ [decide (decide (r = 0) = kind)], by simp [h1], Dr.put hB (h3.trans d8) nD0 f9 k9, by rw [h9, List.map_append]; rfl⟩
    · obtain ⟨bs, h1, h3, h4⟩ := hp
      exact q D bs H' h3 nD0 h4 (by omega)
/-! ### Machine -/
theorem sc_Machine___init__ : FnScope ["self", "board"] ["self", "board"] (defScope s_Machine___init__) := ⟨rfl, rfl, rfl, by decide +kernel, rfl, by decide +kernel, by decide +kernel⟩
def sp_Machine_init (C : Addr) : Sp := fun vs H Q _ => ∃ (p dx : Addr) (x vo vp : V) (ns : List Int), vs = [.ref p, x] ∧ H p = some (.ins C dx []) ∧ Parts H x vo vp ns ∧
  ∀ H' F', Mac C vo vp p F' H' (MS.start ns) → Chg [p] H F' H' → Q .non H'
theorem mak_Machine {P w base K mg c} (T : Txt K mg c) : Mak CX0 P w K mg base 1 "Machine" c.Machine (sp_Machine_init c.Machine) := by
  obtain ⟨f, fd, F, m⟩ := T.F_Machine___init__
  refine mak_of m T.mg_Machine F (fun _ _ _ _ _ _ us hl => match us, hl with | [_, _], _ => rfl) sc_Machine___init__ (fun vs H Q E h => ?_) (fun cdv A outer s H vs Q E hr h => ?_)
  · obtain ⟨p, dx, x, vo, vp, ns, rfl, _⟩ := h
    rfl
  · obtain ⟨p, dx, x, vo, vp, ns, rfl, hp, ⟨ax, am, rfl, hax, ham⟩, q⟩ := h
    refine ⟨_, (pss_cons (ps_fld (pv 0) (pe_callTy c_list (by rfl) T.list (by decide +kernel) (pa_cons (pe_ix ix_tup (pv 1) pe_int (fun _ _ => rfl)) pa_nil)) rfl)
      (pss_cons (ps_fld (pv 0) (pe_ix ix_tup (pv 1) pe_int (fun _ _ => rfl)) rfl)
      (pss_cons (ps_fld (pv 0) (pe_ix ix_tup (pv 1) pe_int (fun _ _ => rfl)) rfl)
      (pss_cons (ps_fld (pv 0) pe_dnewK rfl)
      (pss_cons (ps_fld (pv 0) (pe_lst pa_nil) rfl)
      (pss_cons (ps_fld (pv 0) pe_int rfl)
      (pss_cons (ps_fld (pv 0) pe_int rfl)
      (pss_cons (ps_fld (pv 0) (pe_lst pa_nil) rfl)
      (pss_cons (ps_fld (pv 0) pe_bl rfl)
      (pss_cons (ps_fld (pv 0) pe_int rfl)
      (pss_one (ps_fld (pv 0) pe_int rfl)))))))))))), ?_⟩
    have npl : ∀ {l : Addr} {Hx : Hp} {fs : List (Str × V)}, Hx p = some (.ins c.Machine dx fs) → Hx l = none → p ≠ l := fun {l Hx fs} a b' z => by
      rw [← z, a] at b'
      cases b'
    have nn : ∀ {a b : Addr} {Hx : Hp} {o : HO}, Hx a = some o → Hx b = none → a ≠ b := fun {a b Hx o} h1 h2 z => by
      rw [z, h2] at h1
      cases h1
    have lof : ∀ (Q : VK), (∀ l H2, H l = none → Ex H H2 → H2 l = some (.lst (ns.map V.int)) → Q (.ref l) H2) → rListOf K [.ref am] H Q := by
      intro Q h
      rcases ham with z | z
      · exact st_listL z h
      · exact ⟨am, _, rfl, .inr (SqT.of z), fun l hl => h l _ hl (Ex.new hl) upd_same⟩
    walk_at "rd"
    refine ⟨ax, _, 0, .ref am, rfl, rfl, SqT.of hax, atI_nat (j := 0) rfl, ?_⟩
    walk_at "rd"
    refine lof _ fun ml H1 n1 e1 h1 => ?_
    walk_at "rd"
    refine st_setF (e1 _ _ hp) T.cl_Machine T.na_Machine_memory (by decide) fun H2 f2 k2 h2 => ?_
    have r2 : H2 ml = _ := fr1 f2 h1 (npl hp n1).symm
    have t2 : H2 ax = _ := k2 _ _ (e1 _ _ hax)
    walk_at "rd"
    refine ⟨ax, _, 1, vo, rfl, rfl, SqT.of t2, atI_nat (j := 1) rfl, ?_⟩
    walk_at "rd"
    refine st_setF h2 T.cl_Machine T.na_Machine_orders (by simp [putF]) fun H3 f3 k3 h3 => ?_
    walk_at "rd"
    refine ⟨ax, _, 2, vp, rfl, rfl, SqT.of (k3 _ _ t2), atI_nat (j := 2) rfl, ?_⟩
    walk_at "rd"
    refine st_setF h3 T.cl_Machine T.na_Machine_program (by simp [putF, ofS_inj]) fun H4 f4 k4 h4 => ?_
    have r4 : H4 ml = _ := fr1 f4 (fr1 f3 r2 (npl hp n1).symm) (npl hp n1).symm
    walk_at "rd"
    refine st_dnewK fun hd H5 n5 e5 h5 => ?_
    walk_at "rd"
    refine st_setF (e5 _ _ h4) T.cl_Machine T.na_Machine_held (by simp [putF, ofS_inj]) fun H6 f6 k6 h6 => ?_
    have nph := npl h4 n5
    have d6 : H6 hd = _ := fr1 f6 h5 nph.symm
    have r6 : H6 ml = _ := fr1 f6 (e5 _ _ r4) (npl hp n1).symm
    walk_at "rd"
    refine st_newL (by simp) fun ll H7 n7 e7 h7 => ?_
    walk_at "rd"
    refine st_setF (e7 _ _ h6) T.cl_Machine T.na_Machine_left (by simp [putF, ofS_inj]) fun H8 f8 k8 h8 => ?_
    have npl8 := npl h6 n7
    have l8 : H8 ll = _ := fr1 f8 h7 npl8.symm
    have d8 : H8 hd = _ := fr1 f8 (e7 _ _ d6) nph.symm
    have r8 : H8 ml = _ := fr1 f8 (e7 _ _ r6) (npl hp n1).symm
    walk_at "rd"
    refine st_setF h8 T.cl_Machine T.na_Machine_at (by simp [putF, ofS_inj]) fun H9 f9 k9 h9 => ?_
    walk_at "rd"
    refine st_setF h9 T.cl_Machine T.na_Machine_beats (by simp [putF, ofS_inj]) fun H10 f10 k10 h10 => ?_
    have f810 := f9.trans f10
    have l10 : H10 ll = _ := fr1 f810 l8 npl8.symm
    have d10 : H10 hd = _ := fr1 f810 d8 nph.symm
    have r10 : H10 ml = _ := fr1 f810 r8 (npl hp n1).symm
    walk_at "rd"
    refine st_newL (by simp) fun rl H11 n11 e11 h11 => ?_
    walk_at "rd"
    refine st_setF (e11 _ _ h10) T.cl_Machine T.na_Machine_rows (by simp [putF, ofS_inj]) fun H12 f12 k12 h12 => ?_
    walk_at "rd"
    refine st_setF h12 T.cl_Machine T.na_Machine_idle (by simp [putF, ofS_inj]) fun H13 f13 k13 h13 => ?_
    walk_at "rd"
    refine st_setF h13 T.cl_Machine T.na_Machine_many_reads (by simp [putF, ofS_inj]) fun H14 f14 k14 h14 => ?_
    walk_at "rd"
    refine st_setF h14 T.cl_Machine T.na_Machine_many_fetches (by simp [putF, ofS_inj]) fun H15 f15 k15 h15 => ?_
    have f1115 : Fr [p] H11 H15 := ((f12.trans f13).trans f14).trans f15
    have k1115 : Kp H11 H15 := ((k12.trans k13).trans k14).trans k15
    have npr := npl h10 n11
    have w15 : H15 rl = _ := fr1 f1115 h11 npr.symm
    have l15 : H15 ll = _ := fr1 f1115 (e11 _ _ l10) npl8.symm
    have d15 : H15 hd = _ := fr1 f1115 (e11 _ _ d10) nph.symm
    have r15 : H15 ml = _ := fr1 f1115 (e11 _ _ r10) (npl hp n1).symm
    have ef : putF "many_fetches" (.int 0) (putF "many_reads" (.int 0) (putF "idle" (.bl false) (putF "rows" (.ref rl) (putF "beats" (.int 0) (putF "at" (.int 0) (putF "left" (.ref ll) (putF "held" (.ref hd) (putF "program" vp (putF "orders" vo (putF "memory" (.ref ml) [])))))))))) = machF ml vo vp hd ll 0 0 rl false 0 0 := by
      simp [putF, ofS_inj, machF]
    rw [ef] at h15
    have F4 : Fr [p] H H4 := ((e1.fr.trans f2).trans f3).trans f4
    have F6 : Fr [p] H H6 := (F4.trans e5.fr).trans f6
    have F10 : Fr [p] H H10 := ((F6.trans e7.fr).trans f8).trans f810
    have F15 : Fr [p] H H15 := (F10.trans e11.fr).trans f1115
    have K15 : Kp H H15 := ((((((e1.kp.trans k2).trans k3).trans k4).trans (e5.kp.trans k6)).trans (e7.kp.trans k8)).trans (k9.trans k10)).trans (e11.kp.trans k1115)
    have free : ∀ {l : Addr} {Hx : Hp}, Fr [p] H Hx → p ≠ l → Hx l = none → H l = none := fun {l Hx} f n h => by
      cases e : H l with
      | none => rfl
      | some o =>
        rw [f l o e (by simpa using n.symm)] at h
        cases h
    have A : MA c.Machine vo vp H15 p dx hd ml ll rl [] (MS.start ns) := by
      refine ⟨h15, r15, ⟨[], d15, .nil⟩, ⟨[], l15, iml_nil⟩, ⟨[], w15, iml_nil⟩, ?_⟩
      have a1 := npl hp n1
      have b1 := nn r4 n5
      have b2 := nn d6 n7
      have b3 := nn r6 n7
      have b4 := nn d10 n11
      have b5 := nn r10 n11
      have b6 := nn l10 n11
      simp [a1, nph, npl8, npr, b1, b1.symm, b2, b3, b4, b5, b6]
    refine q H15 _ ⟨dx, hd, ml, ll, rl, [], rfl, A⟩ ⟨F15, K15, fun a ha => ?_⟩
    simp only [List.mem_cons, List.not_mem_nil, or_false] at ha
    rcases ha with z | z | z | z | z
    · exact .inl (by rw [z]; simp)
    · exact .inr (z ▸ free F4 nph n5)
    · exact .inr (z ▸ n1)
    · exact .inr (z ▸ free F6 npl8 n7)
    · exact .inr (z ▸ free F10 npr n11)
/-! ### Plain.look -/
theorem sc_Plain_look : FnScope ["self", "cell"] ["self", "cell"] (defScope s_Plain_look) := ⟨rfl, rfl, rfl, by decide +kernel, rfl, by decide +kernel, by decide +kernel⟩
def sp_Plain_look (C : Addr) : Sp := fun vs H Q _ => ∃ (p dx ml rl fl sl : Addr) (S : PS) (n : Nat), vs = [.ref p, .int (n : Int)] ∧ PlainAt C H p dx ml rl fl sl S ∧ n < S.mem.length ∧ S.reads.length ≤ 9000 ∧
  ∀ H', Fr [rl] H H' → Kp H H' → PlainAt C H' p dx ml rl fl sl (S.look n) → Q (.int (S.mem.getD n 0)) H'
theorem met_Plain_look {P w base K mg c} (T : Txt K mg c) : Met CX0 P w K mg base 1 c.Plain "look" (sp_Plain_look c.Plain) := by
  obtain ⟨f, fd, F, m⟩ := T.F_Plain_look
  refine met_of T.cl_Plain m F (fun _ _ _ _ _ _ us hl => match us, hl with | [_, _], _ => rfl) sc_Plain_look (fun vs H Q E h => ?_) (fun cdv A outer s H vs Q E hr h => ?_)
  · obtain ⟨p, dx, ml, rl, fl, sl, S, n, rfl, _⟩ := h
    rfl
  · obtain ⟨p, dx, ml, rl, fl, sl, S, n, rfl, hS, hn, hl, q⟩ := h
    refine ⟨_, (pss_cons (ps_expr (pe_bm PySem.F.plainAttrs_list PySem.F.slot_list_append PySem.F.type_list_append mt_append (pe_fld (pv 0) rfl) (pa_cons (pe_tup (pa_cons (pv 1) (pa_cons (pe_ix ix_list (pe_fld (pv 0) rfl) (pv 1) (fun _ _ => rfl)) pa_nil))) pa_nil)))
      (pss_one (ps_ret (pe_ix ix_list (pe_fld (pv 0) rfl) (pv 1) (fun _ _ => rfl))))), ?_⟩
    obtain ⟨xr, hre, ire⟩ := hS.re
    walk_at "rd"
    refine st_getF hS.ob T.cl_Plain T.na_Plain_reads lk_plain_reads ?_
    refine tyL hre ?_
    walk_at "rd"
    refine st_getF hS.ob T.cl_Plain T.na_Plain_memory lk_plain_memory ?_
    walk_at "rd"
    refine st_ixLI hS.me (atI_nat (getD_at hn)) ?_
    walk_at "rd"
    refine st_newT (by simp) fun t H1 nt e1 ht => ?_
    walk_at "rd"
    refine st_app (e1 _ _ hre) (sz_lt (by rw [ire.length, List.length_map]; omega)) fun H2 f2 k2 h2 => ?_
    have hS2 : PlainAt c.Plain H2 p dx ml rl fl sl (S.look n) := (hS.ex e1).addRead (e1 _ _ hre) (ire.ex e1) f2 k2 h2 (k2 _ _ ht)
    walk_at "rd"
    refine st_getF hS2.ob T.cl_Plain T.na_Plain_memory lk_plain_memory ?_
    walk_at "rd"
    refine st_ixLI hS2.me (atI_nat (getD_at hn)) ?_
    exact q H2 (e1.fr.trans f2) (e1.kp.trans k2) hS2
/-! ### Plain.does -/
theorem sc_Plain_does : FnScope ["self", "orders", "deed", "one", "source", "goal", "bell"] ["self", "orders", "deed"] (defScope s_Plain_does) := ⟨rfl, rfl, rfl, by decide +kernel, rfl, by decide +kernel, by decide +kernel⟩
def sp_Plain_does (C : Addr) : Sp := fun vs H Q _ => ∃ (p dx ml rl fl sl : Addr) (S : PS) (vo vd : V) (os : List Ord) (d : Deed) (n : Nat), vs = [.ref p, vo, vd] ∧ PlainAt C H p dx ml rl fl sl S ∧ Im H (pyOrds (os.map Ord.raw)) vo ∧ Im H (pyDeed d.raw) vd ∧
  OrdsOk S.mem.length os ∧ os.length ≤ 4 ∧ d.Ok S.mem.length os.length ∧ S.Small n ∧ n ≤ 100 ∧ ∀ H', Fr [ml, rl, fl, sl] H H' → Kp H H' → PlainAt C H' p dx ml rl fl sl (PS.deed os S d) → Q .non H'
theorem met_Plain_does {P w base K mg c} (T : Txt K mg c) : Met CX0 P w K mg base 2 c.Plain "does" (sp_Plain_does c.Plain) := by
  obtain ⟨f, fd, F, m⟩ := T.F_Plain_does
  have c_moves_of := cal_moves_of (P := P) (w := w) (base := base) T
  have m_Plain_look := met_Plain_look (P := P) (w := w) (base := base) T
  refine met_of T.cl_Plain m F (fun _ _ _ _ _ _ us hl => match us, hl with | [_, _, _], _ => rfl) sc_Plain_does (fun vs H Q E h => ?_) (fun cdv A outer s H vs Q E hr h => ?_)
  · obtain ⟨p, dx, ml, rl, fl, sl, S, vo, vd, os, d, n, rfl, _⟩ := h
    rfl
  · obtain ⟨p, dx, ml, rl, fl, sl, S, vo, vd, os, d, n, rfl, hS, ho, hd, g, h4, dk, hs, hn, q⟩ := h
    have hsr := hs.r
    have hsf := hs.f
    have hss := hs.s
    have i_ml : ml ∈ [ml, rl, fl, sl] := by simp
    have i_sub : ∀ a ∈ [rl], a ∈ [ml, rl, fl, sl] := by simp
    refine ⟨_, (pss_one (ps_if (pt_cmpR op_eq (pe_ix ix_tup (pv 2) pe_int (fun _ _ => rfl)) pe_str (nomark _)) (pss_one (ps_asg (pe_ix ix_tup (pv 2) pe_int (fun _ _ => rfl)) (pg_sub (pe_fld (pv 0) rfl) (pe_ix ix_tup (pv 2) pe_int (fun _ _ => rfl)) set_list))) (pss_one (ps_if (pt_cmpR op_eq (pe_ix ix_tup (pv 2) pe_int (fun _ _ => rfl)) pe_str (nomark _)) (pss_cons (ps_set (i := 3) sc_Plain_does.nd rfl (.inl rfl) (pe_mt m_Plain_look hr (by decide) (pv 0) (pa_cons (pe_ix ix_tup (pv 2) pe_int (fun _ _ => rfl)) pa_nil)))
      (pss_one (ps_asg (pe_op op_mod (pe_op op_add (pv 3) (pe_mt m_Plain_look hr (by decide) (pv 0) (pa_cons (pe_ix ix_tup (pv 2) pe_int (fun _ _ => rfl)) pa_nil))) pe_int) (pg_sub (pe_fld (pv 0) rfl) (pe_ix ix_tup (pv 2) pe_int (fun _ _ => rfl)) set_list)))) (pss_one (ps_if (pt_cmpR op_eq (pe_ix ix_tup (pv 2) pe_int (fun _ _ => rfl)) pe_str (nomark _)) (pss_one (ps_expr (pe_bm PySem.F.plainAttrs_list PySem.F.slot_list_append PySem.F.type_list_append mt_append (pe_fld (pv 0) rfl) (pa_cons (pe_mt m_Plain_look hr (by decide) (pv 0) (pa_cons (pe_ix ix_tup (pv 2) pe_int (fun _ _ => rfl)) pa_nil)) pa_nil)))) (pss_one (ps_if (pt_cmpR op_eq (pe_ix ix_tup (pv 2) pe_int (fun _ _ => rfl)) pe_str (nomark _)) (pss_one (ps_for PassesOwn.never rfl (pi_list (pe_c c_moves_of hr (by decide) (by rfl) (pa_cons (pv 1) (pa_cons (pe_ix ix_tup (pv 2) pe_int (fun _ _ => rfl)) pa_nil)))) (pg_tup (n := 3) rfl (pgs_cons (pg_name (i := 4) sc_Plain_does.nd rfl (.inl rfl)) (pgs_cons (pg_name (i := 5) sc_Plain_does.nd rfl (.inl rfl)) (pgs_cons (pg_name (i := 6) sc_Plain_does.nd rfl (.inl rfl)) pgs_nil))))
      (pss_cons (ps_expr (pe_bm PySem.F.plainAttrs_list PySem.F.slot_list_append PySem.F.type_list_append mt_append (pe_fld (pv 0) rfl) (pa_cons (pe_tup (pa_cons (pv 4) (pa_cons (pe_ix ix_list (pe_fld (pv 0) rfl) (pv 4) (fun _ _ => rfl)) pa_nil))) pa_nil)))
      (pss_one (ps_asg (pe_ix ix_list (pe_fld (pv 0) rfl) (pv 4) (fun _ _ => rfl)) (pg_sub (pe_fld (pv 0) rfl) (pv 5) set_list)))))) pss_nil)))))))), ?_⟩
    cases d with
    | set a k =>
      obtain ⟨d1, d2⟩ : a < S.mem.length ∧ k ≤ 9 := dk
      repeat (first | walk_at "rd1" | refine st_ixT_str hd (by walk_at "kp") (atI_nat (j := 0) rfl) ?_)
      refine st_ixT_int hd (Kp.refl _) (atI_nat (j := 2) rfl) ?_
      walk_at "rd"
      refine st_getF hS.ob T.cl_Plain T.na_Plain_memory lk_plain_memory ?_
      walk_at "rd"
      refine st_ixT_int hd (Kp.refl _) (atI_nat (j := 1) rfl) ?_
      refine st_setI hS.me (by rw [List.length_map]; exact d1) fun H2 f2 k2 h2 => ?_
      exact q H2 (f2.mono (by simp)) k2 (hS.setMem f2 k2 h2)
    | add a b =>
      obtain ⟨d1, d2⟩ : a < S.mem.length ∧ b < S.mem.length := dk
      repeat (first | walk_at "rd1" | refine st_ixT_str hd (by walk_at "kp") (atI_nat (j := 0) rfl) ?_)
      refine st_callM hS.ob lk_plain_look ?_
      walk_at "rd"
      refine st_ixT_int hd (Kp.refl _) (atI_nat (j := 1) rfl) ?_
      walk_at "rd"
      refine ⟨p, dx, ml, rl, fl, sl, S, a, rfl, hS, d1, by omega, fun H1 f1 k1 hS1 => ?_⟩
      walk_at "rd"
      refine st_callM hS1.ob lk_plain_look ?_
      walk_at "rd"
      refine st_ixT_int hd k1 (atI_nat (j := 2) rfl) ?_
      walk_at "rd"
      refine ⟨p, dx, ml, rl, fl, sl, _, b, rfl, hS1, d2, by simp [PS.look]; omega, fun H2 f2 k2 hS2 => ?_⟩
      walk_at "rd"
      refine st_getF hS2.ob T.cl_Plain T.na_Plain_memory lk_plain_memory ?_
      walk_at "rd"
      refine st_ixT_int hd (k1.trans k2) (atI_nat (j := 1) rfl) ?_
      refine st_setI hS2.me (by rw [List.length_map]; exact d1) fun H3 f3 k3 h3 => ?_
      exact q H3 (((f1.mono i_sub).trans (f2.mono i_sub)).trans (f3.mono (by simp))) ((k1.trans k2).trans k3) (hS2.setMem f3 k3 h3)
    | say a =>
      have d1 : a < S.mem.length := dk
      repeat (first | walk_at "rd1" | refine st_ixT_str hd (by walk_at "kp") (atI_nat (j := 0) rfl) ?_)
      refine st_getF hS.ob T.cl_Plain T.na_Plain_said lk_plain_said ?_
      refine tyL hS.sa ?_
      walk_at "rd"
      refine st_callM hS.ob lk_plain_look ?_
      walk_at "rd"
      refine st_ixT_int hd (Kp.refl _) (atI_nat (j := 1) rfl) ?_
      walk_at "rd"
      refine ⟨p, dx, ml, rl, fl, sl, S, a, rfl, hS, d1, by omega, fun H1 f1 k1 hS1 => ?_⟩
      walk_at "rd"
      refine st_app hS1.sa (sz_lt (by rw [List.length_map]; show S.said.length < _; omega)) fun H2 f2 k2 h2 => ?_
      exact q H2 ((f1.mono i_sub).trans (f2.mono (by simp))) (k1.trans k2) (hS1.addSaid f2 k2 h2)
    | start k =>
      have d1 : k < os.length := dk
      repeat (first | walk_at "rd1" | refine st_ixT_str hd (by walk_at "kp") (atI_nat (j := 0) rfl) ?_)
      refine st_ixT_int hd (Kp.refl _) (atI_nat (j := 1) rfl) ?_
      walk_at "rd"
      refine ⟨vo, S.mem.length, os, k, rfl, ho, g, h4, d1, fun l H1 hl => ?_⟩
      obtain ⟨nl, e1, xs, hx, ix⟩ := hl
      have hlen : (movesOf os k).length ≤ 8 * os.length := moves_len g _ _
      have hxl : xs.length = (movesOf os k).length := by rw [ix.length, List.length_map]
      refine st_walkL hx (fun i σ H' => ∃ a b e d, σ = [some (.ref p), some vo, some vd, d, a, b, e] ∧ Fr [ml, rl, fl, sl] H H' ∧ Kp H1 H' ∧ H' l = some (.lst xs) ∧ PlainAt c.Plain H' p dx ml rl fl sl (((movesOf os k).take i).foldl PS.move S)) ⟨_, _, _, _, rfl, e1.fr, Kp.refl _, hx, hS.ex e1⟩ (fun i σ H' hp => ?_) (fun i v σ H' hv hp => ?_) (fun σ H' hp => ?_)
      · obtain ⟨_, _, _, _, _, _, _, h, _⟩ := hp
        exact h
      · obtain ⟨a, b, c', d, rfl, f2, k2, hl2, hS2⟩ := hp
        obtain ⟨pd, e3, hm⟩ := ix.get' hv
        obtain ⟨mv, e4, rfl⟩ := map_at' e3
        have hmv : mv ∈ movesOf os k := List.mem_of_getElem? e4
        obtain ⟨b1, b2⟩ := moves_in g _ _ mv hmv
        refine st_gtup hm k2 rfl fun ys hys => ?_
        obtain ⟨v1, ys, rfl, h1, hys⟩ := hys.cons_inv
        obtain ⟨v2, ys, rfl, h2, hys⟩ := hys.cons_inv
        obtain ⟨v3, ys, rfl, h3, hys⟩ := hys.cons_inv
        cases hys.nil_inv
        cases Im.int_iff.mp h1
        cases Im.int_iff.mp h2
        have hmem : (((movesOf os k).take i).foldl PS.move S).mem.length = S.mem.length := (move_sizes _ S).2.2.2
        have hfet : (((movesOf os k).take i).foldl PS.move S).fetches.length ≤ S.fetches.length + 32 := by
          rw [(move_sizes _ S).2.2.1, List.length_take]
          omega
        generalize eS : ((movesOf os k).take i).foldl PS.move S = S2 at hS2 hmem hfet
        have eS' : ((movesOf os k).take (i + 1)).foldl PS.move S = S2.move mv := by
          rw [List.take_add_one, e4]
          show ((movesOf os k).take i ++ [mv]).foldl PS.move S = S2.move mv
          rw [List.foldl_append, eS]
          rfl
        rw [eS']
        obtain ⟨xf, hfe, ife⟩ := hS2.fe
        walk_at "rd"
        refine st_getF hS2.ob T.cl_Plain T.na_Plain_fetches lk_plain_fetches ?_
        refine tyL hfe ?_
        walk_at "rd"
        refine st_getF hS2.ob T.cl_Plain T.na_Plain_memory lk_plain_memory ?_
        walk_at "rd"
        refine st_ixLI hS2.me (atI_nat (getD_at (c := mv.src) (by omega))) ?_
        walk_at "rd"
        refine st_newT (by simp) fun t H3 nt e5 ht => ?_
        walk_at "rd"
        refine st_app (e5 _ _ hfe) (sz_lt (by rw [ife.length, List.length_map]; omega)) fun H4 f4 k4 h4' => ?_
        have hS4 := (hS2.ex e5).addFetch (e5 _ _ hfe) (ife.ex e5) f4 k4 h4' (k4 _ _ ht)
        walk_at "rd"
        refine st_getF hS4.ob T.cl_Plain T.na_Plain_memory lk_plain_memory ?_
        walk_at "rd"
        refine st_ixLI hS4.me (atI_nat (getD_at (c := mv.src) (by show mv.src < S2.mem.length; omega))) ?_
        walk_at "rd"
        refine st_getF hS4.ob T.cl_Plain T.na_Plain_memory lk_plain_memory ?_
        walk_at "rd"
        refine st_setI hS4.me (by rw [List.length_map]; show mv.dst < S2.mem.length; omega) fun H5 f5 k5 h5 => ?_
        have nlF : ∀ a ∈ [ml, rl, fl, sl], l ≠ a := by
          intro a ha z
          subst z
          obtain ⟨_, r1, _⟩ := hS.re
          obtain ⟨_, r2, _⟩ := hS.fe
          simp only [List.mem_cons, List.not_mem_nil, or_false] at ha
          rcases ha with z | z | z | z
          · rw [z, hS.me] at nl; cases nl
          · rw [z, r1] at nl; cases nl
          · rw [z, r2] at nl; cases nl
          · rw [z, hS.sa] at nl; cases nl
        refine ⟨_, _, _, _, rfl, ((f2.trans e5.fr).trans (f4.mono (by simp))).trans (f5.mono (by simp)), ((k2.trans e5.kp).trans k4).trans k5, ?_, hS4.setMem f5 k5 h5⟩
        exact fr1 f5 (fr1 f4 (e5 _ _ hl2) (nlF fl (by simp))) (nlF ml (by simp))
      · obtain ⟨a, b, c', d, rfl, f2, k2, hl2, hS2⟩ := hp
        rw [hxl, List.take_length] at hS2
        exact q H' f2 (e1.kp.trans k2) hS2
    | wait =>
      repeat (first | walk_at "rd1" | refine st_ixT_str hd (by walk_at "kp") (atI_nat (j := 0) rfl) ?_)
      exact q H (Fr.refl _ _) (Kp.refl _) hS
    | clean a =>
      repeat (first | walk_at "rd1" | refine st_ixT_str hd (by walk_at "kp") (atI_nat (j := 0) rfl) ?_)
      exact q H (Fr.refl _ _) (Kp.refl _) hS
    | drop a =>
      repeat (first | walk_at "rd1" | refine st_ixT_str hd (by walk_at "kp") (atI_nat (j := 0) rfl) ?_)
      exact q H (Fr.refl _ _) (Kp.refl _) hS
/-! ### Plain -/
theorem sc_Plain___init__ : FnScope ["self", "board", "deed"] ["self", "board"] (defScope s_Plain___init__) := ⟨rfl, rfl, rfl, by decide +kernel, rfl, by decide +kernel, by decide +kernel⟩
def sp_Plain_init (C : Addr) : Sp := fun vs H Q _ => ∃ (p dx : Addr) (x : V) (b : Bd), vs = [.ref p, x] ∧ H p = some (.ins C dx []) ∧ Im H (pyB b.raw) x ∧ Good b ∧
  ∀ H' ml rl fl sl, Fr [p] H H' → Kp H H' → H ml = none → H rl = none → H fl = none → H sl = none → PlainAt C H' p dx ml rl fl sl (plainOf b) → Q .non H'
theorem mak_Plain {P w base K mg c} (T : Txt K mg c) : Mak CX0 P w K mg base 3 "Plain" c.Plain (sp_Plain_init c.Plain) := by
  obtain ⟨f, fd, F, m⟩ := T.F_Plain___init__
  have m_Plain_does := met_Plain_does (P := P) (w := w) (base := base) T
  refine mak_of m T.mg_Plain F (fun _ _ _ _ _ _ us hl => match us, hl with | [_, _], _ => rfl) sc_Plain___init__ (fun vs H Q E h => ?_) (fun cdv A outer s H vs Q E hr h => ?_)
  · obtain ⟨p, dx, x, b, rfl, _⟩ := h
    rfl
  · obtain ⟨p, dx, x, b, rfl, hp, hx, g, q⟩ := h
    refine ⟨_, (pss_cons (ps_fld (pv 0) (pe_callTy c_list (by rfl) T.list (by decide +kernel) (pa_cons (pe_ix ix_tup (pv 1) pe_int (fun _ _ => rfl)) pa_nil)) rfl)
      (pss_cons (ps_fld (pv 0) (pe_lst pa_nil) rfl)
      (pss_cons (ps_fld (pv 0) (pe_lst pa_nil) rfl)
      (pss_cons (ps_fld (pv 0) (pe_lst pa_nil) rfl)
      (pss_one (ps_for PassesOwn.never rfl (pi_tup (pe_ix ix_tup (pv 1) pe_int (fun _ _ => rfl))) (pg_name (i := 2) sc_Plain___init__.nd rfl (.inl rfl))
      (pss_one (ps_expr (pe_mt m_Plain_does hr (by decide) (pv 0) (pa_cons (pe_ix ix_tup (pv 1) pe_int (fun _ _ => rfl)) (pa_cons (pv 2) pa_nil))))))))))), ?_⟩
    obtain ⟨ax, xs, rfl, hax, hxs⟩ := hx.tup
    obtain ⟨vm, xs, rfl, hm, hxs⟩ := hxs.cons_inv
    obtain ⟨vo, xs, rfl, hos, hxs⟩ := hxs.cons_inv
    obtain ⟨vp, xs, rfl, hpr, hxs⟩ := hxs.cons_inv
    walk_at "rd"
    refine st_ixT hx (Kp.refl _) (atI_nat (j := 0) rfl) fun vm hm => ?_
    walk_at "rd"
    refine st_listT hm (Kp.refl _) fun ml xm H1 n1 e1 i1 h1 => ?_
    have em : xm = b.mem.map V.int := ImL.ints.mp i1
    subst em
    walk_at "rd"
    refine st_setF (e1 _ _ hp) T.cl_Plain T.na_Plain_memory (by decide) fun H2 f2 k2 h2 => ?_
    have npl : ∀ {l : Addr} {Hx : Hp} {fs : List (Str × V)}, Hx p = some (.ins c.Plain dx fs) → Hx l = none → l ≠ p := fun {l Hx fs} a b' z => by
      rw [z, a] at b'
      cases b'
    walk_at "rd"
    refine st_newL (by simp) fun rl H3 n3 e3 h3 => ?_
    walk_at "rd"
    refine st_setF (e3 _ _ h2) T.cl_Plain T.na_Plain_reads (by simp [putF]) fun H4 f4 k4 h4 => ?_
    walk_at "rd"
    refine st_newL (by simp) fun fl H5 n5 e5 h5 => ?_
    walk_at "rd"
    refine st_setF (e5 _ _ h4) T.cl_Plain T.na_Plain_fetches (by simp [putF, ofS_inj]) fun H6 f6 k6 h6 => ?_
    walk_at "rd"
    refine st_newL (by simp) fun sl H7 n7 e7 h7 => ?_
    walk_at "rd"
    refine st_setF (e7 _ _ h6) T.cl_Plain T.na_Plain_said (by simp [putF, ofS_inj]) fun H8 f8 k8 h8 => ?_
    have ef : putF "said" (.ref sl) (putF "fetches" (.ref fl) (putF "reads" (.ref rl) (putF "memory" (.ref ml) []))) = plainF ml rl fl sl := by
      simp [putF, ofS_inj, plainF]
    rw [ef] at h8
    -- what was known stands, the new lists too
    have ne1 : ml ≠ p := npl hp n1
    have ne3 : rl ≠ p := npl h2 n3
    have ne5 : fl ≠ p := npl h4 n5
    have ne7 : sl ≠ p := npl h6 n7
    have m2 : H2 ml = _ := fr1 f2 h1 ne1
    have m4 : H4 ml = _ := fr1 f4 (e3 _ _ m2) ne1
    have m6 : H6 ml = _ := fr1 f6 (e5 _ _ m4) ne1
    have m8 : H8 ml = _ := fr1 f8 (e7 _ _ m6) ne1
    have r4 : H4 rl = _ := fr1 f4 h3 ne3
    have r6 : H6 rl = _ := fr1 f6 (e5 _ _ r4) ne3
    have r8 : H8 rl = _ := fr1 f8 (e7 _ _ r6) ne3
    have t6 : H6 fl = _ := fr1 f6 h5 ne5
    have t8 : H8 fl = _ := fr1 f8 (e7 _ _ t6) ne5
    have s8 : H8 sl = _ := fr1 f8 h7 ne7
    have F8 : Fr [p] H H8 := ((((((e1.fr.trans f2).trans e3.fr).trans f4).trans e5.fr).trans f6).trans e7.fr).trans f8
    have K8 : Kp H H8 := ((((((e1.kp.trans k2).trans e3.kp).trans k4).trans e5.kp).trans k6).trans e7.kp).trans k8
    have free : ∀ {l : Addr} {Hx : Hp}, Fr [p] H Hx → l ≠ p → Hx l = none → H l = none := fun {l Hx} f n h => by
      cases e : H l with
      | none => rfl
      | some o =>
        rw [f l o e (by simpa using n)] at h
        cases h
    have z3 : H rl = none := free (e1.fr.trans f2) ne3 n3
    have z5 : H fl = none := free (((e1.fr.trans f2).trans e3.fr).trans f4) ne5 n5
    have z7 : H sl = none := free (((((e1.fr.trans f2).trans e3.fr).trans f4).trans e5.fr).trans f6) ne7 n7
    have nd : [ml, rl, fl, sl].Nodup := by
      have a1 : ml ≠ rl := fun z => by rw [← z, m2] at n3; cases n3
      have a2 : ml ≠ fl := fun z => by rw [← z, m4] at n5; cases n5
      have a3 : ml ≠ sl := fun z => by rw [← z, m6] at n7; cases n7
      have a4 : rl ≠ fl := fun z => by rw [← z, r4] at n5; cases n5
      have a5 : rl ≠ sl := fun z => by rw [← z, r6] at n7; cases n7
      have a6 : fl ≠ sl := fun z => by rw [← z, t6] at n7; cases n7
      simp [a1, a2, a3, a4, a5, a6]
    have S8 : PlainAt c.Plain H8 p dx ml rl fl sl (PS.init b.mem) := ⟨h8, m8, ⟨[], r8, iml_nil⟩, ⟨[], t8, iml_nil⟩, s8, nd⟩
    walk_at "rd"
    refine st_ixT hx K8 (atI_nat (j := 2) rfl) fun vp hvp => ?_
    have inP : ∀ a ∈ [ml, rl, fl, sl], H a = none := by
      intro a ha
      simp only [List.mem_cons, List.not_mem_nil, or_false] at ha
      rcases ha with rfl | rfl | rfl | rfl <;> assumption
    refine st_walkT hvp (Kp.refl _) (fun i σ H' => ∃ y, σ = [some (.ref p), some (.ref ax), y] ∧ Fr [p] H H' ∧ Kp H8 H' ∧ PlainAt c.Plain H' p dx ml rl fl sl ((b.prog.take i).foldl (PS.deed b.ords) (PS.init b.mem))) ⟨none, rfl, F8, Kp.refl _, S8⟩ (fun i σ H' hP => ?_) (fun i d v σ H' hd hP hv => ?_) (fun σ H' hP => ?_)
    · obtain ⟨_, _, _, k, _⟩ := hP
      exact k
    · obtain ⟨y, rfl, f9, k9, S9⟩ := hP
      obtain ⟨rd, g1, rfl⟩ := map_at' hd
      obtain ⟨d, g2, rfl⟩ := map_at' g1
      walk_at "rd"
      refine st_callM S9.ob lk_plain_does ?_
      walk_at "rd"
      refine st_ixT hx (K8.trans k9) (atI_nat (j := 1) rfl) fun vo hvo => ?_
      walk_at "rd"
      have hi : i < b.prog.length := (List.getElem?_eq_some_iff.mp g2).1
      have h60 := g.len
      have hml : ((b.prog.take i).foldl (PS.deed b.ords) (PS.init b.mem)).mem.length = b.mem.length := plain_mem_len _ _ _
      refine ⟨p, dx, ml, rl, fl, sl, _, vo, v, b.ords, d, i, rfl, S9, hvo, hv, by rw [hml]; exact g.ordsOk, g.ords, by rw [hml]; exact g.deeds d (List.mem_of_getElem? g2), ?_, by omega, fun H10 f10 k10 S10 => ?_⟩
      · have := plain_small g.ordsOk g.ords (b.prog.take i) 0 (PS.init b.mem) ⟨by simp [PS.init], by simp [PS.init], by simp [PS.init]⟩
        rw [List.length_take, show 0 + min i b.prog.length = i by omega] at this
        exact this
      · walk_at "rd"
        refine ⟨_, rfl, fun a o ha na => ?_, k9.trans k10, ?_⟩
        · refine f10 a o (f9 a o ha na) fun z => ?_
          rw [inP a z] at ha
          cases ha
        · rw [List.take_add_one, g2]
          show PlainAt c.Plain H10 p dx ml rl fl sl ((b.prog.take i ++ [d]).foldl (PS.deed b.ords) (PS.init b.mem))
          rw [List.foldl_append]
          exact S10
    · obtain ⟨y, rfl, f9, k9, S9⟩ := hP
      simp only [List.length_map, List.take_length] at S9
      exact q H' ml rl fl sl f9 (K8.trans k9) n1 z3 z5 z7 S9
/-! ### Judge.__init__ -/
theorem sc_Judge___init__ : FnScope ["self", "board"] ["self", "board"] (defScope s_Judge___init__) := ⟨rfl, rfl, rfl, by decide +kernel, rfl, by decide +kernel, by decide +kernel⟩
def sp_Judge_init (P : Program) (w : World) (CJ CP : Addr) : Sp := fun vs H Q _ => ∃ (j dx : Addr) (vb : V) (b : Bd), vs = [.ref j, vb] ∧ H j = some (.ins CJ dx []) ∧ Im H (pyB b.raw) vb ∧ Good b ∧
  ∀ H' md js, Fr [j] H H' → Kp H H' → JAt P w CJ CP H' j md js vb b [] → (∀ a ∈ md :: js, a = j ∨ H a = none) → Q .non H'
theorem mak_Judge {P w base K mg c} (T : Txt K mg c) : Mak CX0 P w K mg base 5 "Judge" c.Judge (sp_Judge_init P w c.Judge c.Plain) := by
  obtain ⟨f, fd, F, m⟩ := T.F_Judge___init__
  have k_Plain := mak_Plain (P := P) (w := w) (base := base) T
  refine mak_of m T.mg_Judge F (fun _ _ _ _ _ _ us hl => match us, hl with | [_, _], _ => rfl) sc_Judge___init__ (fun vs H Q E h => ?_) (fun cdv A outer s H vs Q E hr h => ?_)
  · obtain ⟨j, dx, vb, b, rfl, _⟩ := h
    rfl
  · obtain ⟨j, dx, vb, b, rfl, hj, hb, g, q⟩ := h
    refine ⟨_, (pss_cons (ps_fld (pv 0) (pv 1) rfl)
      (pss_cons (ps_fld (pv 0) (pe_mk k_Plain hr (by decide) (by rfl) (pa_cons (pv 1) pa_nil)) rfl)
      (pss_one (ps_fld (pv 0) pe_nnew rfl)))), ?_⟩
    walk_at "rd"
    refine st_setF hj T.cl_Judge T.na_Judge_board (by simp) fun H1 f1 k1 h1 => ?_
    rw [putF_nil] at h1
    walk_at "rd"
    refine st_makeC fun p pdx H2 np e2 hp => ?_
    refine ⟨p, pdx, vb, b, rfl, hp, (hb.kp k1).ex e2, g, fun H3 ml rl fl sl f3 k3 n1 n2 n3 n4 S => ⟨rfl, ?_⟩⟩
    have e3 : Ex H1 H3 := Fr.ex e2 (fun a ha => by rw [List.mem_singleton.mp ha]; exact np) f3
    walk_at "rd"
    refine st_setF (e3 _ _ h1) T.cl_Judge T.na_Judge_aim (by simp) fun H4 f4 k4 h4 => ?_
    have e4' : putF "aim" (.ref p) ([("board", vb)] : List (Str × V)) = ([("board", vb), ("aim", .ref p)] : List (Str × V)) := by simp [putF, ofS_inj]
    rw [e4'] at h4
    walk_at "rd"
    refine st_nnew fun md H5 n5 e5 m5 => ?_
    walk_at "rd"
    refine st_setF (e5 _ _ h4) T.cl_Judge T.na_Judge_met (by simp) fun H6 f6 k6 h6 => ?_
    have e6' : putF "met" (.ref md) ([("board", vb), ("aim", .ref p)] : List (Str × V)) = judgeF vb p md := by simp [putF, judgeF, ofS_inj]
    rw [e6'] at h6
    have out : ∀ {a}, H1 a = none → H a = none := fun {a} h => by
      cases e : H a with
      | none => rfl
      | some o =>
        by_cases z : a = j
        · rw [z, h1] at h
          cases h
        · rw [fr1 f1 e z] at h
          cases h
    have njp : ∀ a ∈ [p, ml, rl, fl, sl], H1 a = none := by
      intro a ha
      simp only [List.mem_cons, List.not_mem_nil, or_false] at ha
      rcases ha with z | z | z | z | z
      · exact z ▸ np
      · exact z ▸ e2.free n1
      · exact z ▸ e2.free n2
      · exact z ▸ e2.free n3
      · exact z ▸ e2.free n4
    have nj : ∀ a ∈ [p, ml, rl, fl, sl], a ∉ [j] := fun a ha z => by
      have := njp a ha
      rw [List.mem_singleton.mp z, h1] at this
      cases this
    have S4 := S.keep f4 k4 nj
    have S6 := (S4.ex e5).keep f6 k6 nj
    have njm : md ≠ j := fun z => by
      rw [z, h4] at n5
      cases n5
    have n3 : H3 md = none := by
      cases e : H3 md with
      | none => rfl
      | some o =>
        rw [fr1 f4 e njm] at n5
        cases n5
    have kp : Kp H H6 := k1.trans (e3.kp.trans (k4.trans (e5.kp.trans k6)))
    have fr : Fr [j] H H6 := f1.trans (e3.fr.trans (f4.trans (e5.fr.trans f6)))
    refine q H6 md [j, p, ml, rl, fl, sl] fr kp ⟨⟨_, p, h6, pdx, ml, rl, fl, sl, rfl, S6⟩, ?_, hb.kp kp, m5.keep f6 k6 (by simpa using njm)⟩ ?_
    · intro z
      rcases List.mem_cons.mp z with z | z
      · exact njm z
      · obtain ⟨o, ho⟩ := S.there md z
        rw [n3] at ho
        cases ho
    · intro a ha
      rcases List.mem_cons.mp ha with z | z
      · exact .inr (z ▸ out (e3.free n3))
      · rcases List.mem_cons.mp z with z | z
        · exact .inl z
        · exact .inr (out (njp a z))
/-! ### is_from -/
theorem sc_is_from : FnScope ["number", "least", "most"] ["number", "least", "most"] (defScope s_is_from) := ⟨rfl, rfl, rfl, by decide +kernel, rfl, by decide +kernel, by decide +kernel⟩
def sp_is_from : Sp := fun vs H Q _ => ∃ a b c : Int, vs = [.int a, .int b, .int c] ∧ Q (.bl (decide (b ≤ a ∧ a ≤ c))) H
theorem cal_is_from {P w base K mg c} (T : Txt K mg c) : Cal CX0 P w K mg base 1 "is_from" sp_is_from := by
  obtain ⟨f, fd, F, m⟩ := T.F_is_from
  refine cal_of F m (fun _ _ _ _ _ _ us hl => match us, hl with | [_, _, _], _ => rfl) sc_is_from (fun vs H Q E h => ?_) (fun cdv A outer s H vs Q E hr h => ?_)
  · obtain ⟨a, b, c, rfl, _⟩ := h
    rfl
  · obtain ⟨a, b, c, rfl, q⟩ := h
    refine ⟨_, (pss_one (ps_ret (pe_and (pe_cmpR op_le (pv 1) (pv 0) (nomark _)) (pe_one (pe_cmpR op_le (pv 0) (pv 2) (nomark _)))))), ?_⟩
    walk_at "rd"
    refine st_D (fun h1 => ?_) (fun h1 => ?_)
    · walk_at "rd"
      rw [show decide (b ≤ a ∧ a ≤ c) = decide (a ≤ c) from decide_eq_decide.mpr ⟨fun h => h.2, fun h => ⟨h1, h⟩⟩] at q
      exact q
    · rw [decide_eq_false (fun h : b ≤ a ∧ a ≤ c => h1 h.1)] at q
      exact q
/-! ### lines_in -/
theorem sc_lines_in : FnScope ["memory"] ["memory"] (defScope s_lines_in) := ⟨rfl, rfl, rfl, by decide +kernel, rfl, by decide +kernel, by decide +kernel⟩
def sp_lines_in : Sp := fun vs H Q _ => ∃ (x : V) (ds : List PyData), vs = [x] ∧ Im H (.tuple ds) x ∧ Q (.int ((ds.length / 4 : Nat) : Int)) H
theorem cal_lines_in {P w base K mg c} (T : Txt K mg c) : Cal CX0 P w K mg base 1 "lines_in" sp_lines_in := by
  obtain ⟨f, fd, F, m⟩ := T.F_lines_in
  refine cal_of F m (fun _ _ _ _ _ _ us hl => match us, hl with | [_], _ => rfl) sc_lines_in (fun vs H Q E h => ?_) (fun cdv A outer s H vs Q E hr h => ?_)
  · obtain ⟨x, ds, rfl, _⟩ := h
    rfl
  · obtain ⟨x, ds, rfl, hx, q⟩ := h
    refine ⟨_, (pss_one (ps_ret (pe_op op_fdiv (pe_callB c_len (by rfl) T.len PySem.boot_len (pa_cons (pv 0) pa_nil)) (pe_gc (by rfl) T.g_WIDE)))), ?_⟩
    walk_at "rd"
    refine st_lenT hx (Kp.refl _) ?_
    walk_at "rd"
    exact q
/-! ### memory_fault -/
theorem sc_memory_fault : FnScope ["memory", "place", "number"] ["memory"] (defScope s_memory_fault) := ⟨rfl, rfl, rfl, by decide +kernel, rfl, by decide +kernel, by decide +kernel⟩
def vNat : Option Nat → V
  | none => .non
  | some n => .int (n : Int)
def sp_memory_fault : Sp := fun vs H Q _ => ∃ (x : V) (m : List Int), vs = [x] ∧ Im H (pyMem m) x ∧ ∀ H', Ex H H' → Q (vNat (memFault m)) H'
theorem cal_memory_fault {P w base K mg c} (T : Txt K mg c) : Cal CX0 P w K mg base 2 "memory_fault" sp_memory_fault := by
  obtain ⟨f, fd, F, m⟩ := T.F_memory_fault
  have c_is_from := cal_is_from (P := P) (w := w) (base := base) T
  have c_lines_in := cal_lines_in (P := P) (w := w) (base := base) T
  refine cal_of F m (fun _ _ _ _ _ _ us hl => match us, hl with | [_], _ => rfl) sc_memory_fault (fun vs H Q E h => ?_) (fun cdv A outer s H vs Q E hr h => ?_)
  · obtain ⟨x, ds, rfl, _⟩ := h
    rfl
  · obtain ⟨x, m, rfl, hx, q⟩ := h
    refine ⟨_, (pss_cons (ps_if (PW.pt (pw_or (pt_cmpR op_ne (pe_op op_mod (pe_callB c_len (by rfl) T.len PySem.boot_len (pa_cons (pv 0) pa_nil)) (pe_gc (by rfl) T.g_WIDE)) pe_int (nomark _)) (pw_or1 (pt_not (pt_val (pe_c c_is_from hr (by decide) (by rfl) (pa_cons (pe_c c_lines_in hr (by decide) (by rfl) (pa_cons (pv 0) pa_nil)) (pa_cons pe_int (pa_cons (pe_gc (by rfl) T.g_MOST_LINES) pa_nil))))))))) (pss_one (ps_ret pe_int)) pss_nil)
      (pss_cons (ps_for PassesOwn.never rfl (pi_enumT (by rfl) T.enumerate (pa_cons (pv 0) pa_nil)) (pg_tup (n := 2) rfl (pgs_cons (pg_name (i := 1) sc_memory_fault.nd rfl (.inl rfl)) (pgs_cons (pg_name (i := 2) sc_memory_fault.nd rfl (.inl rfl)) pgs_nil)))
      (pss_one (ps_if (pt_not (pt_val (pe_c c_is_from hr (by decide) (by rfl) (pa_cons (pv 2) (pa_cons pe_int (pa_cons (pe_gc (by rfl) T.g_MOST_DIGIT) pa_nil)))))) (pss_one (ps_ret (pv 1))) pss_nil)))
      (pss_one (ps_ret pe_non)))), ?_⟩
    walk_at "rd"
    refine st_lenT hx (Kp.refl _) ?_
    walk_at "rd"
    have ez : ((m.map PyData.int).length : Int) % 4 = ((m.length % 4 : Nat) : Int) := by
      rw [List.length_map]
      omega
    rw [ez]
    have bad : (m.length % 4 ≠ 0 ∨ ¬ (1 ≤ m.length / 4 ∧ m.length / 4 ≤ 4)) → Q (.int 0) H := fun h => by
      have e : memFault m = some 0 := by
        unfold memFault
        rw [if_pos h]
      rw [e] at q
      exact q H (Ex.refl H)
    have main : ¬ (m.length % 4 ≠ 0 ∨ ¬ (1 ≤ m.length / 4 ∧ m.length / 4 ≤ 4)) → (tFor (iEnumT K (tCons (tVar 0) tNil)) (gTup K 2 (gCons (gName 1) (gCons (gName 2) gNil)))
        (tIfS (tNot (tB (tCall sp_is_from [] L2.E0 (tCons (tVar 2) (tCons (tC (.int 0)) (tCons (tC (.int 9)) tNil)))))) (tRet (tVar 1)) tNext)) ⟨tRet (tC .non) { nx := fun _ H' => Q .non H', rt := Q }, Q, fun _ _ => False, fun _ _ => False⟩ (L2.start ["memory", "place", "number"] [x]) H := fun hg => by
      have e0 : memFault m = m.findIdx? fun n => !digit n := by
        unfold memFault
        rw [if_neg hg]
      refine st_forET (H0 := H) (fun i σ H' => ∃ y z, σ = [some x, y, z] ∧ Ex H H' ∧ ∀ j n, j < i → m[j]? = some n → digit n = true) rfl hx (Kp.refl _) ⟨none, none, rfl, Ex.refl _, fun j n hj => absurd hj (Nat.not_lt_zero _)⟩ (fun i σ H' p => ?_) (fun i d v σ H' H'' hd p ht hv => ?_) (fun σ H' p => ?_)
      · obtain ⟨_, _, _, e, _⟩ := p
        exact e.kp
      · obtain ⟨y, z, rfl, e, hj⟩ := p
        obtain ⟨n, en, rfl⟩ := map_at' hd
        rw [Im.int_iff.mp hv]
        walk_at "rd"
        refine ⟨_, _, _, rfl, ?_⟩
        walk_at "rd"
        refine st_ND (fun h => ?_) (fun h => ?_)
        · walk_at "rd"
          have hd : digit n = false := decide_eq_false h
          have e1 : m.findIdx? (fun n => !digit n) = some i := by
            rw [List.findIdx?_eq_some_iff_getElem]
            obtain ⟨hi, g⟩ := List.getElem?_eq_some_iff.mp en
            refine ⟨hi, by rw [g, hd]; rfl, fun j hj' => ?_⟩
            rw [hj j m[j] hj' (List.getElem?_eq_getElem (by omega))]
            simp
          rw [e0, e1] at q
          exact q _ (e.trans ht)
        · walk_at "rd"
          refine ⟨some (.int (i : Int)), some (.int n), rfl, e.trans ht, fun j n' hj' en' => ?_⟩
          rcases Nat.lt_succ_iff_lt_or_eq.mp hj' with h1 | h1
          · exact hj j n' h1 en'
          · subst h1
            rw [en] at en'
            cases en'
            exact decide_eq_true h
      · obtain ⟨y, z, rfl, e, hj⟩ := p
        walk_at "rd"
        have e1 : m.findIdx? (fun n => !digit n) = none := by
          rw [List.findIdx?_eq_none_iff]
          intro n hn
          obtain ⟨j, h1, h2⟩ := List.mem_iff_getElem.mp hn
          rw [hj j n (by simpa using h1) (by rw [List.getElem?_eq_getElem h1, h2])]
          rfl
        rw [e0, e1] at q
        exact q _ e
    refine st_ND (fun h => ?_) (fun h => ?_)
    · walk_at "rd"
      exact bad (.inl fun z => h (by rw [z]; rfl))
    · walk_at "rd"
      refine ⟨x, _, rfl, hx, ?_⟩
      walk_at "rd"
      refine ⟨_, _, _, rfl, ?_⟩
      walk_at "rd"
      rw [List.length_map]
      refine st_ND (fun h2 => ?_) (fun h2 => ?_)
      · walk_at "rd"
        exact bad (.inr fun z => h2 (by omega))
      · walk_at "rd"
        exact main fun z => z.elim (fun z => z (by omega)) fun z => z (by omega)
/-! ### is_order -/
theorem sc_is_order : FnScope ["board", "number", "memory", "orders", "program", "source", "goal", "many", "later"] ["board", "number"] (defScope s_is_order) := ⟨rfl, rfl, rfl, by decide +kernel, rfl, by decide +kernel, by decide +kernel⟩
def sp_is_order : Sp := fun vs H Q _ => ∃ (x : V) (b : RB) (i : Nat) (o : ROrd), vs = [x, .int (i : Int)] ∧ Im H (pyB b) x ∧ b.ords[i]? = some o ∧ Q (.bl (ordOk b.mem.length b.ords.length i o)) H
theorem cal_is_order {P w base K mg c} (T : Txt K mg c) : Cal CX0 P w K mg base 2 "is_order" sp_is_order := by
  obtain ⟨f, fd, F, m⟩ := T.F_is_order
  have c_is_from := cal_is_from (P := P) (w := w) (base := base) T
  refine cal_of F m (fun _ _ _ _ _ _ us hl => match us, hl with | [_, _], _ => rfl) sc_is_order (fun vs H Q E h => ?_) (fun cdv A outer s H vs Q E hr h => ?_)
  · obtain ⟨x, b, i, o, rfl, _⟩ := h
    rfl
  · obtain ⟨x, b, i, o, rfl, hx, ho, q⟩ := h
    refine ⟨_, (pss_cons (ps_asg (pv 0) (pg_tup (n := 3) rfl (pgs_cons (pg_name (i := 2) sc_is_order.nd rfl (.inl rfl)) (pgs_cons (pg_name (i := 3) sc_is_order.nd rfl (.inl rfl)) (pgs_cons (pg_name (i := 4) sc_is_order.nd rfl (.inl rfl)) pgs_nil)))))
      (pss_cons (ps_asg (pe_ix ix_tup (pv 3) (pv 1) (fun _ _ => rfl)) (pg_tup (n := 4) rfl (pgs_cons (pg_name (i := 5) sc_is_order.nd rfl (.inl rfl)) (pgs_cons (pg_name (i := 6) sc_is_order.nd rfl (.inl rfl)) (pgs_cons (pg_name (i := 7) sc_is_order.nd rfl (.inl rfl)) (pgs_cons (pg_name (i := 8) sc_is_order.nd rfl (.inl rfl)) pgs_nil))))))
      (pss_cons (ps_if (pt_not (pt_val (pe_c c_is_from hr (by decide) (by rfl) (pa_cons (pv 7) (pa_cons pe_int (pa_cons (pe_gc (by rfl) T.g_MOST_CELLS) pa_nil)))))) (pss_one (ps_ret pe_bl)) pss_nil)
      (pss_cons (ps_if (PW.pt (pw_or (pt_not (pt_val (pe_c c_is_from hr (by decide) (by rfl) (pa_cons (pv 5) (pa_cons pe_int (pa_cons (pe_op op_sub (pe_callB c_len (by rfl) T.len PySem.boot_len (pa_cons (pv 2) pa_nil)) (pv 7)) pa_nil)))))) (pw_or1 (pt_not (pt_val (pe_c c_is_from hr (by decide) (by rfl) (pa_cons (pv 6) (pa_cons pe_int (pa_cons (pe_op op_sub (pe_callB c_len (by rfl) T.len PySem.boot_len (pa_cons (pv 2) pa_nil)) (pv 7)) pa_nil))))))))) (pss_one (ps_ret pe_bl)) pss_nil)
      (pss_one (ps_ret (pe_or (pe_cmpR o_isN (pv 8) pe_non (nomark _)) (pe_one (pe_c c_is_from hr (by decide) (by rfl) (pa_cons (pv 8) (pa_cons (pe_op op_add (pv 1) pe_int) (pa_cons (pe_op op_sub (pe_callB c_len (by rfl) T.len PySem.boot_len (pa_cons (pv 3) pa_nil)) pe_int) pa_nil)))))))))))), ?_⟩
    walk_at "rd"
    refine st_gtup hx (Kp.refl _) rfl fun xs hxs => ?_
    obtain ⟨vm, xs, rfl, hm, hxs⟩ := hxs.cons_inv
    obtain ⟨vo, xs, rfl, hos, hxs⟩ := hxs.cons_inv
    obtain ⟨vp, xs, rfl, hp, hxs⟩ := hxs.cons_inv
    cases hxs.nil_inv
    walk_at "rd"
    refine st_ixT hos (Kp.refl _) (atI_nat (map_at ho)) fun v hv => ?_
    refine st_gtup hv (Kp.refl _) rfl fun xs hxs => ?_
    cases ord_inv hxs
    walk_at "rd"
    refine ⟨_, _, _, rfl, ?_⟩
    walk_at "rd"
    unfold ordOk at q
    refine st_ND (fun h1 => ?_) (fun h1 => ?_)
    · walk_at "rd"
      rw [decide_eq_false h1] at q
      exact q
    rw [decide_eq_true h1] at q
    walk_at "rd"
    refine st_lenT hm (Kp.refl _) ?_
    walk_at "rd"
    refine ⟨_, _, _, rfl, ?_⟩
    walk_at "rd"
    rw [List.length_map]
    refine st_ND (fun h2 => ?_) (fun h2 => ?_)
    · walk_at "rd"
      rw [decide_eq_false h2] at q
      exact q
    rw [decide_eq_true h2] at q
    walk_at "rd"
    refine st_lenT hm (Kp.refl _) ?_
    walk_at "rd"
    refine ⟨_, _, _, rfl, ?_⟩
    walk_at "rd"
    rw [List.length_map]
    refine st_ND (fun h3 => ?_) (fun h3 => ?_)
    · walk_at "rd"
      rw [decide_eq_false h3] at q
      exact q
    rw [decide_eq_true h3] at q
    walk_at "rd"
    cases e : o.2.2.2 with
    | none =>
      rw [e] at q
      show if decide (V.non = V.non) = true then _ else _
      rw [decide_eq_true rfl]
      walk_at "rd"
      exact q
    | some l =>
      rw [e] at q
      show if decide (V.int l = V.non) = true then _ else _
      rw [decide_eq_false (fun z => by cases z)]
      walk_at "rd"
      refine st_lenT hos (Kp.refl _) ?_
      walk_at "rd"
      refine ⟨_, _, _, rfl, ?_⟩
      rw [List.length_map]
      exact q
/-! ### is_deed -/
theorem sc_is_deed : FnScope ["board", "deed", "memory", "orders", "program", "word"] ["board", "deed"] (defScope s_is_deed) := ⟨rfl, rfl, rfl, by decide +kernel, rfl, by decide +kernel, by decide +kernel⟩
def sp_is_deed : Sp := fun vs H Q _ => ∃ (x y : V) (b : RB) (d : RDeed), vs = [x, y] ∧ Im H (pyB b) x ∧ Im H (pyDeed d) y ∧ ∀ H', Ex H H' → Q (.bl (deedOk b.mem.length b.ords.length d)) H'
theorem deed_len (d : RDeed) : ((PyData.str d.1 :: d.2.map .int).length : Int) = (d.2.length : Int) + 1 := by
  rw [List.length_cons, List.length_map]
  rfl
theorem cal_is_deed {P w base K mg c} (T : Txt K mg c) : Cal CX0 P w K mg base 2 "is_deed" sp_is_deed := by
  obtain ⟨f, fd, F, m⟩ := T.F_is_deed
  have c_is_from := cal_is_from (P := P) (w := w) (base := base) T
  have c_lines_in := cal_lines_in (P := P) (w := w) (base := base) T
  refine cal_of F m (fun _ _ _ _ _ _ us hl => match us, hl with | [_, _], _ => rfl) sc_is_deed (fun vs H Q E h => ?_) (fun cdv A outer s H vs Q E hr h => ?_)
  · obtain ⟨x, y, b, d, rfl, _⟩ := h
    rfl
  · obtain ⟨x, y, b, d, rfl, hx, hy, q⟩ := h
    refine ⟨_, (pss_cons (ps_asg (pv 0) (pg_tup (n := 3) rfl (pgs_cons (pg_name (i := 2) sc_is_deed.nd rfl (.inl rfl)) (pgs_cons (pg_name (i := 3) sc_is_deed.nd rfl (.inl rfl)) (pgs_cons (pg_name (i := 4) sc_is_deed.nd rfl (.inl rfl)) pgs_nil)))))
      (pss_cons (ps_set (i := 5) sc_is_deed.nd rfl (.inl rfl) (pe_ix ix_tup (pv 1) pe_int (fun _ _ => rfl)))
      (pss_cons (ps_if (pt_cmpR op_eq (pv 5) pe_str (nomark _)) (pss_one (ps_ret (pe_cmpR op_eq (pe_callB c_len (by rfl) T.len PySem.boot_len (pa_cons (pv 1) pa_nil)) pe_int (nomark _)))) pss_nil)
      (pss_cons (ps_if (pt_cmpR op_in_seq (pv 5) (pe_tup (pa_cons pe_str (pa_cons pe_str pa_nil))) (by rfl)) (pss_cons (ps_if (PW.pt (pw_or (pt_cmpR op_ne (pe_callB c_len (by rfl) T.len PySem.boot_len (pa_cons (pv 1) pa_nil)) pe_int (nomark _)) (pw_or1 (pt_not (pt_val (pe_c c_is_from hr (by decide) (by rfl) (pa_cons (pe_ix ix_tup (pv 1) pe_int (fun _ _ => rfl)) (pa_cons pe_int (pa_cons (pe_op op_sub (pe_callB c_len (by rfl) T.len PySem.boot_len (pa_cons (pv 2) pa_nil)) pe_int) pa_nil))))))))) (pss_one (ps_ret pe_bl)) pss_nil)
      (pss_one (ps_ret (pe_c c_is_from hr (by decide) (by rfl) (pa_cons (pe_ix ix_tup (pv 1) pe_int (fun _ _ => rfl)) (pa_cons pe_int (pa_cons (pe_ifExp (pt_cmpR op_eq (pv 5) pe_str (nomark _)) (pe_gc (by rfl) T.g_MOST_DIGIT) (pe_op op_sub (pe_callB c_len (by rfl) T.len PySem.boot_len (pa_cons (pv 2) pa_nil)) pe_int)) pa_nil))))))) pss_nil)
      (pss_cons (ps_if (pt_cmpR op_ne (pe_callB c_len (by rfl) T.len PySem.boot_len (pa_cons (pv 1) pa_nil)) pe_int (nomark _)) (pss_one (ps_ret pe_bl)) pss_nil)
      (pss_cons (ps_if (pt_cmpR op_eq (pv 5) pe_str (nomark _)) (pss_one (ps_ret (pe_c c_is_from hr (by decide) (by rfl) (pa_cons (pe_ix ix_tup (pv 1) pe_int (fun _ _ => rfl)) (pa_cons pe_int (pa_cons (pe_op op_sub (pe_callB c_len (by rfl) T.len PySem.boot_len (pa_cons (pv 2) pa_nil)) pe_int) pa_nil)))))) pss_nil)
      (pss_cons (ps_if (pt_cmpR op_eq (pv 5) pe_str (nomark _)) (pss_one (ps_ret (pe_c c_is_from hr (by decide) (by rfl) (pa_cons (pe_ix ix_tup (pv 1) pe_int (fun _ _ => rfl)) (pa_cons pe_int (pa_cons (pe_op op_sub (pe_callB c_len (by rfl) T.len PySem.boot_len (pa_cons (pv 3) pa_nil)) pe_int) pa_nil)))))) pss_nil)
      (pss_one (ps_ret (pe_and (pe_cmpR op_in_seq (pv 5) (pe_tup (pa_cons pe_str (pa_cons pe_str pa_nil))) (by rfl)) (pe_one (pe_c c_is_from hr (by decide) (by rfl) (pa_cons (pe_ix ix_tup (pv 1) pe_int (fun _ _ => rfl)) (pa_cons pe_int (pa_cons (pe_op op_sub (pe_c c_lines_in hr (by decide) (by rfl) (pa_cons (pv 2) pa_nil)) pe_int) pa_nil))))))))))))))), ?_⟩
    walk_at "rd"
    refine st_gtup hx (Kp.refl _) rfl fun xs hxs => ?_
    obtain ⟨vm, xs, rfl, hm, hxs⟩ := hxs.cons_inv
    obtain ⟨vo, xs, rfl, hos, hxs⟩ := hxs.cons_inv
    obtain ⟨vp, xs, rfl, hp, hxs⟩ := hxs.cons_inv
    cases hxs.nil_inv
    walk_at "rd"
    refine st_ixT_str hy (Kp.refl _) (atI_nat (j := 0) rfl) ?_
    walk_at "rd"
    have fin : ∀ (v : Bool), deedOk b.mem.length b.ords.length d = v → ∀ H', Ex H H' → Q (.bl v) H' := fun v e H' e' => by
      rw [← e]
      exact q H' e'
    clear q
    unfold deedOk at fin
    obtain ⟨w0, ns⟩ := d
    have hL : ∀ H', Ex H H' → Im H' (.tuple (.str w0 :: ns.map .int)) y := fun H' e => hy.ex e
    refine st_D (fun h1 => ?_) (fun h1 => ?_)
    · walk_at "rd"
      refine st_lenT hy (Kp.refl _) ?_
      walk_at "rd"
      refine fin _ ?_ H (Ex.refl H)
      rw [if_pos h1, deed_len, Bool.eq_iff_iff, beq_iff_eq, decide_eq_true_eq]
      simp only
      omega
    rw [if_neg h1] at fin
    walk_at "rd"
    refine st_newT (by simp) fun p H1 hp e1 t1 => ?_
    refine st_in2 t1 ?_
    walk_at "rd"
    refine st_D (fun h2 => ?_) (fun h2 => ?_)
    · rw [if_pos h2] at fin
      walk_at "rd"
      refine st_lenT hy e1.kp ?_
      walk_at "rd"
      refine st_ND (fun h3 => ?_) (fun h3 => ?_)
      · walk_at "rd"
        refine fin _ ?_ H1 e1
        rw [deed_len] at h3
        match ns, h3 with
        | [], _ => rfl
        | [_], _ => rfl
        | [_, _], h3 => exact absurd rfl h3
        | _ :: _ :: _ :: _, _ => rfl
      rw [deed_len] at h3
      obtain ⟨x1, y1, rfl⟩ : ∃ x1 y1, ns = [x1, y1] := by
        match ns, h3 with
        | [x1, y1], _ => exact ⟨x1, y1, rfl⟩
        | [], h3 => exact absurd h3 (by simp)
        | [_], h3 => exact absurd h3 (by simp)
        | _ :: _ :: _ :: _, h3 => exact absurd h3 (by simp only [List.length_cons]; omega)
      walk_at "rd"
      refine st_ixT_int hy e1.kp (atI_nat (j := 1) rfl) ?_
      walk_at "rd"
      refine st_lenT hm e1.kp ?_
      walk_at "rd"
      refine ⟨_, _, _, rfl, ?_⟩
      walk_at "rd"
      rw [List.length_map]
      refine st_ND (fun h4 => ?_) (fun h4 => ?_)
      · walk_at "rd"
        refine fin _ ?_ H1 e1
        show (decide (0 ≤ x1 ∧ x1 ≤ (b.mem.length : Int) - 1) && _) = _
        rw [decide_eq_false h4]
        rfl
      walk_at "rd"
      refine st_ixT_int hy e1.kp (atI_nat (j := 2) rfl) ?_
      walk_at "rd"
      refine st_D (fun h5 => ?_) (fun h5 => ?_)
      · walk_at "rd"
        refine ⟨_, _, _, rfl, ?_⟩
        refine fin _ ?_ H1 e1
        show (decide (0 ≤ x1 ∧ x1 ≤ (b.mem.length : Int) - 1) && _) = _
        rw [decide_eq_true h4, Bool.true_and]
        simp only [if_pos h5]
      · walk_at "rd"
        refine st_lenT hm e1.kp ?_
        walk_at "rd"
        refine ⟨_, _, _, rfl, ?_⟩
        refine fin _ ?_ H1 e1
        show (decide (0 ≤ x1 ∧ x1 ≤ (b.mem.length : Int) - 1) && _) = _
        rw [decide_eq_true h4, Bool.true_and, List.length_map]
        simp only [if_neg h5]
    rw [if_neg h2] at fin
    walk_at "rd"
    refine st_lenT hy e1.kp ?_
    walk_at "rd"
    refine st_ND (fun h3 => ?_) (fun h3 => ?_)
    · walk_at "rd"
      refine fin _ ?_ H1 e1
      rw [deed_len] at h3
      match ns, h3 with
      | [], _ => rfl
      | [_], h3 => exact absurd rfl h3
      | _ :: _ :: _, _ => rfl
    rw [deed_len] at h3
    obtain ⟨x1, rfl⟩ : ∃ x1, ns = [x1] := by
      match ns, h3 with
      | [x1], _ => exact ⟨x1, rfl⟩
      | [], h3 => exact absurd h3 (by simp)
      | _ :: _ :: _, h3 => exact absurd h3 (by simp only [List.length_cons]; omega)
    have fin' : ∀ (v : Bool), (if w0 = "say" then decide (0 ≤ x1 ∧ x1 ≤ (b.mem.length : Int) - 1) else if w0 = "start" then decide (0 ≤ x1 ∧ x1 ≤ (b.ords.length : Int) - 1) else decide (w0 = "clean" ∨ w0 = "drop") && decide (0 ≤ x1 ∧ x1 ≤ ((b.mem.length / 4 : Nat) : Int) - 1)) = v → ∀ H', Ex H H' → Q (.bl v) H' := fin
    clear fin
    walk_at "rd"
    refine st_D (fun h4 => ?_) (fun h4 => ?_)
    · rw [if_pos h4] at fin'
      walk_at "rd"
      refine st_ixT_int hy e1.kp (atI_nat (j := 1) rfl) ?_
      walk_at "rd"
      refine st_lenT hm e1.kp ?_
      walk_at "rd"
      refine ⟨_, _, _, rfl, ?_⟩
      refine fin' _ ?_ H1 e1
      rw [List.length_map]
    rw [if_neg h4] at fin'
    walk_at "rd"
    refine st_D (fun h5 => ?_) (fun h5 => ?_)
    · rw [if_pos h5] at fin'
      walk_at "rd"
      refine st_ixT_int hy e1.kp (atI_nat (j := 1) rfl) ?_
      walk_at "rd"
      refine st_lenT hos e1.kp ?_
      walk_at "rd"
      refine ⟨_, _, _, rfl, ?_⟩
      refine fin' _ ?_ H1 e1
      rw [List.length_map]
    rw [if_neg h5] at fin'
    walk_at "rd"
    refine st_newT (by simp) fun p2 H2 hp2 e2 t2 => ?_
    refine st_in2 t2 ?_
    walk_at "rd"
    refine st_D (fun h6 => ?_) (fun h6 => ?_)
    · rw [decide_eq_true h6, Bool.true_and] at fin'
      walk_at "rd"
      refine st_ixT_int hy (e1.trans e2).kp (atI_nat (j := 1) rfl) ?_
      walk_at "rd"
      refine ⟨_, _, rfl, hm.ex (e1.trans e2), ?_⟩
      walk_at "rd"
      refine ⟨_, _, _, rfl, ?_⟩
      refine fin' _ ?_ H2 (e1.trans e2)
      rw [List.length_map]
    · refine fin' _ ?_ H2 (e1.trans e2)
      rw [decide_eq_false h6]
      rfl
/-! ### check_board -/
theorem sc_check_board : FnScope ["board", "memory", "orders", "program", "place", "number", "starts", "deed"] ["board"] (defScope s_check_board) := ⟨rfl, rfl, rfl, by decide +kernel, rfl, by decide +kernel, by decide +kernel⟩
def sp_check_board : Sp := fun vs H Q _ => ∃ (x : V) (b : RB), vs = [x] ∧ Im H (pyB b) x ∧ RGood b ∧ ∀ H', Ex H H' → Q .non H'
theorem cal_check_board {P w base K mg c} (T : Txt K mg c) : Cal CX0 P w K mg base 8 "check_board" sp_check_board := by
  obtain ⟨f, fd, F, m⟩ := T.F_check_board
  have c_memory_fault := cal_memory_fault (P := P) (w := w) (base := base) T
  have c_is_order := cal_is_order (P := P) (w := w) (base := base) T
  have c_is_deed := cal_is_deed (P := P) (w := w) (base := base) T
  refine cal_of F m (fun _ _ _ _ _ _ us hl => match us, hl with | [_], _ => rfl) sc_check_board (fun vs H Q E h => ?_) (fun cdv A outer s H vs Q E hr h => ?_)
  · obtain ⟨x, b, rfl, _⟩ := h
    rfl
  · obtain ⟨x, b, rfl, hx, g, q⟩ := h
    refine ⟨_, (pss_cons (ps_asg (pv 0) (pg_tup (n := 3) rfl (pgs_cons (pg_name (i := 1) sc_check_board.nd rfl (.inl rfl)) (pgs_cons (pg_name (i := 2) sc_check_board.nd rfl (.inl rfl)) (pgs_cons (pg_name (i := 3) sc_check_board.nd rfl (.inl rfl)) pgs_nil)))))
      (pss_cons (ps_set (i := 4) sc_check_board.nd rfl (.inl rfl) (pe_c c_memory_fault hr (by decide) (by rfl) (pa_cons (pv 1) pa_nil)))
      (pss_cons (ps_if (pt_cmpR o_notN (pv 4) pe_non (nomark _)) (pss_one ps_never) pss_nil)
      (pss_cons (ps_for PassesOwn.never rfl (pi_range1 rfl T.range (pa_cons (pe_callB c_len (by rfl) T.len PySem.boot_len (pa_cons (pv 2) pa_nil)) pa_nil)) (pg_name (i := 5) sc_check_board.nd rfl (.inl rfl))
      (pss_one (ps_if (PW.pt (pw_or (pt_cmpR op_ge (pv 5) (pe_gc (by rfl) T.g_MOST_ORDERS) (nomark _)) (pw_or1 (pt_not (pt_val (pe_c c_is_order hr (by decide) (by rfl) (pa_cons (pv 0) (pa_cons (pv 5) pa_nil)))))))) (pss_one ps_never) pss_nil)))
      (pss_cons (ps_set (i := 6) sc_check_board.nd rfl (.inl rfl) pe_int)
      (pss_one (ps_for PassesOwn.never rfl (pi_enumT (by rfl) T.enumerate (pa_cons (pv 3) pa_nil)) (pg_tup (n := 2) rfl (pgs_cons (pg_name (i := 5) sc_check_board.nd rfl (.inl rfl)) (pgs_cons (pg_name (i := 7) sc_check_board.nd rfl (.inl rfl)) pgs_nil)))
      (pss_cons (ps_if (PW.pt (pw_or (pt_cmpR op_ge (pv 5) (pe_gc (by rfl) T.g_MOST_DEEDS) (nomark _)) (pw_or1 (pt_not (pt_val (pe_c c_is_deed hr (by decide) (by rfl) (pa_cons (pv 0) (pa_cons (pv 7) pa_nil)))))))) (pss_one ps_never) pss_nil)
      (pss_cons (ps_aug (i := 6) sc_check_board.nd rfl (.inl rfl) (pe_callTy c_int (by rfl) T.int (by decide +kernel) (pa_cons (pe_cmpR op_eq (pe_ix ix_tup (pv 7) pe_int (fun _ _ => rfl)) pe_str (nomark _)) pa_nil)) ip_add)
      (pss_one (ps_if (pt_cmpR op_gt (pv 6) (pe_gc (by rfl) T.g_MOST_STARTS) (nomark _)) (pss_one ps_never) pss_nil))))))))))), ?_⟩
    walk_at "rd"
    refine st_gtup hx (Kp.refl _) rfl fun xs hxs => ?_
    obtain ⟨vm, xs, rfl, hm, hxs⟩ := hxs.cons_inv
    obtain ⟨vo, xs, rfl, hos, hxs⟩ := hxs.cons_inv
    obtain ⟨vp, xs, rfl, hp, hxs⟩ := hxs.cons_inv
    cases hxs.nil_inv
    walk_at "rd"
    refine ⟨_, _, rfl, hm, fun H1 e1 => ?_⟩
    rw [g.mem]
    simp only [vNat]
    walk_at "rd"
    refine st_lenT hos e1.kp ?_
    walk_at "rd"
    rw [List.length_map]
    have hlen4 := g.ords.1
    refine st_walkR (n := b.ords.length) (by omega) (fun i σ H' => ∃ y, σ = [some x, some vm, some vo, some vp, some .non, y, none, none] ∧ Ex H H') ⟨none, rfl, e1⟩ (fun i σ' H' hi p => ?_) (fun σ' H' p => ?_)
    · obtain ⟨y, rfl, e⟩ := p
      have hi' : i < b.ords.length := by omega
      have h4 := g.ords.1
      walk_at "rd"
      refine st_D (fun h => absurd h (by omega)) (fun _ => ?_)
      walk_at "rd"
      refine ⟨x, b, i, b.ords[i], rfl, hx.ex e, List.getElem?_eq_getElem hi', ?_⟩
      rw [g.ords.2 i _ (List.getElem?_eq_getElem hi')]
      walk_at "rd"
      exact ⟨_, rfl, e⟩
    · obtain ⟨y, rfl, e⟩ := p
      walk_at "rd"
      refine st_forET (H0 := H) (fun i σ H' => ∃ y z, σ = [some x, some vm, some vo, some vp, some .non, y, some (.int (((b.prog.take i).filter isStart).length : Int)), z] ∧ Ex H H') rfl hp e.kp ⟨y, none, rfl, e⟩ (fun i σ H' p => ?_) (fun i d v σ H' H'' hd p ht hv => ?_) (fun σ H' p => ?_)
      · obtain ⟨_, _, _, e⟩ := p
        exact e.kp
      · obtain ⟨y, z, rfl, e⟩ := p
        obtain ⟨dd, en, rfl⟩ := map_at' hd
        have hi : i < b.prog.length := (List.getElem?_eq_some_iff.mp en).1
        have h60 := g.prog.1
        walk_at "rd"
        refine st_D (fun h => absurd h (by omega)) (fun _ => ?_)
        walk_at "rd"
        refine ⟨x, v, b, dd, rfl, hx.ex (e.trans ht), hv, fun H2 e2 => ?_⟩
        rw [g.prog.2.1 dd (List.mem_of_getElem? en)]
        walk_at "rd"
        refine st_ixT_str hv e2.kp (atI_nat (j := 0) rfl) ?_
        walk_at "rd"
        have ec : (((b.prog.take i).filter isStart).length : Int) + (if decide (dd.1 = "start") = true then 1 else 0) = (((b.prog.take (i + 1)).filter isStart).length : Int) := by
          rw [List.take_add_one, en]
          simp only [Option.toList_some, List.filter_append, List.length_append, List.filter_cons, List.filter_nil, isStart]
          by_cases hs : dd.1 = "start"
          · simp [hs]
          · simp [hs]
        rw [ec]
        have h3 : ((b.prog.take (i + 1)).filter isStart).length ≤ 3 := Nat.le_trans ((List.take_sublist (i + 1) b.prog).filter isStart).length_le g.prog.2.2
        refine st_D (fun h => absurd h (by omega)) (fun _ => ?_)
        walk_at "rd"
        exact ⟨_, _, rfl, (e.trans ht).trans e2⟩
      · obtain ⟨y, z, rfl, e⟩ := p
        exact q _ e
/-! ### Machine.note -/
theorem sc_Machine_note : FnScope ["self", "word", "place", "number"] ["self", "word", "place", "number"] (defScope s_Machine_note) := ⟨rfl, rfl, rfl, by decide +kernel, rfl, by decide +kernel, by decide +kernel⟩
def sp_Machine_note (C : Addr) : Sp := fun vs H Q _ => ∃ (vo vp : V) (p : Addr) (F : List Addr) (M : MS) (w : Str) (pl : Nat) (n : Int), vs = [.ref p, .str w, .int (pl : Int), .int n] ∧ Mac C vo vp p F H M ∧ M.rows.length ≤ 50000 ∧
  ∀ H', Mac C vo vp p F H' (M.note w pl n) → Chg F H F H' → Q .non H'
theorem met_Machine_note {P w base K mg c} (T : Txt K mg c) : Met CX0 P w K mg base 1 c.Machine "note" (sp_Machine_note c.Machine) := by
  obtain ⟨f, fd, F, m⟩ := T.F_Machine_note
  refine met_of T.cl_Machine m F (fun _ _ _ _ _ _ us hl => match us, hl with | [_, _, _, _], _ => rfl) sc_Machine_note (fun vs H Q E h => ?_) (fun cdv A outer s H vs Q E hr h => ?_)
  · obtain ⟨vo, vp, p, F, M, w, pl, n, rfl, _⟩ := h
    rfl
  · obtain ⟨vo, vp, p, F, M, w, pl, n, rfl, hM, hl, q⟩ := h
    refine ⟨_, (pss_one (ps_expr (pe_bm PySem.F.plainAttrs_list PySem.F.slot_list_append PySem.F.type_list_append mt_append (pe_fld (pv 0) rfl) (pa_cons (pe_tup (pa_cons (pe_fld (pv 0) rfl) (pa_cons (pv 1) (pa_cons (pv 2) (pa_cons (pv 3) pa_nil))))) pa_nil)))), ?_⟩
    obtain ⟨dx, hd, ml, ll, rl, cs, rfl, A⟩ := hM
    obtain ⟨xr, hro, iro⟩ := A.ro
    walk_at "rd"
    refine st_getF A.ob T.cl_Machine T.na_Machine_rows lk_M_rows ?_
    refine tyL hro ?_
    walk_at "rd"
    refine st_getF A.ob T.cl_Machine T.na_Machine_beats lk_M_beats ?_
    walk_at "rd"
    refine st_newT (by simp) fun t H1 n1 e1 h1 => ?_
    walk_at "rd"
    have hx : xr.length = M.rows.length := by rw [iro.length, List.length_map]
    refine st_app (e1 _ _ hro) (sz_lt (by omega)) fun H2 f2 k2 h2 => ?_
    refine q H2 ⟨dx, hd, ml, ll, rl, cs, rfl, ?_⟩ ((Chg.ex e1).trans (Chg.mut (by simp) f2 k2))
    refine (A.ex e1).mutRows (rows := M.rows ++ [(M.beats, w, pl, n)]) f2 k2 h2 ?_
    rw [List.map_append]
    exact ((iro.ex e1).kp k2).append (iml_cons (im_tup (k2 _ _ h1) (iml_cons im_int (iml_cons im_str (iml_cons im_int (iml_cons im_int iml_nil))))) iml_nil)
/-! ### Machine.take -/
/-- the list c holds the cells of a held line -/
def CellAt (C : Addr) (vo vp : V) (p : Addr) (F : List Addr) (H : Hp) (M : MS) (l : Nat) (c : Addr) : Prop := ∃ dx hd ml ll rl cs kvs t ns b, F = p :: hd :: ml :: ll :: rl :: cs ∧ MA C vo vp H p dx hd ml ll rl cs M ∧
  hget M.held l = some (ns, b) ∧ H hd = some (.dK kvs) ∧ valV kvs (Sum.inl (l : Int)) = some (.ref t) ∧ H t = some (.tup [.ref c, .bl b]) ∧ c ∈ cs ∧ H c = some (.lst (ns.map V.int))
theorem Mac.cellAt {C : Addr} {vo vp : V} {p : Addr} {F : List Addr} {H : Hp} {M : MS} {l : Nat} {ns : List Int} {b : Bool} (h : Mac C vo vp p F H M) (e : hget M.held l = some (ns, b)) : ∃ c, CellAt C vo vp p F H M l c := by
  obtain ⟨dx, hd, ml, ll, rl, cs, rfl, A⟩ := h
  obtain ⟨kvs, h1, h2⟩ := A.he
  obtain ⟨t, c, g1, g2, g3, g4⟩ := h2.get e
  exact ⟨c, dx, hd, ml, ll, rl, cs, kvs, t, ns, b, rfl, A, e, h1, g1, g2, g4, g3⟩
theorem CellAt.mac {C : Addr} {vo vp : V} {p : Addr} {F : List Addr} {H : Hp} {M : MS} {l : Nat} {c : Addr} (h : CellAt C vo vp p F H M l c) : Mac C vo vp p F H M := by
  obtain ⟨dx, hd, ml, ll, rl, cs, kvs, t, ns, b, e, A, _⟩ := h
  exact ⟨dx, hd, ml, ll, rl, cs, e, A⟩
theorem sc_Machine_take : FnScope ["self", "line"] ["self", "line"] (defScope s_Machine_take) := ⟨rfl, rfl, rfl, by decide +kernel, rfl, by decide +kernel, by decide +kernel⟩
def sp_Machine_take (C : Addr) : Sp := fun vs H Q _ => ∃ (vo vp : V) (p : Addr) (F : List Addr) (M : MS) (n l : Nat), vs = [.ref p, .int (l : Int)] ∧ Mac C vo vp p F H M ∧ M.Ok n ∧ n % 4 = 0 ∧ l < n / 4 ∧ n ≤ 1000 ∧ M.rows.length ≤ 40000 ∧
  ∀ H' F' c, CellAt C vo vp p F' H' (M.take l) l c → Chg F H F' H' → Q (.ref c) H'
theorem met_Machine_take {P w base K mg c} (T : Txt K mg c) : Met CX0 P w K mg base 2 c.Machine "take" (sp_Machine_take c.Machine) := by
  obtain ⟨f, fd, F, m⟩ := T.F_Machine_take
  have m_Machine_note := met_Machine_note (P := P) (w := w) (base := base) T
  refine met_of T.cl_Machine m F (fun _ _ _ _ _ _ us hl => match us, hl with | [_, _], _ => rfl) sc_Machine_take (fun vs H Q E h => ?_) (fun cdv A outer s H vs Q E hr h => ?_)
  · obtain ⟨vo, vp, p, F, M, n, l, rfl, _⟩ := h
    rfl
  · obtain ⟨vo, vp, p, F, M, n, l, rfl, hM, ok, n4, hln, n1000, hl, q⟩ := h
    refine ⟨_, (pss_cut (ps_if (pt_cmp (pc_dnotin (u1 hr) (pv 1) (pe_fld (pv 0) rfl))) (pss_cons (ps_dput (u1 hr) (pe_fld (pv 0) rfl) (pv 1) (pe_tup (pa_cons (pe_slice sl_list (pe_fld (pv 0) rfl) (po_some (pe_op op_mul (pe_gc (by rfl) T.g_WIDE) (pv 1))) (po_some (pe_op op_add (pe_op op_mul (pe_gc (by rfl) T.g_WIDE) (pv 1)) (pe_gc (by rfl) T.g_WIDE)))) (pa_cons pe_bl pa_nil))) rfl)
      (pss_one (ps_expr (pe_mt m_Machine_note hr (by decide) (pv 0) (pa_cons pe_str (pa_cons (pv 1) (pa_cons pe_int pa_nil))))))) pss_nil)
      (pss_one (ps_ret (pe_ix ix_tup (pe_dget (u1 hr) (pe_fld (pv 0) rfl) (pv 1) (fun _ _ => rfl)) pe_int (fun _ _ => rfl))))), ?_⟩
    refine st_cut (fun σ' H' => ∃ F', σ' = [some (.ref p), some (.int (l : Int))] ∧ Mac c.Machine vo vp p F' H' (M.take l) ∧ Chg F H F' H') ?_ fun σ' H' hp => ?_
    · obtain ⟨dx, hd, ml, ll, rl, cs, rfl, A⟩ := hM
      obtain ⟨kvs, hk, hR⟩ := A.he
      walk_at "rd"
      refine st_getF A.ob T.cl_Machine T.na_Machine_held lk_M_held ?_
      refine st_dnotinI hk ?_
      walk_at "rd"
      cases e : hget M.held l with
      | some v =>
        obtain ⟨ns, b⟩ := v
        obtain ⟨t, c', g1, g2, g3, g4⟩ := hR.get e
        rw [g1]
        walk_at "rd"
        have em : M.take l = M := by
          unfold MS.take
          rw [e]
        exact ⟨_, rfl, by rw [em]; exact ⟨dx, hd, ml, ll, rl, cs, rfl, A⟩, Chg.refl _ _⟩
      | none =>
        have hv := hR.lost e
        rw [hv]
        refine st_NF ?_
        walk_at "rd"
        refine st_getF A.ob T.cl_Machine T.na_Machine_memory lk_M_memory ?_
        walk_at "rd"
        refine st_mul (.inl (by omega)) ?_
        walk_at "rd"
        refine st_mul (.inl (by omega)) ?_
        walk_at "rd"
        refine st_slL A.me (cut_line (by rw [ok.len]; omega)) fun cl H1 n1 e1 h1 => ?_
        walk_at "rd"
        refine st_newT (by simp) fun t H2 n2 e2 h2 => ?_
        walk_at "rd"
        have A2 := (A.ex e1).ex e2
        have hk2 : H2 hd = some (.dK kvs) := e2 _ _ (e1 _ _ hk)
        refine st_getF A2.ob T.cl_Machine T.na_Machine_held lk_M_held ?_
        walk_at "rd"
        have h4 := ok.heldLen
        have hkl : kvs.length < 100000 := by
          rw [hR.len]
          omega
        refine st_dputK (k := Sum.inl (l : Int)) hk2 rfl hkl fun H3 f3 k3 h3 => ?_
        rw [putK_new _ hv] at h3
        have nc : ∀ a ∈ p :: hd :: ml :: ll :: rl :: cs, a ≠ cl := A.free n1
        have hR3 := ((hR.ex e1).ex e2).keep f3 k3 (not1 A.nes.h4)
        have hcl3 : H3 cl = some (.lst (((M.mem.drop (4 * l)).take 4).map V.int)) := fr1 f3 (e2 _ _ h1) (fun z => nc hd (by simp) z.symm)
        have A3 := A2.mutHd (held := M.held ++ [(l, (M.mem.drop (4 * l)).take 4, false)]) f3 k3 h3 (hR3.add (k3 _ _ h2) hcl3) (nodup_snoc A.nd nc)
        walk_at "rd"
        refine st_callM A3.ob no_M_note ?_
        walk_at "rd"
        refine ⟨vo, vp, p, _, _, "take", l, 0, rfl, ⟨dx, hd, ml, ll, rl, _, rfl, A3⟩, by show M.rows.length ≤ _; omega, fun H4 hM4 hg4 => ?_⟩
        have em : M.take l = ({ M with held := M.held ++ [(l, (M.mem.drop (4 * l)).take 4, false)] } : MS).note "take" l 0 := by
          unfold MS.take
          rw [e]
        have g3 : Chg (p :: hd :: ml :: ll :: rl :: cs) H (p :: hd :: ml :: ll :: rl :: (cs ++ [cl])) H3 := by
          refine ⟨(e1.fr.trans e2.fr).trans (f3.mono (by simp)), (e1.kp.trans e2.kp).trans k3, fun a ha => ?_⟩
          simp only [List.mem_cons, List.mem_append, List.not_mem_nil, or_false] at ha ⊢
          rcases ha with z | z | z | z | z | z | z
          · exact .inl (.inl z)
          · exact .inl (.inr (.inl z))
          · exact .inl (.inr (.inr (.inl z)))
          · exact .inl (.inr (.inr (.inr (.inl z))))
          · exact .inl (.inr (.inr (.inr (.inr (.inl z)))))
          · exact .inl (.inr (.inr (.inr (.inr (.inr z)))))
          · exact .inr (z ▸ n1)
        exact ⟨_, rfl, by rw [em]; exact hM4, g3.trans hg4⟩
    · obtain ⟨F', rfl, hM', hg⟩ := hp
      obtain ⟨⟨ns, b⟩, he⟩ := MS.take_some M l
      obtain ⟨c', hc⟩ := hM'.cellAt he
      have hc' := hc
      obtain ⟨dx, hd, ml, ll, rl, cs, kvs, t, ns, b, rfl, A, he, hk, hv, ht, hcs, hcl⟩ := hc
      walk_at "rd"
      refine st_getF A.ob T.cl_Machine T.na_Machine_held lk_M_held ?_
      walk_at "rd"
      refine st_dgetI hk hv ?_
      walk_at "rd"
      exact ⟨t, _, 0, .ref c', rfl, rfl, SqT.of ht, atI_nat (j := 0) rfl, q H' _ c' hc' hg⟩
/-! ### Machine.read -/
theorem sc_Machine_read : FnScope ["self", "cell", "number"] ["self", "cell"] (defScope s_Machine_read) := ⟨rfl, rfl, rfl, by decide +kernel, rfl, by decide +kernel, by decide +kernel⟩
def sp_Machine_read (C : Addr) : Sp := fun vs H Q _ => ∃ (vo vp : V) (p : Addr) (F : List Addr) (M : MS) (n k : Nat), vs = [.ref p, .int (k : Int)] ∧ Mac C vo vp p F H M ∧ M.Ok n ∧ n % 4 = 0 ∧ k < n ∧ n ≤ 1000 ∧ M.rows.length ≤ 40000 ∧
  ∀ H' F', Mac C vo vp p F' H' (M.read k) → Chg F H F' H' → Q (.int (M.val k)) H'
theorem take_rows (M : MS) (l : Nat) : (M.take l).rows.length ≤ M.rows.length + 1 := by
  unfold MS.take
  split
  · omega
  · simp [MS.note]
theorem met_Machine_read {P w base K mg c} (T : Txt K mg c) : Met CX0 P w K mg base 3 c.Machine "read" (sp_Machine_read c.Machine) := by
  obtain ⟨f, fd, F, m⟩ := T.F_Machine_read
  have m_Machine_note := met_Machine_note (P := P) (w := w) (base := base) T
  have m_Machine_take := met_Machine_take (P := P) (w := w) (base := base) T
  refine met_of T.cl_Machine m F (fun _ _ _ _ _ _ us hl => match us, hl with | [_, _], _ => rfl) sc_Machine_read (fun vs H Q E h => ?_) (fun cdv A outer s H vs Q E hr h => ?_)
  · obtain ⟨vo, vp, p, F, M, n, k, rfl, _⟩ := h
    rfl
  · obtain ⟨vo, vp, p, F, M, n, k, rfl, hM, ok, n4, hk, n1000, hl, q⟩ := h
    refine ⟨_, (pss_cons (ps_set (i := 2) sc_Machine_read.nd rfl (.inl rfl) (pe_ix ix_list (pe_mt m_Machine_take hr (by decide) (pv 0) (pa_cons (pe_op op_fdiv (pv 1) (pe_gc (by rfl) T.g_WIDE)) pa_nil)) (pe_op op_mod (pv 1) (pe_gc (by rfl) T.g_WIDE)) (fun _ _ => rfl)))
      (pss_cons (ps_expr (pe_mt m_Machine_note hr (by decide) (pv 0) (pa_cons pe_str (pa_cons (pv 1) (pa_cons (pv 2) pa_nil)))))
      (pss_one (ps_ret (pv 2))))), ?_⟩
    have hM0 := hM
    obtain ⟨dx, hd, ml, ll, rl, cs, rfl, A⟩ := hM
    walk_at "rd"
    refine st_callM A.ob no_M_take ?_
    walk_at "rd"
    rw [div4]
    refine ⟨vo, vp, p, _, M, n, k / 4, rfl, hM0, ok, n4, by omega, n1000, hl, fun H1 F1 cl hc g1 => ?_⟩
    have hM1 := hc.mac
    have ok1 := ok.take n4 (l := k / 4) (by omega)
    obtain ⟨dx, hd, ml, ll, rl, cs, kvs, t, ns, b, rfl, A1, he, hkv, hv, ht, hcs, hcl⟩ := hc
    have hns := (ok1.cells4 he).1
    have ev : M.val k = ns.getD (k % 4) 0 := by
      unfold MS.val MS.cells
      rw [he]
    walk_at "rd"
    rw [mod4]
    refine st_ixLI hcl (atI_nat (getD_at (by omega))) ?_
    rw [← ev]
    walk_at "rd"
    refine st_callM A1.ob no_M_note ?_
    walk_at "rd"
    have hr1 := take_rows M (k / 4)
    refine ⟨vo, vp, p, _, _, "read", k, M.val k, rfl, hM1, by omega, fun H2 hM2 g2 => ?_⟩
    walk_at "rd"
    exact q H2 _ hM2 (g1.trans g2)
/-! ### Machine.write -/
theorem sc_Machine_write : FnScope ["self", "cell", "number", "cells"] ["self", "cell", "number"] (defScope s_Machine_write) := ⟨rfl, rfl, rfl, by decide +kernel, rfl, by decide +kernel, by decide +kernel⟩
def sp_Machine_write (C : Addr) : Sp := fun vs H Q _ => ∃ (vo vp : V) (p : Addr) (F : List Addr) (M : MS) (n k : Nat) (v : Int), vs = [.ref p, .int (k : Int), .int v] ∧ Mac C vo vp p F H M ∧ M.Ok n ∧ n % 4 = 0 ∧ k < n ∧ n ≤ 1000 ∧ M.rows.length ≤ 40000 ∧
  ∀ H' F', Mac C vo vp p F' H' (M.write k v) → Chg F H F' H' → Q .non H'
theorem met_Machine_write {P w base K mg c} (T : Txt K mg c) : Met CX0 P w K mg base 3 c.Machine "write" (sp_Machine_write c.Machine) := by
  obtain ⟨f, fd, F, m⟩ := T.F_Machine_write
  have m_Machine_note := met_Machine_note (P := P) (w := w) (base := base) T
  have m_Machine_take := met_Machine_take (P := P) (w := w) (base := base) T
  refine met_of T.cl_Machine m F (fun _ _ _ _ _ _ us hl => match us, hl with | [_, _, _], _ => rfl) sc_Machine_write (fun vs H Q E h => ?_) (fun cdv A outer s H vs Q E hr h => ?_)
  · obtain ⟨vo, vp, p, F, M, n, k, v, rfl, _⟩ := h
    rfl
  · obtain ⟨vo, vp, p, F, M, n, k, v, rfl, hM, ok, n4, hk, n1000, hl, q⟩ := h
    refine ⟨_, (pss_cons (ps_set (i := 3) sc_Machine_write.nd rfl (.inl rfl) (pe_mt m_Machine_take hr (by decide) (pv 0) (pa_cons (pe_op op_fdiv (pv 1) (pe_gc (by rfl) T.g_WIDE)) pa_nil)))
      (pss_cons (ps_asg (pv 2) (pg_sub (pv 3) (pe_op op_mod (pv 1) (pe_gc (by rfl) T.g_WIDE)) set_list))
      (pss_cons (ps_dput (u1 hr) (pe_fld (pv 0) rfl) (pe_op op_fdiv (pv 1) (pe_gc (by rfl) T.g_WIDE)) (pe_tup (pa_cons (pv 3) (pa_cons pe_bl pa_nil))) rfl)
      (pss_one (ps_expr (pe_mt m_Machine_note hr (by decide) (pv 0) (pa_cons pe_str (pa_cons (pv 1) (pa_cons (pv 2) pa_nil))))))))), ?_⟩
    have hM0 := hM
    obtain ⟨dx, hd, ml, ll, rl, cs, rfl, A⟩ := hM
    walk_at "rd"
    refine st_callM A.ob no_M_take ?_
    walk_at "rd"
    rw [div4]
    refine ⟨vo, vp, p, _, M, n, k / 4, rfl, hM0, ok, n4, by omega, n1000, hl, fun H1 F1 cl hc g1 => ?_⟩
    have ok1 := ok.take n4 (l := k / 4) (by omega)
    have hr1 := take_rows M (k / 4)
    obtain ⟨dx, hd, ml, ll, rl, cs, kvs, t, ns, b, rfl, A1, he, hkv, hv, ht, hcs, hcl⟩ := hc
    have hns := (ok1.cells4 he).1
    walk_at "rd"
    rw [mod4]
    refine st_setI hcl (by rw [List.length_map]; omega) fun H2 f2 k2 h2 => ?_
    rw [← List.map_set] at h2
    have A2 := A1.mutCell ok1.nd he hkv hv ht hcs f2 k2 h2
    have hkv2 : H2 hd = some (.dK kvs) := fr1 f2 hkv (A1.nes.h4 cl hcs).symm
    walk_at "rd"
    refine st_newT (by simp) fun t2 H3 n3 e3 h3 => ?_
    walk_at "rd"
    have A3 := A2.ex e3
    refine st_getF A3.ob T.cl_Machine T.na_Machine_held lk_M_held ?_
    walk_at "rd"
    rw [div4]
    obtain ⟨kvs', hk3, hR3⟩ := A3.he
    rw [e3 _ _ hkv2] at hk3
    cases hk3
    have ok2 : ((M.take (k / 4)).put (k / 4) (ns.set (k % 4) v, b)).Ok n := ok1.put _ _ (by rw [List.length_set]; exact hns)
    have hkl : kvs.length < 100000 := by
      have := ok2.heldLen
      rw [hR3.len]
      omega
    refine st_dputK (k := Sum.inl ((k / 4 : Nat) : Int)) (e3 _ _ hkv2) rfl hkl fun H4 f4 k4 h4 => ?_
    have hR4 := hR3.keep f4 k4 (not1 A3.nes.h4)
    have hR5 := hR4.mark (b2 := true) ok2.nd (hget_same he) hv (k4 _ _ (e3 _ _ (k2 _ _ ht))) (k4 _ _ h3)
    have A4 := A3.mutHd f4 k4 h4 hR5 A3.nd
    walk_at "rd"
    refine st_callM A4.ob no_M_note ?_
    walk_at "rd"
    refine ⟨vo, vp, p, _, _, "write", k, v, rfl, ⟨dx, hd, ml, ll, rl, cs, rfl, A4⟩, by show (M.take (k / 4)).rows.length ≤ _; omega, fun H5 hM5 g5 => ?_⟩
    have em : M.write k v = ({ (M.take (k / 4)).put (k / 4) (ns.set (k % 4) v, b) with held := hset ((M.take (k / 4)).put (k / 4) (ns.set (k % 4) v, b)).held (k / 4) (ns.set (k % 4) v, true) } : MS).note "write" k v := by
      have ec : (M.take (k / 4)).cells (k / 4) = ns := by
        unfold MS.cells
        rw [he]
      unfold MS.write
      rw [ec]
      show _ = MS.note { (M.take (k / 4)) with held := hset (hset (M.take (k / 4)).held (k / 4) (ns.set (k % 4) v, b)) (k / 4) (ns.set (k % 4) v, true) } "write" k v
      rw [hset_hset]
      rfl
    refine q H5 _ (by rw [em]; exact hM5) (g1.trans (((Chg.mut (a := cl) (by simp [hcs]) f2 k2).trans ((Chg.ex e3).trans (Chg.mut (a := hd) (by simp) f4 k4))).trans g5))
/-! ### Machine.clean -/
theorem sc_Machine_clean : FnScope ["self", "line", "cells", "step"] ["self", "line"] (defScope s_Machine_clean) := ⟨rfl, rfl, rfl, by decide +kernel, rfl, by decide +kernel, by decide +kernel⟩
def sp_Machine_clean (C : Addr) : Sp := fun vs H Q _ => ∃ (vo vp : V) (p : Addr) (F : List Addr) (M : MS) (n l : Nat), vs = [.ref p, .int (l : Int)] ∧ Mac C vo vp p F H M ∧ M.Ok n ∧ n % 4 = 0 ∧ n ≤ 1000 ∧ l ≤ 1000 ∧ M.rows.length ≤ 40000 ∧
  ∀ H' F', Mac C vo vp p F' H' (M.clean l) → Chg F H F' H' → Q .non H'
theorem met_Machine_clean {P w base K mg c} (T : Txt K mg c) : Met CX0 P w K mg base 2 c.Machine "clean" (sp_Machine_clean c.Machine) := by
  obtain ⟨f, fd, F, m⟩ := T.F_Machine_clean
  have m_Machine_note := met_Machine_note (P := P) (w := w) (base := base) T
  refine met_of T.cl_Machine m F (fun _ _ _ _ _ _ us hl => match us, hl with | [_, _], _ => rfl) sc_Machine_clean (fun vs H Q E h => ?_) (fun cdv A outer s H vs Q E hr h => ?_)
  · obtain ⟨vo, vp, p, F, M, n, l, rfl, _⟩ := h
    rfl
  · obtain ⟨vo, vp, p, F, M, n, l, rfl, hM, ok, n4, n1000, l1000, hl, q⟩ := h
    refine ⟨_, (pss_one (ps_if (PW.pt (pw_and (pt_cmp (pc_din (u1 hr) (pv 1) (pe_fld (pv 0) rfl))) (pw_and1 (pt_val (pe_ix ix_tup (pe_dget (u1 hr) (pe_fld (pv 0) rfl) (pv 1) (fun _ _ => rfl)) pe_int (fun _ _ => rfl)))))) (pss_cons (ps_set (i := 2) sc_Machine_clean.nd rfl (.inl rfl) (pe_ix ix_tup (pe_dget (u1 hr) (pe_fld (pv 0) rfl) (pv 1) (fun _ _ => rfl)) pe_int (fun _ _ => rfl)))
      (pss_cons (ps_for PassesOwn.never rfl (pi_range1 rfl T.range (pa_cons (pe_gc (by rfl) T.g_WIDE) pa_nil)) (pg_name (i := 3) sc_Machine_clean.nd rfl (.inl rfl))
      (pss_one (ps_asg (pe_ix ix_list (pv 2) (pv 3) (fun _ _ => rfl)) (pg_sub (pe_fld (pv 0) rfl) (pe_op op_add (pe_op op_mul (pe_gc (by rfl) T.g_WIDE) (pv 1)) (pv 3)) set_list))))
      (pss_cons (ps_dput (u1 hr) (pe_fld (pv 0) rfl) (pv 1) (pe_tup (pa_cons (pv 2) (pa_cons pe_bl pa_nil))) rfl)
      (pss_one (ps_expr (pe_mt m_Machine_note hr (by decide) (pv 0) (pa_cons pe_str (pa_cons (pv 1) (pa_cons pe_int pa_nil))))))))) pss_nil)), ?_⟩
    have hM0 := hM
    obtain ⟨dx, hd, ml, ll, rl, cs, rfl, A⟩ := hM
    obtain ⟨kvs, hk, hR⟩ := A.he
    walk_at "rd"
    refine st_getF A.ob T.cl_Machine T.na_Machine_held lk_M_held ?_
    refine st_dinI hk ?_
    cases e : hget M.held l with
    | none =>
      have em : M.clean l = M := by
        unfold MS.clean
        rw [e]
      rw [hR.lost e]
      walk_at "rd"
      exact q H _ (by rw [em]; exact hM0) (Chg.refl _ _)
    | some v =>
      obtain ⟨ns, b⟩ := v
      obtain ⟨t, cl, g1, g2, g3, g4⟩ := hR.get e
      have hns := ok.cells4 e
      rw [g1]
      refine st_bl ?_
      refine st_T ?_
      walk_at "rd"
      refine st_getF A.ob T.cl_Machine T.na_Machine_held lk_M_held ?_
      walk_at "rd"
      refine st_dgetI hk g1 ?_
      walk_at "rd"
      refine ⟨t, _, 1, .bl b, rfl, rfl, SqT.of g2, atI_nat (j := 1) rfl, ?_⟩
      walk_at "rd"
      cases b with
      | false =>
        have em : M.clean l = M := by
          unfold MS.clean
          rw [e]
        walk_at "rd"
        exact q H _ (by rw [em]; exact hM0) (Chg.refl _ _)
      | true =>
        walk_at "rd"
        refine st_getF A.ob T.cl_Machine T.na_Machine_held lk_M_held ?_
        walk_at "rd"
        refine st_dgetI hk g1 ?_
        walk_at "rd"
        refine ⟨t, _, 0, .ref cl, rfl, rfl, SqT.of g2, atI_nat (j := 0) rfl, ?_⟩
        walk_at "rd"
        refine st_walkR (n := 4) (by decide) (fun i σ' H' => ∃ y, σ' = [some (.ref p), some (.int (l : Int)), some (.ref cl), y] ∧ MA c.Machine vo vp H' p dx hd ml ll rl cs { M with mem := M.mem.take (4 * l) ++ ns.take i ++ M.mem.drop (4 * l + i) } ∧ H' hd = some (.dK kvs) ∧ H' cl = some (.lst (ns.map V.int)) ∧ Chg (p :: hd :: ml :: ll :: rl :: cs) H (p :: hd :: ml :: ll :: rl :: cs) H') ?_ (fun i σ' H' hi hp => ?_) (fun σ' H' hp => ?_)
        · refine ⟨_, rfl, ?_, hk, g3, Chg.refl _ _⟩
          have e0 : M.mem.take (4 * l) ++ ns.take 0 ++ M.mem.drop (4 * l + 0) = M.mem := by simp
          rw [e0]
          exact A
        · obtain ⟨y, rfl, A2, hk2, hc2, ch⟩ := hp
          walk_at "rd"
          refine st_ixLI hc2 (atI_nat (getD_at (c := i) (by omega))) ?_
          walk_at "rd"
          refine st_getF A2.ob T.cl_Machine T.na_Machine_memory lk_M_memory ?_
          walk_at "rd"
          refine st_mul (.inl (by omega)) ?_
          walk_at "rd"
          have ei : (4 : Int) * (l : Int) + (i : Int) = ((4 * l + i : Nat) : Int) := by omega
          rw [ei]
          have hle := ok.len
          refine st_setI A2.me ?_ fun H3 f3 k3 h3 => ?_
          · show 4 * l + i < ((M.mem.take (4 * l) ++ ns.take i ++ M.mem.drop (4 * l + i)).map V.int).length
            simp only [List.length_map, List.length_append, List.length_take, List.length_drop]
            omega
          · rw [← List.map_set] at h3
            have e3 := splice_set (m := M.mem) (cs := ns) (a := 4 * l) (i := i) (by omega) (by omega)
            have h3' : H3 ml = some (.lst ((M.mem.take (4 * l) ++ ns.take (i + 1) ++ M.mem.drop (4 * l + (i + 1))).map V.int)) := by
              rw [← e3]
              exact h3
            exact ⟨_, rfl, A2.mutMem f3 k3 h3', fr1 f3 hk2 A.nes.h1, fr1 f3 hc2 (A.nes.m3 cl g4), ch.trans (Chg.mut (a := ml) (by simp) f3 k3)⟩
        · obtain ⟨y, rfl, A2, hk2, hc2, ch⟩ := hp
          have e4 : ns.take 4 = ns := List.take_of_length_le (by omega)
          rw [e4] at A2
          walk_at "rd"
          refine st_newT (by simp) fun t2 H3 n3 e3 h3 => ?_
          walk_at "rd"
          have A3 := A2.ex e3
          refine st_getF A3.ob T.cl_Machine T.na_Machine_held lk_M_held ?_
          walk_at "rd"
          obtain ⟨kvs', hk3, hR3⟩ := A3.he
          rw [e3 _ _ hk2] at hk3
          cases hk3
          have hkl : kvs.length < 100000 := by
            have := ok.heldLen
            rw [hR.len]
            omega
          refine st_dputK (k := Sum.inl (l : Int)) (e3 _ _ hk2) rfl hkl fun H4 f4 k4 h4 => ?_
          have hR4 := hR3.keep f4 k4 (not1 A3.nes.h4)
          have hR5 := hR4.mark (b2 := false) ok.nd e g1 (k4 _ _ (e3 _ _ (ch.kp _ _ g2))) (k4 _ _ h3)
          have A4 := A3.mutHd f4 k4 h4 hR5 A3.nd
          walk_at "rd"
          refine st_callM A4.ob no_M_note ?_
          walk_at "rd"
          refine ⟨vo, vp, p, _, _, "clean", l, 0, rfl, ⟨dx, hd, ml, ll, rl, cs, rfl, A4⟩, by show M.rows.length ≤ _; omega, fun H5 hM5 g5 => ?_⟩
          walk_at "rd"
          have em : M.clean l = ({ M with mem := M.mem.take (4 * l) ++ ns ++ M.mem.drop (4 * l + 4), held := hset M.held l (ns, false) } : MS).note "clean" l 0 := by
            unfold MS.clean
            rw [e]
          exact q H5 _ (by rw [em]; exact hM5) (((ch.trans (Chg.ex e3)).trans (Chg.mut (a := hd) (by simp) f4 k4)).trans g5)
/-! ### Machine.drop -/
theorem sc_Machine_drop : FnScope ["self", "line"] ["self", "line"] (defScope s_Machine_drop) := ⟨rfl, rfl, rfl, by decide +kernel, rfl, by decide +kernel, by decide +kernel⟩
def sp_Machine_drop (C : Addr) : Sp := fun vs H Q _ => ∃ (vo vp : V) (p : Addr) (F : List Addr) (M : MS) (l : Nat), vs = [.ref p, .int (l : Int)] ∧ Mac C vo vp p F H M ∧ M.rows.length ≤ 40000 ∧
  ∀ H' F', Mac C vo vp p F' H' (M.drop l) → Chg F H F' H' → Q .non H'
theorem met_Machine_drop {P w base K mg c} (T : Txt K mg c) : Met CX0 P w K mg base 2 c.Machine "drop" (sp_Machine_drop c.Machine) := by
  obtain ⟨f, fd, F, m⟩ := T.F_Machine_drop
  have m_Machine_note := met_Machine_note (P := P) (w := w) (base := base) T
  refine met_of T.cl_Machine m F (fun _ _ _ _ _ _ us hl => match us, hl with | [_, _], _ => rfl) sc_Machine_drop (fun vs H Q E h => ?_) (fun cdv A outer s H vs Q E hr h => ?_)
  · obtain ⟨vo, vp, p, F, M, l, rfl, _⟩ := h
    rfl
  · obtain ⟨vo, vp, p, F, M, l, rfl, hM, hl, q⟩ := h
    refine ⟨_, (pss_one (ps_if (pt_cmp (pc_din (u1 hr) (pv 1) (pe_fld (pv 0) rfl))) (pss_cons (ps_expr (pe_dpop1 (pe_fld (pv 0) rfl) (pv 1) (by constructor <;> rfl)))
      (pss_one (ps_expr (pe_mt m_Machine_note hr (by decide) (pv 0) (pa_cons pe_str (pa_cons (pv 1) (pa_cons pe_int pa_nil))))))) pss_nil)), ?_⟩
    have hM0 := hM
    obtain ⟨dx, hd, ml, ll, rl, cs, rfl, A⟩ := hM
    obtain ⟨kvs, hk, hR⟩ := A.he
    walk_at "rd"
    refine st_getF A.ob T.cl_Machine T.na_Machine_held lk_M_held ?_
    refine st_dinI hk ?_
    cases e : hget M.held l with
    | none =>
      have em : M.drop l = M := by
        unfold MS.drop
        rw [e]
      rw [hR.lost e]
      walk_at "rd"
      exact q H _ (by rw [em]; exact hM0) (Chg.refl _ _)
    | some v =>
      obtain ⟨ns, b⟩ := v
      obtain ⟨t, cl, g1, g2, g3, g4⟩ := hR.get e
      rw [g1]
      refine st_bl ?_
      refine st_T ?_
      walk_at "rd"
      refine st_getF A.ob T.cl_Machine T.na_Machine_held lk_M_held ?_
      refine ⟨hd, rfl, .inl ⟨kvs, .inl hk⟩, ?_⟩
      walk_at "rd"
      refine st_dpopP (k := Sum.inl (l : Int)) hk rfl g1 fun H2 f2 k2 h2 => ?_
      have hR2 := hR.keep f2 k2 (not1 A.nes.h4)
      obtain ⟨cs', hR3, hs⟩ := hR2.del (l := l)
      have A2 := A.mutHd f2 k2 h2 hR3 (((((hs.cons₂ rl).cons₂ ll).cons₂ ml).cons₂ hd).cons₂ p |>.nodup A.nd)
      walk_at "rd"
      refine st_callM A2.ob no_M_note ?_
      walk_at "rd"
      refine ⟨vo, vp, p, _, _, "drop", l, 0, rfl, ⟨dx, hd, ml, ll, rl, cs', rfl, A2⟩, by show M.rows.length ≤ _; omega, fun H5 hM5 g5 => ?_⟩
      walk_at "rd"
      have em : M.drop l = ({ M with held := hdel M.held l } : MS).note "drop" l 0 := by
        unfold MS.drop
        rw [e]
      refine q H5 _ (by rw [em]; exact hM5) ((Chg.grow (a := hd) (by simp) f2 k2 fun a ha => .inl ?_).trans g5)
      exact (((((hs.cons₂ rl).cons₂ ll).cons₂ ml).cons₂ hd).cons₂ p).subset ha
/-! ### Machine.process -/
theorem sc_Machine_process : FnScope ["self", "deed", "one", "other"] ["self"] (defScope s_Machine_process) := ⟨rfl, rfl, rfl, by decide +kernel, rfl, by decide +kernel, by decide +kernel⟩
def sp_Machine_process (C : Addr) : Sp := fun vs H Q _ => ∃ (vo vp : V) (p : Addr) (F : List Addr) (M : MS) (b : Bd), vs = [.ref p] ∧ Mac C vo vp p F H M ∧ BoardAt H b vo vp ∧ Good b ∧ M.Ok b.mem.length ∧ M.rows.length ≤ 30000 ∧ M.left.length ≤ 30000 ∧
  ∀ H' F', Mac C vo vp p F' H' (M.process b) → Chg F H F' H' → Q .non H'
theorem met_Machine_process {P w base K mg c} (T : Txt K mg c) : Met CX0 P w K mg base 4 c.Machine "process" (sp_Machine_process c.Machine) := by
  obtain ⟨f, fd, F, m⟩ := T.F_Machine_process
  have c_moves_of := cal_moves_of (P := P) (w := w) (base := base) T
  have m_Machine_note := met_Machine_note (P := P) (w := w) (base := base) T
  have m_Machine_read := met_Machine_read (P := P) (w := w) (base := base) T
  have m_Machine_write := met_Machine_write (P := P) (w := w) (base := base) T
  have m_Machine_clean := met_Machine_clean (P := P) (w := w) (base := base) T
  have m_Machine_drop := met_Machine_drop (P := P) (w := w) (base := base) T
  refine met_of T.cl_Machine m F (fun _ _ _ _ _ _ us hl => match us, hl with | [_], _ => rfl) sc_Machine_process (fun vs H Q E h => ?_) (fun cdv A outer s H vs Q E hr h => ?_)
  · obtain ⟨vo, vp, p, F, M, b, rfl, _⟩ := h
    rfl
  · obtain ⟨vo, vp, p, F, M, b, rfl, hM, hB, g, ok, hrows, hleft, q⟩ := h
    refine ⟨_, (pss_cut (ps_fld (pv 0) (pe_or (pe_cmpR op_ge (pe_fld (pv 0) rfl) (pe_callB c_len (by rfl) T.len PySem.boot_len (pa_cons (pe_fld (pv 0) rfl) pa_nil)) (nomark _)) (pe_one (pe_and (pe_cmpR (op_eqD hr.units) (pe_ix ix_tup (pe_fld (pv 0) rfl) (pe_fld (pv 0) rfl) (fun _ _ => rfl)) (pe_tup (pa_cons pe_str pa_nil)) (nomark _)) (pe_one (pe_cmpR (op_neD hr.units) (pe_fld (pv 0) rfl) (pe_lst pa_nil) (nomark _)))))) rfl)
      (pss_cons (ps_if (pt_val (pe_fld (pv 0) rfl)) (pss_one ps_retN) pss_nil)
      (pss_cons (ps_set (i := 1) sc_Machine_process.nd rfl (.inl rfl) (pe_ix ix_tup (pe_fld (pv 0) rfl) (pe_fld (pv 0) rfl) (fun _ _ => rfl)))
      (pss_cons (ps_fldaug (pv 0) pe_int in_add)
      (pss_one (ps_if (pt_cmpR op_eq (pe_ix ix_tup (pv 1) pe_int (fun _ _ => rfl)) pe_str (nomark _)) (pss_one (ps_expr (pe_mt m_Machine_write hr (by decide) (pv 0) (pa_cons (pe_ix ix_tup (pv 1) pe_int (fun _ _ => rfl)) (pa_cons (pe_ix ix_tup (pv 1) pe_int (fun _ _ => rfl)) pa_nil))))) (pss_one (ps_if (pt_cmpR op_eq (pe_ix ix_tup (pv 1) pe_int (fun _ _ => rfl)) pe_str (nomark _)) (pss_cons (ps_set (i := 2) sc_Machine_process.nd rfl (.inl rfl) (pe_mt m_Machine_read hr (by decide) (pv 0) (pa_cons (pe_ix ix_tup (pv 1) pe_int (fun _ _ => rfl)) pa_nil)))
      (pss_cons (ps_set (i := 3) sc_Machine_process.nd rfl (.inl rfl) (pe_mt m_Machine_read hr (by decide) (pv 0) (pa_cons (pe_ix ix_tup (pv 1) pe_int (fun _ _ => rfl)) pa_nil)))
      (pss_one (ps_expr (pe_mt m_Machine_write hr (by decide) (pv 0) (pa_cons (pe_ix ix_tup (pv 1) pe_int (fun _ _ => rfl)) (pa_cons (pe_op op_mod (pe_op op_add (pv 2) (pv 3)) pe_int) pa_nil))))))) (pss_one (ps_if (pt_cmpR op_eq (pe_ix ix_tup (pv 1) pe_int (fun _ _ => rfl)) pe_str (nomark _)) (pss_one (ps_expr (pe_mt m_Machine_note hr (by decide) (pv 0) (pa_cons pe_str (pa_cons (pe_ix ix_tup (pv 1) pe_int (fun _ _ => rfl)) (pa_cons (pe_mt m_Machine_read hr (by decide) (pv 0) (pa_cons (pe_ix ix_tup (pv 1) pe_int (fun _ _ => rfl)) pa_nil)) pa_nil)))))) (pss_one (ps_if (pt_cmpR op_eq (pe_ix ix_tup (pv 1) pe_int (fun _ _ => rfl)) pe_str (nomark _)) (pss_cons (ps_fld (pv 0) (pe_op op_cat (pe_fld (pv 0) rfl) (pe_c c_moves_of hr (by decide) (by rfl) (pa_cons (pe_fld (pv 0) rfl) (pa_cons (pe_ix ix_tup (pv 1) pe_int (fun _ _ => rfl)) pa_nil)))) rfl)
      (pss_one (ps_expr (pe_mt m_Machine_note hr (by decide) (pv 0) (pa_cons pe_str (pa_cons (pe_ix ix_tup (pv 1) pe_int (fun _ _ => rfl)) (pa_cons pe_int pa_nil))))))) (pss_one (ps_if (pt_cmpR op_eq (pe_ix ix_tup (pv 1) pe_int (fun _ _ => rfl)) pe_str (nomark _)) (pss_one (ps_expr (pe_mt m_Machine_clean hr (by decide) (pv 0) (pa_cons (pe_ix ix_tup (pv 1) pe_int (fun _ _ => rfl)) pa_nil)))) (pss_one (ps_if (pt_cmpR op_eq (pe_ix ix_tup (pv 1) pe_int (fun _ _ => rfl)) pe_str (nomark _)) (pss_one (ps_expr (pe_mt m_Machine_drop hr (by decide) (pv 0) (pa_cons (pe_ix ix_tup (pv 1) pe_int (fun _ _ => rfl)) pa_nil)))) pss_nil)))))))))))))))), ?_⟩
    have gl := g.lines
    have g4 := g.four
    refine st_cut (fun σ' H' => ∃ y1 y2 y3, σ' = [some (.ref p), y1, y2, y3] ∧ Mac c.Machine vo vp p F H' { M with idle := M.isIdle b.prog } ∧ Chg F H F H') ?_ fun σ' H' hp => ?_
    · obtain ⟨dx, hd, ml, ll, rl, cs, rfl, A⟩ := hM
      have fin : ∀ (H' : Hp) (i : Bool), Ex H H' → i = M.isIdle b.prog → SetF K "idle" (.bl i) (.ref p) H' fun H2 => ∃ y1 y2 y3, (L2.start ["self", "deed", "one", "other"] [V.ref p]) = [some (.ref p), y1, y2, y3] ∧ Mac c.Machine vo vp p (p :: hd :: ml :: ll :: rl :: cs) H2 { M with idle := M.isIdle b.prog } ∧ Chg (p :: hd :: ml :: ll :: rl :: cs) H (p :: hd :: ml :: ll :: rl :: cs) H2 := by
        intro H' i e' ei
        have A1 := A.ex e'
        refine st_setF A1.ob T.cl_Machine T.na_Machine_idle len_M fun H2 f2 k2 h2 => ?_
        rw [pt_M_idle, ei] at h2
        exact ⟨_, _, _, rfl, ⟨dx, hd, ml, ll, rl, cs, rfl, A1.mutOb f2 k2 h2⟩, (Chg.ex e').trans (Chg.mut (by simp) f2 k2)⟩
      walk_at "rd"
      refine st_getF A.ob T.cl_Machine T.na_Machine_at lk_M_at ?_
      walk_at "rd"
      refine st_getF A.ob T.cl_Machine T.na_Machine_program lk_M_program ?_
      walk_at "rd"
      refine st_lenT hB.2 (Kp.refl _) ?_
      walk_at "rd"
      refine st_D (fun z => ?_) (fun z => ?_)
      · walk_at "rd"
        refine fin H true (Ex.refl _) ?_
        unfold MS.isIdle
        rw [decide_eq_true (by simpa using z)]
        rfl
      · have hlt : M.at_ < b.prog.length := by
          simp only [List.length_map] at z
          omega
        have ed : (b.prog.map Deed.raw |>.map pyDeed)[M.at_]? = some (pyDeed b.prog[M.at_].raw) := by
          rw [List.getElem?_map, List.getElem?_map, List.getElem?_eq_getElem hlt]
          rfl
        have eI : M.isIdle b.prog = (decide (b.prog[M.at_] = .wait) && !M.left.isEmpty) := by
          unfold MS.isIdle
          rw [decide_eq_false (by omega), Bool.false_or, List.getElem?_eq_getElem hlt]
          congr 1
          exact decide_eq_decide.mpr ⟨fun z => Option.some.inj z, fun z => by rw [z]⟩
        walk_at "rd"
        refine st_getF A.ob T.cl_Machine T.na_Machine_program lk_M_program ?_
        walk_at "rd"
        refine st_getF A.ob T.cl_Machine T.na_Machine_at lk_M_at ?_
        walk_at "rd"
        refine st_ixT hB.2 (Kp.refl _) (atI_nat ed) fun vd hvd => ?_
        walk_at "rd"
        refine st_newT (by simp) fun t H1 n1 e1 h1 => ?_
        walk_at "rd"
        refine st_eqWait hvd e1.kp h1 ?_
        walk_at "rd"
        refine st_D (fun zw => ?_) (fun zw => ?_)
        · have A1 := A.ex e1
          obtain ⟨xl, hle, ile⟩ := A1.le
          walk_at "rd"
          refine st_getF A1.ob T.cl_Machine T.na_Machine_left lk_M_left ?_
          walk_at "rd"
          refine st_newL (by simp) fun tl H2 n2 e2 h2 => ?_
          refine st_neMv (e2 _ _ hle) (ile.ex e2) h2 ?_
          walk_at "rd"
          refine fin H2 _ (e1.trans e2) ?_
          rw [eI, decide_eq_true zw]
          rfl
        · walk_at "rd"
          refine fin H1 false e1 ?_
          rw [eI, decide_eq_false zw]
          rfl
    · obtain ⟨y1, y2, y3, rfl, hM1, ch1⟩ := hp
      have hB1 := hB.kp ch1.kp
      have ok1 : ({ M with idle := M.isIdle b.prog } : MS).Ok b.mem.length := ⟨ok.len, ok.nd, ok.lines, ok.left⟩
      have hM0 := hM1
      obtain ⟨dx, hd, ml, ll, rl, cs, rfl, A⟩ := hM1
      walk_at "rd"
      refine st_getF A.ob T.cl_Machine T.na_Machine_idle lk_M_idle ?_
      walk_at "rd"
      refine st_B (fun z => ?_) (fun z => ?_)
      · walk_at "rd"
        have z' : M.isIdle b.prog = true := z
        have em : M.process b = { M with idle := M.isIdle b.prog } := by
          unfold MS.process
          rw [z']
          rfl
        exact q H' _ (by rw [em]; exact hM0) ch1
      · have z' : M.isIdle b.prog = false := z
        have hlt : M.at_ < b.prog.length := by
          unfold MS.isIdle at z'
          simp only [Bool.or_eq_false_iff, decide_eq_false_iff_not] at z'
          omega
        have ed : (b.prog.map Deed.raw |>.map pyDeed)[M.at_]? = some (pyDeed b.prog[M.at_].raw) := by
          rw [List.getElem?_map, List.getElem?_map, List.getElem?_eq_getElem hlt]
          rfl
        have em : M.process b = ({ M with idle := false, at_ := M.at_ + 1 } : MS).deed b.ords b.prog[M.at_] := by
          unfold MS.process
          rw [z', if_neg (by decide), List.getElem?_eq_getElem hlt]
        rw [em] at q
        have dk := g.deeds _ (List.getElem_mem hlt)
        walk_at "rd"
        refine st_getF A.ob T.cl_Machine T.na_Machine_program lk_M_program ?_
        walk_at "rd"
        refine st_getF A.ob T.cl_Machine T.na_Machine_at lk_M_at ?_
        walk_at "rd"
        refine st_ixT hB1.2 (Kp.refl _) (atI_nat ed) fun vd hvd => ?_
        generalize b.prog[M.at_] = d at hvd dk q
        walk_at "rd"
        refine st_augF A.ob T.cl_Machine T.na_Machine_at lk_M_at len_M fun H2 f2 k2 h2 => ?_
        rw [pt_M_at'] at h2
        have A2 := A.mutOb f2 k2 h2
        have ch2 := ch1.trans (Chg.mut (a := p) (by simp) f2 k2)
        have hd2 := hvd.kp k2
        have hB2 := hB1.kp k2
        rw [z'] at A2
        have hM2 : Mac c.Machine vo vp p (p :: hd :: ml :: ll :: rl :: cs) H2 { M with idle := false, at_ := M.at_ + 1 } := ⟨dx, hd, ml, ll, rl, cs, rfl, A2⟩
        have ok2 : ({ M with idle := false, at_ := M.at_ + 1 } : MS).Ok b.mem.length := ⟨ok.len, ok.nd, ok.lines, ok.left⟩
        have hr2 : ({ M with idle := false, at_ := M.at_ + 1 } : MS).rows.length ≤ 30000 := hrows
        have hl2 : ({ M with idle := false, at_ := M.at_ + 1 } : MS).left.length ≤ 30000 := hleft
        clear hM0 hM A hB hB1 hvd ok1 ok f2 k2 h2 ch1
        generalize ({ M with idle := false, at_ := M.at_ + 1 } : MS) = N at A2 hM2 ok2 hr2 hl2 q
        clear em
        cases d with
        | set a k =>
          obtain ⟨d1, d2⟩ : a < b.mem.length ∧ k ≤ 9 := dk
          repeat (first | walk_at "rd1" | refine st_ixT_str hd2 (by walk_at "kp") (atI_nat (j := 0) rfl) ?_)
          refine st_callM A2.ob no_M_write ?_
          walk_at "rd"
          refine st_ixT_int hd2 (Kp.refl _) (atI_nat (j := 1) rfl) ?_
          walk_at "rd"
          refine st_ixT_int hd2 (Kp.refl _) (atI_nat (j := 2) rfl) ?_
          walk_at "rd"
          refine ⟨vo, vp, p, _, N, b.mem.length, a, k, rfl, hM2, ok2, g4, d1, by omega, by omega, fun H3 F3 hM3 g3 => ?_⟩
          walk_at "rd"
          exact q H3 F3 hM3 (ch2.trans g3)
        | add a o =>
          obtain ⟨d1, d2⟩ : a < b.mem.length ∧ o < b.mem.length := dk
          repeat (first | walk_at "rd1" | refine st_ixT_str hd2 (by walk_at "kp") (atI_nat (j := 0) rfl) ?_)
          refine st_callM A2.ob no_M_read ?_
          walk_at "rd"
          refine st_ixT_int hd2 (Kp.refl _) (atI_nat (j := 1) rfl) ?_
          walk_at "rd"
          refine ⟨vo, vp, p, _, N, b.mem.length, a, rfl, hM2, ok2, g4, d1, by omega, by omega, fun H3 F3 hM3 g3 => ?_⟩
          have hM3' := hM3
          obtain ⟨dx, hd, ml, ll, rl, cs, rfl, A3⟩ := hM3
          walk_at "rd"
          refine st_callM A3.ob no_M_read ?_
          walk_at "rd"
          refine st_ixT_int hd2 g3.kp (atI_nat (j := 2) rfl) ?_
          walk_at "rd"
          have r3 := (grew_read (M := N) a).rows
          refine ⟨vo, vp, p, _, _, b.mem.length, o, rfl, hM3', ok2.read g4 d1, g4, d2, by omega, by omega, fun H4 F4 hM4 g4' => ?_⟩
          have hM4' := hM4
          obtain ⟨dx, hd, ml, ll, rl, cs, rfl, A4⟩ := hM4
          walk_at "rd"
          refine st_callM A4.ob no_M_write ?_
          walk_at "rd"
          refine st_ixT_int hd2 (g3.kp.trans g4'.kp) (atI_nat (j := 1) rfl) ?_
          walk_at "rd"
          have r4 := (grew_read (M := N.read a) o).rows
          refine ⟨vo, vp, p, _, _, b.mem.length, a, _, rfl, hM4', (ok2.read g4 d1).read g4 d2, g4, d1, by omega, by omega, fun H5 F5 hM5 g5 => ?_⟩
          walk_at "rd"
          exact q H5 F5 hM5 (((ch2.trans g3).trans g4').trans g5)
        | say a =>
          have d1 : a < b.mem.length := dk
          repeat (first | walk_at "rd1" | refine st_ixT_str hd2 (by walk_at "kp") (atI_nat (j := 0) rfl) ?_)
          refine st_callM A2.ob no_M_note ?_
          walk_at "rd"
          refine st_ixT_int hd2 (Kp.refl _) (atI_nat (j := 1) rfl) ?_
          walk_at "rd"
          refine st_callM A2.ob no_M_read ?_
          walk_at "rd"
          refine st_ixT_int hd2 (Kp.refl _) (atI_nat (j := 1) rfl) ?_
          walk_at "rd"
          refine ⟨vo, vp, p, _, N, b.mem.length, a, rfl, hM2, ok2, g4, d1, by omega, by omega, fun H3 F3 hM3 g3 => ?_⟩
          walk_at "rd"
          have r3 := (grew_read (M := N) a).rows
          refine ⟨vo, vp, p, F3, _, "say", a, N.val a, rfl, hM3, by omega, fun H4 hM4 g4' => ?_⟩
          walk_at "rd"
          exact q H4 F3 hM4 ((ch2.trans g3).trans g4')
        | start k =>
          have d1 : k < b.ords.length := dk
          repeat (first | walk_at "rd1" | refine st_ixT_str hd2 (by walk_at "kp") (atI_nat (j := 0) rfl) ?_)
          refine st_getF A2.ob T.cl_Machine T.na_Machine_left lk_M_left ?_
          walk_at "rd"
          refine st_getF A2.ob T.cl_Machine T.na_Machine_orders lk_M_orders ?_
          walk_at "rd"
          refine st_ixT_int hd2 (Kp.refl _) (atI_nat (j := 1) rfl) ?_
          walk_at "rd"
          refine ⟨vo, b.mem.length, b.ords, k, rfl, hB2.1, g.ordsOk, g.ords, d1, fun l H3 hl => ?_⟩
          obtain ⟨n3, e3, xs, hx, ix⟩ := hl
          have A3 := A2.ex e3
          obtain ⟨xl, hle, ile⟩ := A3.le
          have hlen : (movesOf b.ords k).length ≤ 8 * b.ords.length := moves_len g.ordsOk _ _
          have l1 : xl.length = N.left.length := by rw [ile.length, List.length_map]
          have l2 : xs.length = (movesOf b.ords k).length := by rw [ix.length, List.length_map]
          have go := g.ords
          refine st_cat hle hx (by omega) fun l2 H4 n4 e4 h4 => ?_
          walk_at "rd"
          have A4 := A3.ex e4
          refine st_setF A4.ob T.cl_Machine T.na_Machine_left len_M fun H5 f5 k5 h5 => ?_
          rw [pt_M_left] at h5
          have nl : ∀ a ∈ p :: hd :: ml :: ll :: rl :: cs, l2 ≠ a := fun a ha z => A3.free n4 a ha z.symm
          have A5 := A4.newLeft (left := N.left ++ movesOf b.ords k) nl f5 k5 h5 (fr1 f5 h4 (nl p (by simp))) (by
            rw [List.map_append]
            exact ((ile.ex e4).kp k5).append ((ix.ex e4).kp k5))
          have ch5 : Chg (p :: hd :: ml :: ll :: rl :: cs) H2 (p :: hd :: ml :: l2 :: rl :: cs) H5 := by
            refine ⟨(e3.fr.trans e4.fr).trans (f5.mono (by simp)), (e3.kp.trans e4.kp).trans k5, fun a ha => ?_⟩
            simp only [List.mem_cons] at ha ⊢
            rcases ha with z | z | z | z | z | z
            · exact .inl (.inl z)
            · exact .inl (.inr (.inl z))
            · exact .inl (.inr (.inr (.inl z)))
            · exact .inr (z ▸ e3.free n4)
            · exact .inl (.inr (.inr (.inr (.inr (.inl z)))))
            · exact .inl (.inr (.inr (.inr (.inr (.inr z)))))
          walk_at "rd"
          refine st_callM A5.ob no_M_note ?_
          walk_at "rd"
          refine st_ixT_int hd2 ch5.kp (atI_nat (j := 1) rfl) ?_
          walk_at "rd"
          refine ⟨vo, vp, p, _, _, "start", k, 0, rfl, ⟨dx, hd, ml, l2, rl, cs, rfl, A5⟩, by show N.rows.length ≤ _; omega, fun H6 hM6 g6 => ?_⟩
          walk_at "rd"
          exact q H6 _ hM6 ((ch2.trans ch5).trans g6)
        | wait =>
          repeat (first | walk_at "rd1" | refine st_ixT_str hd2 (by walk_at "kp") (atI_nat (j := 0) rfl) ?_)
          exact q H2 _ hM2 ch2
        | clean a =>
          have d1 : a < b.mem.length / 4 := dk
          repeat (first | walk_at "rd1" | refine st_ixT_str hd2 (by walk_at "kp") (atI_nat (j := 0) rfl) ?_)
          refine st_callM A2.ob no_M_clean ?_
          walk_at "rd"
          refine st_ixT_int hd2 (Kp.refl _) (atI_nat (j := 1) rfl) ?_
          walk_at "rd"
          refine ⟨vo, vp, p, _, N, b.mem.length, a, rfl, hM2, ok2, g4, by omega, by omega, by omega, fun H3 F3 hM3 g3 => ?_⟩
          walk_at "rd"
          exact q H3 F3 hM3 (ch2.trans g3)
        | drop a =>
          have d1 : a < b.mem.length / 4 := dk
          repeat (first | walk_at "rd1" | refine st_ixT_str hd2 (by walk_at "kp") (atI_nat (j := 0) rfl) ?_)
          refine st_callM A2.ob no_M_drop ?_
          walk_at "rd"
          refine st_ixT_int hd2 (Kp.refl _) (atI_nat (j := 1) rfl) ?_
          walk_at "rd"
          refine ⟨vo, vp, p, _, N, a, rfl, hM2, by omega, fun H3 F3 hM3 g3 => ?_⟩
          walk_at "rd"
          exact q H3 F3 hM3 (ch2.trans g3)
/-! ### Machine.may_rest -/
theorem sc_Machine_may_rest : FnScope ["self"] ["self"] (defScope s_Machine_may_rest) := ⟨rfl, rfl, rfl, by decide +kernel, rfl, by decide +kernel, by decide +kernel⟩
def sp_Machine_may_rest (C : Addr) : Sp := fun vs H Q _ => ∃ (vo vp : V) (p : Addr) (F : List Addr) (M : MS), vs = [.ref p] ∧ Mac C vo vp p F H M ∧ ∀ H', Ex H H' → Q (.bl M.mayRest) H'
theorem met_Machine_may_rest {P w base K mg c} (T : Txt K mg c) : Met CX0 P w K mg base 1 c.Machine "may_rest" (sp_Machine_may_rest c.Machine) := by
  obtain ⟨f, fd, F, m⟩ := T.F_Machine_may_rest
  refine met_of T.cl_Machine m F (fun _ _ _ _ _ _ us hl => match us, hl with | [_], _ => rfl) sc_Machine_may_rest (fun vs H Q E h => ?_) (fun cdv A outer s H vs Q E hr h => ?_)
  · obtain ⟨vo, vp, p, F, M, rfl, _⟩ := h
    rfl
  · obtain ⟨vo, vp, p, F, M, rfl, hM, q⟩ := h
    refine ⟨_, (pss_one (ps_ret (pe_and (pe_cmpR (op_neD hr.units) (pe_fld (pv 0) rfl) (pe_lst pa_nil) (nomark _)) (pe_one (pe_not (pe_fld (pv 0) rfl)))))), ?_⟩
    obtain ⟨dx, hd, ml, ll, rl, cs, rfl, A⟩ := hM
    obtain ⟨xl, hle, ile⟩ := A.le
    walk_at "rd"
    refine st_getF A.ob T.cl_Machine T.na_Machine_left lk_M_left ?_
    walk_at "rd"
    refine st_newL (by simp) fun l H1 n1 e1 h1 => ?_
    refine st_neMv (e1 _ _ hle) (ile.ex e1) h1 ?_
    refine st_bl ?_
    unfold MS.mayRest at q
    cases e : M.left.isEmpty with
    | true =>
      rw [e] at q
      exact q H1 e1
    | false =>
      rw [e] at q
      refine st_NF ?_
      walk_at "rd"
      refine st_getF (e1 _ _ A.ob) T.cl_Machine T.na_Machine_idle lk_M_idle ?_
      walk_at "rd"
      exact q H1 e1
/-! ### Machine.carry -/
theorem sc_Machine_carry : FnScope ["self", "source", "goal", "bell", "number"] ["self"] (defScope s_Machine_carry) := ⟨rfl, rfl, rfl, by decide +kernel, rfl, by decide +kernel, by decide +kernel⟩
def sp_Machine_carry (C : Addr) : Sp := fun vs H Q _ => ∃ (vo vp : V) (p : Addr) (F : List Addr) (M : MS) (n : Nat), vs = [.ref p] ∧ Mac C vo vp p F H M ∧ M.Ok n ∧ M.rows.length ≤ 40000 ∧
  ∀ H' F', Mac C vo vp p F' H' M.carry → Chg F H F' H' → Q .non H'
theorem met_Machine_carry {P w base K mg c} (T : Txt K mg c) : Met CX0 P w K mg base 2 c.Machine "carry" (sp_Machine_carry c.Machine) := by
  obtain ⟨f, fd, F, m⟩ := T.F_Machine_carry
  have m_Machine_note := met_Machine_note (P := P) (w := w) (base := base) T
  refine met_of T.cl_Machine m F (fun _ _ _ _ _ _ us hl => match us, hl with | [_], _ => rfl) sc_Machine_carry (fun vs H Q E h => ?_) (fun cdv A outer s H vs Q E hr h => ?_)
  · obtain ⟨vo, vp, p, F, M, n, rfl, _⟩ := h
    rfl
  · obtain ⟨vo, vp, p, F, M, n, rfl, hM, ok, hrows, q⟩ := h
    refine ⟨_, (pss_one (ps_if (pt_cmpR (op_neD hr.units) (pe_fld (pv 0) rfl) (pe_lst pa_nil) (nomark _)) (pss_cons (ps_asg (pe_bm PySem.F.plainAttrs_list PySem.F.slot_list_pop PySem.F.type_list_pop mt_popAt (pe_fld (pv 0) rfl) (pa_cons pe_int pa_nil)) (pg_tup (n := 3) rfl (pgs_cons (pg_name (i := 1) sc_Machine_carry.nd rfl (.inl rfl)) (pgs_cons (pg_name (i := 2) sc_Machine_carry.nd rfl (.inl rfl)) (pgs_cons (pg_name (i := 3) sc_Machine_carry.nd rfl (.inl rfl)) pgs_nil)))))
      (pss_cons (ps_set (i := 4) sc_Machine_carry.nd rfl (.inl rfl) (pe_ix ix_list (pe_fld (pv 0) rfl) (pv 1) (fun _ _ => rfl)))
      (pss_cons (ps_expr (pe_mt m_Machine_note hr (by decide) (pv 0) (pa_cons pe_str (pa_cons (pv 1) (pa_cons (pv 4) pa_nil)))))
      (pss_cons (ps_asg (pv 4) (pg_sub (pe_fld (pv 0) rfl) (pv 2) set_list))
      (pss_cons (ps_expr (pe_mt m_Machine_note hr (by decide) (pv 0) (pa_cons pe_str (pa_cons (pv 2) (pa_cons (pv 4) pa_nil)))))
      (pss_one (ps_if (pt_cmpR o_notN (pv 3) pe_non (nomark _)) (pss_one (ps_expr (pe_mt m_Machine_note hr (by decide) (pv 0) (pa_cons pe_str (pa_cons (pv 3) (pa_cons pe_int pa_nil)))))) pss_nil))))))) pss_nil)), ?_⟩
    have hM0 := hM
    obtain ⟨dx, hd, ml, ll, rl, cs, rfl, A⟩ := hM
    walk_at "rd"
    refine st_getF A.ob T.cl_Machine T.na_Machine_left lk_M_left ?_
    walk_at "rd"
    obtain ⟨xl, hle, ile⟩ := A.le
    refine st_newL (by simp) fun l H1 n1 e1 h1 => ?_
    refine st_neMv (e1 _ _ hle) (ile.ex e1) h1 ?_
    walk_at "rd"
    cases e : M.left with
    | nil =>
      refine st_F ?_
      have em : M.carry = M := by
        unfold MS.carry
        rw [e]
      exact q H1 _ (by rw [em]; exact hM0.ex e1) (Chg.ex e1)
    | cons mv r =>
      refine st_NF ?_
      have A1 := A.ex e1
      have ile1 := ile.ex e1
      rw [e, List.map_cons] at ile1
      obtain ⟨x, xs, rfl, im, ixs⟩ := ile1.cons_inv
      have hle1 := e1 _ _ hle
      have hmv := ok.left mv (by rw [e]; exact List.mem_cons_self)
      have hlen := ok.len
      walk_at "rd"
      refine st_getF A1.ob T.cl_Machine T.na_Machine_left lk_M_left ?_
      refine tyL hle1 ?_
      walk_at "rd"
      refine st_popAt0 hle1 fun H2 f2 k2 h2 => ?_
      have A2 := A1.mutLeft (left := r) f2 k2 h2 (ixs.kp k2)
      refine st_gtup im k2 rfl fun ys hys => ?_
      obtain ⟨v1, ys, rfl, g1, hys⟩ := hys.cons_inv
      obtain ⟨v2, ys, rfl, g2, hys⟩ := hys.cons_inv
      obtain ⟨v3, ys, rfl, g3, hys⟩ := hys.cons_inv
      cases hys.nil_inv
      cases Im.int_iff.mp g1
      cases Im.int_iff.mp g2
      walk_at "rd"
      refine st_getF A2.ob T.cl_Machine T.na_Machine_memory lk_M_memory ?_
      walk_at "rd"
      refine st_ixLI A2.me (atI_nat (getD_at (c := mv.src) (by show mv.src < M.mem.length; omega))) ?_
      walk_at "rd"
      refine st_callM A2.ob no_M_note ?_
      walk_at "rd"
      have ch2 : Chg (p :: hd :: ml :: ll :: rl :: cs) H (p :: hd :: ml :: ll :: rl :: cs) H2 := (Chg.ex e1).trans (Chg.mut (by simp) f2 k2)
      refine ⟨vo, vp, p, _, _, "fetch", mv.src, M.mem.getD mv.src 0, rfl, ⟨dx, hd, ml, ll, rl, cs, rfl, A2⟩, by show M.rows.length ≤ _; omega, fun H3 hM3 c3 => ?_⟩
      obtain ⟨dx, hd, ml, ll, rl, cs, eF, A3⟩ := hM3
      rw [eF] at ch2 c3 q
      clear eF
      walk_at "rd"
      refine st_getF A3.ob T.cl_Machine T.na_Machine_memory lk_M_memory ?_
      walk_at "rd"
      refine st_setI A3.me (by rw [List.length_map]; show mv.dst < M.mem.length; omega) fun H4 f4 k4 h4 => ?_
      rw [← List.map_set] at h4
      have A4 := A3.mutMem f4 k4 h4
      have ch4 := (ch2.trans c3).trans (Chg.mut (a := ml) (by simp) f4 k4)
      walk_at "rd"
      refine st_callM A4.ob no_M_note ?_
      walk_at "rd"
      refine ⟨vo, vp, p, _, _, "put", mv.dst, M.mem.getD mv.src 0, rfl, ⟨dx, hd, ml, ll, rl, cs, rfl, A4⟩, by simp [MS.note]; omega, fun H5 hM5 c5 => ?_⟩
      have hM5' := hM5
      obtain ⟨dx, hd, ml, ll, rl, cs, eF, A5⟩ := hM5
      have em : M.carry = (({ (({ M with left := r } : MS).note "fetch" mv.src (M.mem.getD mv.src 0)) with mem := M.mem.set mv.dst (M.mem.getD mv.src 0) } : MS).note "put" mv.dst (M.mem.getD mv.src 0)).bell mv.bell := by
        unfold MS.carry
        rw [e]
      rw [em] at q
      cases eb : mv.bell with
      | none =>
        rw [eb] at g3 q
        have g3' := Im.none_iff.mp g3
        subst g3'
        walk_at "rd"
        exact q H5 _ hM5' (ch4.trans c5)
      | some k =>
        rw [eb] at g3 q
        have g3' : v3 = .int (k : Int) := Im.int_iff.mp g3
        subst g3'
        walk_at "rd"
        refine st_callM A5.ob no_M_note ?_
        walk_at "rd"
        refine ⟨vo, vp, p, _, _, "bell", k, 0, rfl, hM5', by simp [MS.note]; omega, fun H6 hM6 c6 => ?_⟩
        walk_at "rd"
        exact q H6 _ hM6 ((ch4.trans c5).trans c6)
/-! ### Machine.is_over -/
theorem sc_Machine_is_over : FnScope ["self"] ["self"] (defScope s_Machine_is_over) := ⟨rfl, rfl, rfl, by decide +kernel, rfl, by decide +kernel, by decide +kernel⟩
def sp_Machine_is_over (C : Addr) : Sp := fun vs H Q _ => ∃ (vo vp : V) (p : Addr) (F : List Addr) (M : MS) (b : Bd), vs = [.ref p] ∧ Mac C vo vp p F H M ∧ BoardAt H b vo vp ∧ ∀ H', Ex H H' → Q (.bl (M.over b)) H'
theorem met_Machine_is_over {P w base K mg c} (T : Txt K mg c) : Met CX0 P w K mg base 1 c.Machine "is_over" (sp_Machine_is_over c.Machine) := by
  obtain ⟨f, fd, F, m⟩ := T.F_Machine_is_over
  refine met_of T.cl_Machine m F (fun _ _ _ _ _ _ us hl => match us, hl with | [_], _ => rfl) sc_Machine_is_over (fun vs H Q E h => ?_) (fun cdv A outer s H vs Q E hr h => ?_)
  · obtain ⟨vo, vp, p, F, M, b, rfl, _⟩ := h
    rfl
  · obtain ⟨vo, vp, p, F, M, b, rfl, hM, hB, q⟩ := h
    refine ⟨_, (pss_one (ps_ret (pe_and (pe_cmpR op_ge (pe_fld (pv 0) rfl) (pe_callB c_len (by rfl) T.len PySem.boot_len (pa_cons (pe_fld (pv 0) rfl) pa_nil)) (nomark _)) (pe_one (pe_cmpR (op_eqD hr.units) (pe_fld (pv 0) rfl) (pe_lst pa_nil) (nomark _)))))), ?_⟩
    obtain ⟨dx, hd, ml, ll, rl, cs, rfl, A⟩ := hM
    obtain ⟨xl, hle, ile⟩ := A.le
    walk_at "rd"
    refine st_getF A.ob T.cl_Machine T.na_Machine_at lk_M_at ?_
    walk_at "rd"
    refine st_getF A.ob T.cl_Machine T.na_Machine_program lk_M_program ?_
    walk_at "rd"
    refine st_lenT hB.2 (Kp.refl _) ?_
    walk_at "rd"
    unfold MS.over at q
    refine st_D (fun z => ?_) (fun z => ?_)
    · have z' : b.prog.length ≤ M.at_ := by simpa using z
      rw [decide_eq_true z', Bool.true_and] at q
      walk_at "rd"
      refine st_getF A.ob T.cl_Machine T.na_Machine_left lk_M_left ?_
      walk_at "rd"
      refine st_newL (by simp) fun l H1 n1 e1 h1 => ?_
      refine st_eqMv (e1 _ _ hle) (ile.ex e1) h1 ?_
      exact q H1 e1
    · have z' : ¬ b.prog.length ≤ M.at_ := by simpa using z
      rw [decide_eq_false z', Bool.false_and] at q
      exact q H (Ex.refl _)
/-! ### Machine.finish -/
theorem sc_Machine_finish : FnScope ["self", "line"] ["self"] (defScope s_Machine_finish) := ⟨rfl, rfl, rfl, by decide +kernel, rfl, by decide +kernel, by decide +kernel⟩
def sp_Machine_finish (C : Addr) : Sp := fun vs H Q _ => ∃ (vo vp : V) (p : Addr) (F : List Addr) (M : MS) (n : Nat), vs = [.ref p] ∧ Mac C vo vp p F H M ∧ M.Ok n ∧ n % 4 = 0 ∧ n / 4 ≤ 4 ∧ M.rows.length ≤ 30000 ∧
  ∀ H' F', Mac C vo vp p F' H' M.finish → Chg F H F' H' → Q .non H'
theorem met_Machine_finish {P w base K mg c} (T : Txt K mg c) : Met CX0 P w K mg base 3 c.Machine "finish" (sp_Machine_finish c.Machine) := by
  obtain ⟨f, fd, F, m⟩ := T.F_Machine_finish
  have m_Machine_clean := met_Machine_clean (P := P) (w := w) (base := base) T
  refine met_of T.cl_Machine m F (fun _ _ _ _ _ _ us hl => match us, hl with | [_], _ => rfl) sc_Machine_finish (fun vs H Q E h => ?_) (fun cdv A outer s H vs Q E hr h => ?_)
  · obtain ⟨vo, vp, p, F, M, n, rfl, _⟩ := h
    rfl
  · obtain ⟨vo, vp, p, F, M, n, rfl, hM, ok, n4, n16, hrows, q⟩ := h
    refine ⟨_, (pss_one (ps_for PassesOwn.never rfl (pi_list (pe_callB (call_sortedDI rfl) (by rfl) T.sorted (by decide +kernel) (pa_cons (pe_fld (pv 0) rfl) pa_nil))) (pg_name (i := 1) sc_Machine_finish.nd rfl (.inl rfl))
      (pss_one (ps_expr (pe_mt m_Machine_clean hr (by decide) (pv 0) (pa_cons (pv 1) pa_nil)))))), ?_⟩
    have hM0 := hM
    obtain ⟨dx, hd, ml, ll, rl, cs, rfl, A⟩ := hM
    obtain ⟨kvs, hk, hR⟩ := A.he
    have hkl := ok.heldLen
    walk_at "rd"
    refine st_getF A.ob T.cl_Machine T.na_Machine_held lk_M_held ?_
    walk_at "rd"
    refine st_sorted (K := K) hk hR (by omega) fun ys l H1 hp hs n1 e1 h1 => ?_
    have hys := sorted_keys ok n16 hp hs
    subst hys
    generalize ez : ((List.range 4).filter fun l => decide (l ∈ M.held.map (·.1))) = ls at h1
    have hls : ls.length ≤ 4 := by
      rw [← ez]
      exact Nat.le_trans (List.length_filter_le _ _) (by simp)
    have hlt : ∀ l ∈ ls, l < 4 := by
      intro l hl
      rw [← ez] at hl
      exact List.mem_range.mp (List.mem_filter.mp hl).1
    have efin : M.finish = ls.foldl MS.clean M := by
      unfold MS.finish
      rw [cleans_filter, ez]
    have nlF := A.free n1
    refine st_walkL h1 (fun i σ' H' => ∃ y F', σ' = [some (.ref p), y] ∧ Mac c.Machine vo vp p F' H' ((ls.take i).foldl MS.clean M) ∧ Chg (p :: hd :: ml :: ll :: rl :: cs) H1 F' H') ⟨_, _, rfl, hM0.ex e1, Chg.refl _ _⟩ (fun i σ' H' hp => ?_) (fun i v σ' H' hv hp => ?_) (fun σ' H' hp => ?_)
    · obtain ⟨y, F', rfl, hM', ch⟩ := hp
      exact ch.fr _ _ h1 fun z => nlF l z rfl
    · obtain ⟨y, F', rfl, hM', ch⟩ := hp
      rw [List.getElem?_map, List.getElem?_map] at hv
      obtain ⟨k, hk', rfl⟩ : ∃ k, ls[i]? = some k ∧ v = .int (k : Int) := by
        cases e : ls[i]? with
        | none => rw [e] at hv; cases hv
        | some k =>
          rw [e] at hv
          cases hv
          exact ⟨k, rfl, rfl⟩
      have hk4 := hlt k (List.mem_of_getElem? hk')
      have ok' := cleans_ok (ls.take i) ok
      have gr := (cleans_grew (ls.take i) M).rows
      have hti : (ls.take i).length ≤ 4 := by
        rw [List.length_take]
        omega
      have hM'' := hM'
      obtain ⟨dx, hd, ml, ll, rl, cs, rfl, A2⟩ := hM'
      walk_at "rd"
      refine st_callM A2.ob no_M_clean ?_
      walk_at "rd"
      refine ⟨vo, vp, p, _, _, n, k, rfl, hM'', ok', n4, by omega, by omega, by omega, fun H3 F3 hM3 g3 => ?_⟩
      walk_at "rd"
      refine ⟨_, F3, rfl, ?_, ch.trans g3⟩
      rw [List.take_add_one, hk']
      show Mac c.Machine vo vp p F3 H3 ((ls.take i ++ [k]).foldl MS.clean M)
      rw [List.foldl_append]
      exact hM3
    · obtain ⟨y, F', rfl, hM', ch⟩ := hp
      simp only [List.length_map, List.take_length] at hM'
      exact q H' F' (by rw [efin]; exact hM') ((Chg.ex e1).trans ch)
/-! ### gone -/
theorem sc_gone : FnScope ["board", "pace", "machine", "left", "moves"] ["board", "pace"] (defScope s_gone) := ⟨rfl, rfl, rfl, by decide +kernel, rfl, by decide +kernel, by decide +kernel⟩
def sp_gone (C : Addr) : Sp := fun vs H Q _ => ∃ (x : V) (b : Bd) (a : Addr) (pace : List Bool), vs = [x, .ref a] ∧ Im H (pyB b.raw) x ∧ Good b ∧ H a = some (.lst (pace.map V.bl)) ∧ pace.length ≤ 10000 ∧
  ∀ H' F' p vo vp, Mac C vo vp p F' H' (goneOf b pace) → Chg [] H F' H' → Q (.ref p) H'
theorem cal_gone {P w base K mg c} (T : Txt K mg c) : Cal CX0 P w K mg base 5 "gone" (sp_gone c.Machine) := by
  obtain ⟨f, fd, F, m⟩ := T.F_gone
  have k_Machine := mak_Machine (P := P) (w := w) (base := base) T
  have m_Machine_process := met_Machine_process (P := P) (w := w) (base := base) T
  have m_Machine_may_rest := met_Machine_may_rest (P := P) (w := w) (base := base) T
  have m_Machine_is_over := met_Machine_is_over (P := P) (w := w) (base := base) T
  have m_Machine_carry := met_Machine_carry (P := P) (w := w) (base := base) T
  have m_Machine_finish := met_Machine_finish (P := P) (w := w) (base := base) T
  refine cal_of F m (fun _ _ _ _ _ _ us hl => match us, hl with | [_, _], _ => rfl) sc_gone (fun vs H Q E h => ?_) (fun cdv A outer s H vs Q E hr h => ?_)
  · obtain ⟨x, b, a, pace, rfl, _⟩ := h
    rfl
  · obtain ⟨x, b, a, pace, rfl, hx, g, ha, hpl, q⟩ := h
    refine ⟨_, (pss_cons (ps_set (i := 2) sc_gone.nd rfl (.inl rfl) (pe_mk k_Machine hr (by decide) (by rfl) (pa_cons (pv 0) pa_nil)))
      (pss_cons (ps_set (i := 3) sc_gone.nd rfl (.inl rfl) (pe_callTy c_list (by rfl) T.list (by decide +kernel) (pa_cons (pv 1) pa_nil)))
      (pss_cons (ps_while PassesOwn.never (pt_not (pt_val (pe_mt0 m_Machine_is_over hr (by decide) (pv 2))))
      (pss_cons (ps_expr (pe_mt0 m_Machine_process hr (by decide) (pv 2)))
      (pss_cons (ps_set (i := 4) sc_gone.nd rfl (.inl rfl) pe_bl)
      (pss_cut (ps_if (PW.pt (pw_and (pt_val (pe_mt0 m_Machine_may_rest hr (by decide) (pv 2))) (pw_and1 (pt_cmpR (op_neD hr.units) (pv 3) (pe_lst pa_nil) (nomark _))))) (pss_one (ps_set (i := 4) sc_gone.nd rfl (.inl rfl) (pe_bm PySem.F.plainAttrs_list PySem.F.slot_list_pop PySem.F.type_list_pop mt_popAt (pv 3) (pa_cons pe_int pa_nil)))) pss_nil)
      (pss_cut (ps_if (pt_val (pv 4)) (pss_one (ps_expr (pe_mt0 m_Machine_carry hr (by decide) (pv 2)))) pss_nil)
      (pss_one (ps_fldaug (pv 2) pe_int in_add)))))))
      (pss_cons (ps_expr (pe_mt0 m_Machine_finish hr (by decide) (pv 2)))
      (pss_one (ps_ret (pv 2))))))), ?_⟩
    obtain ⟨vo, vp, hP, hB⟩ := hx.parts
    have g4 := g.four
    have gl := g.lines
    walk_at "rd"
    refine st_makeC fun p dx H1 np e1 hp => ?_
    refine ⟨p, dx, x, vo, vp, b.mem, rfl, hp, ?_, fun H2 F2 hM2 c2 => ⟨rfl, ?_⟩⟩
    · obtain ⟨ax, am, rfl, h1, h2⟩ := hP
      exact ⟨ax, am, rfl, e1 _ _ h1, h2.imp (e1 _ _) (e1 _ _)⟩
    have E2 : Chg [] H F2 H2 := c2.into e1 fun a ha => by rw [List.mem_singleton.mp ha]; exact np
    walk_at "rd"
    refine st_listL (E2.fresh _ _ ha) fun lf H3 n3 e3 h3 => ?_
    walk_at "rd"
    have E3 : Chg [] H (lf :: F2) H3 := ⟨(E2.fresh.trans e3).fr, (E2.fresh.trans e3).kp, fun a ha => .inr (by
      rcases List.mem_cons.mp ha with z | z
      · exact z ▸ E2.fresh.free n3
      · rcases E2.own a z with z | z
        · cases z
        · exact z)⟩
    have hlF : lf ∉ F2 := by
      obtain ⟨dx, hd, ml, ll, rl, cs, rfl, A2⟩ := hM2
      exact fun z => A2.free n3 lf z rfl
    refine ⟨fun m σ H' => ∃ y pc k M F', σ = [some x, some (.ref a), some (.ref p), some (.ref lf), y] ∧ Mac c.Machine vo vp p F' H' M ∧ Going b M ∧ M.fuel b ≤ k ∧ MS.run b k M pc = MS.run b 1980 (MS.init b) pace ∧ H' lf = some (.lst (pc.map V.bl)) ∧ lf ∉ F' ∧ Chg [] H (lf :: F') H' ∧ m = M.fuel b,
      ⟨_, none, pace, 1980, MS.init b, F2, rfl, hM2.ex e3, Going.init g, by have := (Going.init g).far; omega, rfl, h3, hlF, E3, rfl⟩, fun m σ H' hW => ?_⟩
    obtain ⟨y, pc, k, M, F', rfl, hM, hG, hk, hrun, hlf, hnF, ch, rfl⟩ := hW
    have hB' := hB.kp ch.kp
    have hM' := hM
    obtain ⟨dx, hd, ml, ll, rl, cs, eF, A⟩ := hM
    have hr1 := hG.rows'
    have hl1 := hG.left
    walk_at "rd"
    refine st_callM A.ob no_M_is_over ?_
    walk_at "rd"
    refine ⟨vo, vp, p, F', M, b, rfl, hM', hB', fun H4 e4 => ?_⟩
    walk_at "rd"
    have hM4 := hM'.ex e4
    have A4 := A.ex e4
    have hlf4 := e4 _ _ hlf
    have ch4 : Chg [] H (lf :: F') H4 := ch.trans (Chg.ex e4)
    cases ho : M.over b with
    | true =>
      refine st_NT ?_
      walk_at "rd"
      refine st_callM A4.ob no_M_finish ?_
      walk_at "rd"
      refine ⟨vo, vp, p, F', M, b.mem.length, rfl, hM4, hG.ok, g4, gl.2, by omega, fun H5 F5 hM5 c5 => ?_⟩
      walk_at "rd"
      have er : MS.run b 1980 (MS.init b) pace = M := by
        rw [← hrun]
        cases k with
        | zero => rfl
        | succ k =>
          show (if M.over b = true then M else _) = M
          rw [if_pos ho]
      refine q H5 F5 p vo vp ?_ ?_
      · unfold goneOf
        rw [er]
        exact hM5
      · have c4 : Chg [] H F' H4 := ⟨ch4.fr, ch4.kp, fun a ha => ch4.own a (List.mem_cons_of_mem _ ha)⟩
        exact c4.trans c5
    | false =>
      refine st_NF ?_
      have hk0 : k ≠ 0 := by
        intro z
        have hz : M.fuel b = 0 := by omega
        unfold MS.fuel at hz
        unfold MS.over at ho
        have h1 : M.left = [] := List.length_eq_zero_iff.mp (by omega)
        rw [h1] at ho
        simp at ho
        omega
      obtain ⟨k, rfl⟩ := Nat.exists_eq_succ_of_ne_zero hk0
      have hless := beat_less g ho pc
      have hrun' : MS.run b k (M.beat b pc) ((M.process b).pick pc).2 = MS.run b 1980 (MS.init b) pace := by
        rw [← hrun]
        show _ = (if M.over b = true then M else _)
        rw [ho]
        rfl
      have hG' := hG.beat g ho pc
      obtain ⟨p1, p2, p3, p4, p5, p6⟩ := process_grew (M := M) g
      refine ⟨fun σ H' => ∃ y pc k M' F', σ = [some x, some (.ref a), some (.ref p), some (.ref lf), y] ∧ Mac c.Machine vo vp p F' H' M' ∧ Going b M' ∧ M'.fuel b ≤ k ∧ MS.run b k M' pc = MS.run b 1980 (MS.init b) pace ∧ H' lf = some (.lst (pc.map V.bl)) ∧ lf ∉ F' ∧ Chg [] H (lf :: F') H' ∧ M'.fuel b < M.fuel b, fun σ' H' ⟨y, pc, k, M', F', h1, h2, h3, h4, h5, h6, h7, h8, h9⟩ => ⟨_, h9, y, pc, k, M', F', h1, h2, h3, h4, h5, h6, h7, h8, rfl⟩, ?_⟩
      walk_at "rd"
      refine st_callM A4.ob no_M_process ?_
      walk_at "rd"
      refine ⟨vo, vp, p, F', M, b, rfl, hM4, hB.kp ch4.kp, g, hG.ok, by omega, by omega, fun H5 F5 hM5 c5 => ?_⟩
      have ok5 := hG.ok.process g
      have hlf5 : H5 lf = _ := c5.fr _ _ hlf4 hnF
      have hnF5 : lf ∉ F5 := fun z => by
        rcases c5.own lf z with z | z
        · exact hnF z
        · rw [hlf4] at z
          cases z
      have ch5 : Chg [] H (lf :: F5) H5 := ch4.trans ⟨c5.fr.mono fun a ha => List.mem_cons_of_mem _ ha, c5.kp, fun a ha => by
        rcases List.mem_cons.mp ha with z | z
        · exact .inl (z ▸ List.mem_cons_self)
        · exact (c5.own a z).imp (fun z => List.mem_cons_of_mem _ z) id⟩
      have hM5' := hM5
      obtain ⟨dx, hd, ml, ll, rl, cs, eF5, A5⟩ := hM5
      walk_at "rd"
      refine st_cut (fun σ' H' => σ' = [some x, some (.ref a), some (.ref p), some (.ref lf), some (.bl ((M.process b).pick pc).1)] ∧ Mac c.Machine vo vp p F5 H' (M.process b) ∧ H' lf = some (.lst (((M.process b).pick pc).2.map V.bl)) ∧ Chg [] H (lf :: F5) H') ?_ fun σ6 H6 h6 => ?_
      · walk_at "rd"
        refine st_callM A5.ob no_M_may_rest ?_
        walk_at "rd"
        refine ⟨vo, vp, p, F5, _, rfl, hM5', fun H6 e6 => ?_⟩
        have ch6 := ch5.trans (Chg.ex e6)
        walk_at "rd"
        cases hmr : (M.process b).mayRest with
        | false =>
          walk_at "rd"
          have ep : (M.process b).pick pc = (true, pc) := by
            unfold MS.pick
            rw [hmr]
            rfl
          rw [ep]
          exact ⟨rfl, hM5'.ex e6, e6 _ _ hlf5, ch6⟩
        | true =>
          walk_at "rd"
          refine st_newL (by simp) fun l H7 n7 e7 h7 => ?_
          refine st_neBl (e7 _ _ (e6 _ _ hlf5)) h7 ?_
          walk_at "rd"
          have ch7 := ch6.trans (Chg.ex e7)
          cases pc with
          | nil =>
            have ep : (M.process b).pick [] = (true, []) := by
              unfold MS.pick
              rw [hmr]
              rfl
            rw [ep]
            exact ⟨rfl, (hM5'.ex e6).ex e7, e7 _ _ (e6 _ _ hlf5), ch7⟩
          | cons v r =>
            have ep : (M.process b).pick (v :: r) = (v, r) := by
              unfold MS.pick
              rw [hmr]
              rfl
            refine st_NF ?_
            walk_at "rd"
            have hl7 : H7 lf = some (.lst (V.bl v :: r.map V.bl)) := e7 _ _ (e6 _ _ hlf5)
            refine tyL hl7 ?_
            walk_at "rd"
            refine st_popAt0 hl7 fun H8 f8 k8 h8 => ?_
            walk_at "rd"
            rw [ep]
            have hM7 := (hM5'.ex e6).ex e7
            obtain ⟨dx, hd, ml, ll, rl, cs, eF7, A7⟩ := hM7
            refine ⟨rfl, ⟨dx, hd, ml, ll, rl, cs, eF7, A7.keep f8 k8 fun a ha => ?_⟩, h8, ch7.trans (Chg.mut (a := lf) (by simp) f8 k8)⟩
            rintro z
            rw [List.mem_singleton.mp z, ← eF7] at ha
            exact hnF5 ha
      · obtain ⟨rfl, hM6, hlf6, ch6⟩ := h6
        generalize epk : (M.process b).pick pc = pk at hM6 hlf6 ch6
        obtain ⟨mv, pc'⟩ := pk
        refine st_cut (fun σ' H' => ∃ F7, σ' = [some x, some (.ref a), some (.ref p), some (.ref lf), some (.bl mv)] ∧ Mac c.Machine vo vp p F7 H' ((M.process b).moved mv) ∧ H' lf = some (.lst (pc'.map V.bl)) ∧ lf ∉ F7 ∧ Chg [] H (lf :: F7) H') ?_ fun σ7 H7 h7 => ?_
        · walk_at "rd"
          refine st_B (fun z => ?_) (fun z => ?_)
          · have hM6' := hM6
            obtain ⟨dx, hd, ml, ll, rl, cs, eF6, A6⟩ := hM6
            walk_at "rd"
            refine st_callM A6.ob no_M_carry ?_
            walk_at "rd"
            refine ⟨vo, vp, p, F5, _, b.mem.length, rfl, hM6', ok5, by omega, fun H7 F7 hM7 c7 => ?_⟩
            walk_at "rd"
            subst z
            have hnF7 : lf ∉ F7 := fun z => by
              rcases c7.own lf z with z | z
              · exact hnF5 z
              · rw [hlf6] at z
                cases z
            exact ⟨F7, rfl, hM7, c7.fr _ _ hlf6 hnF5, hnF7, ch6.trans ⟨c7.fr.mono fun a ha => List.mem_cons_of_mem _ ha, c7.kp, fun a ha => by
              rcases List.mem_cons.mp ha with z | z
              · exact .inl (z ▸ List.mem_cons_self)
              · exact (c7.own a z).imp (fun z => List.mem_cons_of_mem _ z) id⟩⟩
          · walk_at "rd"
            subst z
            exact ⟨F5, rfl, hM6, hlf6, hnF5, ch6⟩
        · obtain ⟨F7, rfl, hM7, hlf7, hnF7, ch7⟩ := h7
          obtain ⟨dx, hd, ml, ll, rl, cs, rfl, A7⟩ := hM7
          walk_at "rd"
          refine st_augF A7.ob T.cl_Machine T.na_Machine_beats lk_M_beats len_M fun H8 f8 k8 h8 => ?_
          rw [pt_M_beats'] at h8
          have A8 := A7.mutOb f8 k8 h8
          have hlfp : lf ≠ p := fun z => hnF7 (by simp [z])
          have eb : M.beat b pc = ((M.process b).moved mv).tick := by
            unfold MS.beat
            rw [epk]
          rw [eb] at hrun' hG' hless
          rw [epk] at hrun'
          exact ⟨_, pc', k, _, _, rfl, ⟨dx, hd, ml, ll, rl, cs, rfl, A8⟩, hG', Nat.le_of_lt_succ (Nat.lt_of_lt_of_le hless hk), hrun', fr1 f8 hlf7 hlfp, hnF7, ch7.trans (Chg.mut (a := p) (by simp) f8 k8), hless⟩
/-! ### story -/
theorem sc_story : FnScope ["board", "pace"] ["board", "pace"] (defScope s_story) := ⟨rfl, rfl, rfl, by decide +kernel, rfl, by decide +kernel, by decide +kernel⟩
def sp_story : Sp := fun vs H Q _ => ∃ (x : V) (b : Bd) (a : Addr) (pace : List Bool), vs = [x, .ref a] ∧ Im H (pyB b.raw) x ∧ Good b ∧ H a = some (.lst (pace.map V.bl)) ∧ pace.length ≤ 10000 ∧
  ∀ l H', NewList H H' l ((goneOf b pace).rows.map pyRow) → Q (.ref l) H'
theorem cal_story {P w base K mg c} (T : Txt K mg c) : Cal CX0 P w K mg base 9 "story" sp_story := by
  obtain ⟨f, fd, F, m⟩ := T.F_story
  have c_check_board := cal_check_board (P := P) (w := w) (base := base) T
  have c_gone := cal_gone (P := P) (w := w) (base := base) T
  refine cal_of F m (fun _ _ _ _ _ _ us hl => match us, hl with | [_, _], _ => rfl) sc_story (fun vs H Q E h => ?_) (fun cdv A outer s H vs Q E hr h => ?_)
  · obtain ⟨x, b, a, pace, rfl, _⟩ := h
    rfl
  · obtain ⟨x, b, a, pace, rfl, hx, g, ha, hpl, q⟩ := h
    refine ⟨_, (pss_cons (ps_expr (pe_c c_check_board hr (by decide) (by rfl) (pa_cons (pv 0) pa_nil)))
      (pss_one (ps_ret (pe_callTy c_list (by rfl) T.list (by decide +kernel) (pa_cons (pe_fld (pe_c c_gone hr (by decide) (by rfl) (pa_cons (pv 0) (pa_cons (pv 1) pa_nil))) rfl) pa_nil))))), ?_⟩
    walk_at "rd"
    refine ⟨x, b.raw, rfl, hx, g.raw, fun H1 e1 => ?_⟩
    walk_at "rd"
    refine ⟨x, b, a, pace, rfl, hx.ex e1, g, e1 _ _ ha, hpl, fun H2 F2 p vo vp hM c2 => ?_⟩
    obtain ⟨dx, hd, ml, ll, rl, cs, rfl, A⟩ := hM
    obtain ⟨xs, hro, iro⟩ := A.ro
    refine st_getF A.ob T.cl_Machine T.na_Machine_rows lk_M_rows ?_
    walk_at "rd"
    refine st_listL hro fun l H3 n3 e3 h3 => ?_
    exact q l H3 ⟨(e1.trans c2.fresh).free n3, (e1.trans c2.fresh).trans e3, xs, h3, iro.ex e3⟩
/-! ### ended -/
theorem sc_ended : FnScope ["board", "pace", "machine", "said", "row"] ["board", "pace"] (defScope s_ended) := ⟨rfl, rfl, rfl, by decide +kernel, rfl, by decide +kernel, by decide +kernel⟩
def sp_ended : Sp := fun vs H Q _ => ∃ (x : V) (b : Bd) (a : Addr) (pace : List Bool), vs = [x, .ref a] ∧ Im H (pyB b.raw) x ∧ Good b ∧ H a = some (.lst (pace.map V.bl)) ∧ pace.length ≤ 10000 ∧
  ∀ v H', Ex H H' → Im H' (.tuple [pyMem (saidOf (goneOf b pace).rows), pyMem (goneOf b pace).mem, .int ((goneOf b pace).beats : Int)]) v → Q v H'
theorem cal_ended {P w base K mg c} (T : Txt K mg c) : Cal CX0 P w K mg base 9 "ended" sp_ended := by
  obtain ⟨f, fd, F, m⟩ := T.F_ended
  have c_check_board := cal_check_board (P := P) (w := w) (base := base) T
  have c_gone := cal_gone (P := P) (w := w) (base := base) T
  refine cal_of F m (fun _ _ _ _ _ _ us hl => match us, hl with | [_, _], _ => rfl) sc_ended (fun vs H Q E h => ?_) (fun cdv A outer s H vs Q E hr h => ?_)
  · obtain ⟨x, b, a, pace, rfl, _⟩ := h
    rfl
  · obtain ⟨x, b, a, pace, rfl, hx, g, ha, hpl, q⟩ := h
    refine ⟨_, (pss_cons (ps_expr (pe_c c_check_board hr (by decide) (by rfl) (pa_cons (pv 0) pa_nil)))
      (pss_cons (ps_set (i := 2) sc_ended.nd rfl (.inl rfl) (pe_c c_gone hr (by decide) (by rfl) (pa_cons (pv 0) (pa_cons (pv 1) pa_nil))))
      (pss_cons (ps_setLc (i := 3) (own := [("row", 4)]) (g := (gName 4)) (tt := (tTest (tOp rEq (tOp (rIxT K) (tVar 4) (tC (.int 1))) (tC (.str "say"))))) (te := (tOp (rIxT K) (tVar 4) (tC (.int 3)))) rfl sc_ended.nd rfl rfl (sw_true rfl rfl rfl (by decide +kernel)) (pi_list (pe_fld (pv 2) rfl)) (blkOk_by (N := ["board", "pace", "machine", "said", "row"]) (sc := defScope s_ended) (own := [("row", 4)]) (by decide +kernel)) (fun _ _ _ _ _ => (pg_name (i := 4) sc_ended.nd rfl (.inl rfl))) (fun _ _ _ _ _ => (pts_one (pt_cmpR op_eq (pe_ix ix_tup (pv 4) pe_int (fun _ _ => rfl)) pe_str (nomark _)))) (fun _ _ _ _ _ => (pe_ix ix_tup (pv 4) pe_int (fun _ _ => rfl))))
      (pss_one (ps_ret (pe_tup (pa_cons (pe_callTy c_tuple (by rfl) T.tuple (by decide +kernel) (pa_cons (pv 3) pa_nil)) (pa_cons (pe_callTy c_tuple (by rfl) T.tuple (by decide +kernel) (pa_cons (pe_fld (pv 2) rfl) pa_nil)) (pa_cons (pe_fld (pv 2) rfl) pa_nil))))))))), ?_⟩
    walk_at "rd"
    refine ⟨x, b.raw, rfl, hx, g.raw, fun H1 e1 => ?_⟩
    walk_at "rd"
    refine ⟨x, b, a, pace, rfl, hx.ex e1, g, e1 _ _ ha, hpl, fun H2 F2 p vo vp hM c2 => ?_⟩
    obtain ⟨dx, hd, ml, ll, rl, cs, rfl, A⟩ := hM
    obtain ⟨xs, hro, iro⟩ := A.ro
    have hg := gone_ok g pace
    walk_at "rd"
    refine st_getF A.ob T.cl_Machine T.na_Machine_rows lk_M_rows ?_
    refine st_said hro iro (by omega) (fun _ => rfl) (fun _ => rfl) fun D H3 n3 e3 h3 => ?_
    walk_at "rd"
    refine st_tupL h3 fun ts H4 n4 e4 h4 => ?_
    walk_at "rd"
    have A4 := (A.ex e3).ex e4
    refine st_getF A4.ob T.cl_Machine T.na_Machine_memory lk_M_memory ?_
    walk_at "rd"
    refine st_tupL A4.me fun tm H5 n5 e5 h5 => ?_
    walk_at "rd"
    refine st_getF (A4.ex e5).ob T.cl_Machine T.na_Machine_beats lk_M_beats ?_
    walk_at "rd"
    refine st_newT (by simp) fun t H6 n6 e6 h6 => ?_
    exact q _ H6 (((((e1.trans c2.fresh).trans e3).trans e4).trans e5).trans e6) (im_tup h6 (iml_cons (im_ints (e6 _ _ (e5 _ _ h4))) (iml_cons (im_ints (e6 _ _ h5)) (iml_cons im_int iml_nil))))
/-! ### plain_end -/
theorem sc_plain_end : FnScope ["board", "found"] ["board"] (defScope s_plain_end) := ⟨rfl, rfl, rfl, by decide +kernel, rfl, by decide +kernel, by decide +kernel⟩
def sp_plain_end : Sp := fun vs H Q _ => ∃ (x : V) (b : Bd), vs = [x] ∧ Im H (pyB b.raw) x ∧ Good b ∧ ∀ v H', Ex H H' → Im H' (.tuple [pyMem (plainOf b).said, pyMem (plainOf b).mem]) v → Q v H'
theorem cal_plain_end {P w base K mg c} (T : Txt K mg c) : Cal CX0 P w K mg base 9 "plain_end" sp_plain_end := by
  obtain ⟨f, fd, F, m⟩ := T.F_plain_end
  have c_check_board := cal_check_board (P := P) (w := w) (base := base) T
  have k_Plain := mak_Plain (P := P) (w := w) (base := base) T
  refine cal_of F m (fun _ _ _ _ _ _ us hl => match us, hl with | [_], _ => rfl) sc_plain_end (fun vs H Q E h => ?_) (fun cdv A outer s H vs Q E hr h => ?_)
  · obtain ⟨x, b, rfl, _⟩ := h
    rfl
  · obtain ⟨x, b, rfl, hx, g, q⟩ := h
    refine ⟨_, (pss_cons (ps_expr (pe_c c_check_board hr (by decide) (by rfl) (pa_cons (pv 0) pa_nil)))
      (pss_cons (ps_set (i := 1) sc_plain_end.nd rfl (.inl rfl) (pe_mk k_Plain hr (by decide) (by rfl) (pa_cons (pv 0) pa_nil)))
      (pss_one (ps_ret (pe_tup (pa_cons (pe_callTy c_tuple (by rfl) T.tuple (by decide +kernel) (pa_cons (pe_fld (pv 1) rfl) pa_nil)) (pa_cons (pe_callTy c_tuple (by rfl) T.tuple (by decide +kernel) (pa_cons (pe_fld (pv 1) rfl) pa_nil)) pa_nil))))))), ?_⟩
    walk_at "rd"
    refine ⟨x, b.raw, rfl, hx, g.raw, fun H1 e1 => ?_⟩
    walk_at "rd"
    refine st_makeC fun p dx H2 np e2 hp => ?_
    refine ⟨p, dx, x, b, rfl, hp, hx.ex (e1.trans e2), g, fun H3 ml rl fl sl f3 k3 n1 n2 n3 n4 S => ⟨rfl, ?_⟩⟩
    have e3 : Ex H1 H3 := Fr.ex e2 (fun a ha => by rw [List.mem_singleton.mp ha]; exact np) f3
    walk_at "rd"
    refine st_getF S.ob T.cl_Plain T.na_Plain_said lk_plain_said ?_
    walk_at "rd"
    refine st_tupL S.sa fun ts H4 n4' e4 h4 => ?_
    walk_at "rd"
    refine st_getF (e4 _ _ S.ob) T.cl_Plain T.na_Plain_memory lk_plain_memory ?_
    walk_at "rd"
    refine st_tupL (e4 _ _ S.me) fun tm H5 n5 e5 h5 => ?_
    walk_at "rd"
    refine st_newT (by simp) fun t H6 n6 e6 h6 => ?_
    exact q _ H6 ((((e1.trans e3).trans e4).trans e5).trans e6) (im_tup h6 (iml_cons (im_ints (e6 _ _ (e5 _ _ h4))) (iml_cons (im_ints (e6 _ _ h5)) iml_nil)))
/-! ### sights -/
theorem sc_sights : FnScope ["board", "found"] ["board"] (defScope s_sights) := ⟨rfl, rfl, rfl, by decide +kernel, rfl, by decide +kernel, by decide +kernel⟩
def sp_sights : Sp := fun vs H Q _ => ∃ (x : V) (b : Bd), vs = [x] ∧ Im H (pyB b.raw) x ∧ Good b ∧ ∀ t rl fl H', Ex H H' → H rl = none → H fl = none → rl ≠ fl → H' t = some (.tup [.ref rl, .ref fl]) →
  (∃ xs, H' rl = some (.lst xs) ∧ ImL H' ((plainOf b).reads.map pySeen) xs) → (∃ xs, H' fl = some (.lst xs) ∧ ImL H' ((plainOf b).fetches.map pySeen) xs) → Q (.ref t) H'
theorem cal_sights {P w base K mg c} (T : Txt K mg c) : Cal CX0 P w K mg base 9 "sights" sp_sights := by
  obtain ⟨f, fd, F, m⟩ := T.F_sights
  have c_check_board := cal_check_board (P := P) (w := w) (base := base) T
  have k_Plain := mak_Plain (P := P) (w := w) (base := base) T
  refine cal_of F m (fun _ _ _ _ _ _ us hl => match us, hl with | [_], _ => rfl) sc_sights (fun vs H Q E h => ?_) (fun cdv A outer s H vs Q E hr h => ?_)
  · obtain ⟨x, b, rfl, _⟩ := h
    rfl
  · obtain ⟨x, b, rfl, hx, g, q⟩ := h
    refine ⟨_, (pss_cons (ps_expr (pe_c c_check_board hr (by decide) (by rfl) (pa_cons (pv 0) pa_nil)))
      (pss_cons (ps_set (i := 1) sc_sights.nd rfl (.inl rfl) (pe_mk k_Plain hr (by decide) (by rfl) (pa_cons (pv 0) pa_nil)))
      (pss_one (ps_ret (pe_tup (pa_cons (pe_fld (pv 1) rfl) (pa_cons (pe_fld (pv 1) rfl) pa_nil))))))), ?_⟩
    walk_at "rd"
    refine ⟨x, b.raw, rfl, hx, g.raw, fun H1 e1 => ?_⟩
    walk_at "rd"
    refine st_makeC fun p dx H2 np e2 hp => ?_
    refine ⟨p, dx, x, b, rfl, hp, hx.ex (e1.trans e2), g, fun H3 ml rl fl sl f3 k3 n1 n2 n3 n4 S => ⟨rfl, ?_⟩⟩
    have e3 : Ex H1 H3 := Fr.ex e2 (fun a ha => by rw [List.mem_singleton.mp ha]; exact np) f3
    walk_at "rd"
    refine st_getF S.ob T.cl_Plain T.na_Plain_reads lk_plain_reads ?_
    walk_at "rd"
    refine st_getF S.ob T.cl_Plain T.na_Plain_fetches lk_plain_fetches ?_
    walk_at "rd"
    refine st_newT (by simp) fun t H4 n4' e4 h4 => ?_
    have nd := S.nd
    simp only [List.nodup_cons, List.mem_cons, List.not_mem_nil, or_false, not_or, List.mem_singleton] at nd
    exact q t rl fl H4 ((e1.trans e3).trans e4) ((e1.trans e2).free n2) ((e1.trans e2).free n3) nd.2.1.1 h4 (S.ex e4).re (S.ex e4).fe
/-! ### amiss -/
theorem sc_amiss : FnScope ["board", "pace", "aim", "machine", "reads", "fetches", "found", "row", "cell", "number"] ["board", "pace"] (defScope s_amiss) := ⟨rfl, rfl, rfl, by decide +kernel, rfl, by decide +kernel, by decide +kernel⟩
def sp_amiss : Sp := fun vs H Q _ => ∃ (x : V) (b : Bd) (a : Addr) (pace : List Bool), vs = [x, .ref a] ∧ Im H (pyB b.raw) x ∧ Good b ∧ H a = some (.lst (pace.map V.bl)) ∧ pace.length ≤ 10000 ∧
  ∀ l H', NewList H H' l ((amissOf b pace).map pyRow) → Q (.ref l) H'
theorem cal_amiss {P w base K mg c} (T : Txt K mg c) : Cal CX0 P w K mg base 9 "amiss" sp_amiss := by
  obtain ⟨f, fd, F, m⟩ := T.F_amiss
  have c_check_board := cal_check_board (P := P) (w := w) (base := base) T
  have c_gone := cal_gone (P := P) (w := w) (base := base) T
  have k_Plain := mak_Plain (P := P) (w := w) (base := base) T
  refine cal_of F m (fun _ _ _ _ _ _ us hl => match us, hl with | [_, _], _ => rfl) sc_amiss (fun vs H Q E h => ?_) (fun cdv A outer s H vs Q E hr h => ?_)
  · obtain ⟨x, b, a, pace, rfl, _⟩ := h
    rfl
  · obtain ⟨x, b, a, pace, rfl, hx, g, ha, hpl, q⟩ := h
    refine ⟨_, (pss_cons (ps_expr (pe_c c_check_board hr (by decide) (by rfl) (pa_cons (pv 0) pa_nil)))
      (pss_cons (ps_set (i := 2) sc_amiss.nd rfl (.inl rfl) (pe_mk k_Plain hr (by decide) (by rfl) (pa_cons (pv 0) pa_nil)))
      (pss_cons (ps_set (i := 3) sc_amiss.nd rfl (.inl rfl) (pe_c c_gone hr (by decide) (by rfl) (pa_cons (pv 0) (pa_cons (pv 1) pa_nil))))
      (pss_cons (ps_set (i := 4) sc_amiss.nd rfl (.inl rfl) (pe_callTy c_list (by rfl) T.list (by decide +kernel) (pa_cons (pe_fld (pv 2) rfl) pa_nil)))
      (pss_cons (ps_set (i := 5) sc_amiss.nd rfl (.inl rfl) (pe_callTy c_list (by rfl) T.list (by decide +kernel) (pa_cons (pe_fld (pv 2) rfl) pa_nil)))
      (pss_cons (ps_set (i := 6) sc_amiss.nd rfl (.inl rfl) (pe_lst pa_nil))
      (pss_cons (ps_for PassesOwn.never rfl (pi_list (pe_fld (pv 3) rfl)) (pg_name (i := 7) sc_amiss.nd rfl (.inl rfl))
      (pss_cut (ps_if (PW.pt (pw_and (pt_cmpR op_eq (pe_ix ix_tup (pv 7) pe_int (fun _ _ => rfl)) pe_str (nomark _)) (pw_and1 (pt_cmpR (op_neD hr.units) (pe_bm PySem.F.plainAttrs_list PySem.F.slot_list_pop PySem.F.type_list_pop mt_popAt (pv 4) (pa_cons pe_int pa_nil)) (pe_slice sl_tupA (pv 7) (po_some pe_int) po_none) (nomark _))))) (pss_one (ps_expr (pe_bm PySem.F.plainAttrs_list PySem.F.slot_list_append PySem.F.type_list_append mt_append (pv 6) (pa_cons (pv 7) pa_nil)))) pss_nil)
      (pss_one (ps_if (PW.pt (pw_and (pt_cmpR op_eq (pe_ix ix_tup (pv 7) pe_int (fun _ _ => rfl)) pe_str (nomark _)) (pw_and1 (pt_cmpR (op_neD hr.units) (pe_bm PySem.F.plainAttrs_list PySem.F.slot_list_pop PySem.F.type_list_pop mt_popAt (pv 5) (pa_cons pe_int pa_nil)) (pe_slice sl_tupA (pv 7) (po_some pe_int) po_none) (nomark _))))) (pss_one (ps_expr (pe_bm PySem.F.plainAttrs_list PySem.F.slot_list_append PySem.F.type_list_append mt_append (pv 6) (pa_cons (pv 7) pa_nil)))) pss_nil))))
      (pss_cons (ps_for PassesOwn.never rfl (pi_enum (by rfl) T.enumerate (pa_cons (pe_fld (pv 3) rfl) pa_nil)) (pg_tup (n := 2) rfl (pgs_cons (pg_name (i := 8) sc_amiss.nd rfl (.inl rfl)) (pgs_cons (pg_name (i := 9) sc_amiss.nd rfl (.inl rfl)) pgs_nil)))
      (pss_one (ps_if (pt_cmpR op_ne (pv 9) (pe_ix ix_list (pe_fld (pv 2) rfl) (pv 8) (fun _ _ => rfl)) (nomark _)) (pss_one (ps_expr (pe_bm PySem.F.plainAttrs_list PySem.F.slot_list_append PySem.F.type_list_append mt_append (pv 6) (pa_cons (pe_tup (pa_cons (pe_fld (pv 3) rfl) (pa_cons pe_str (pa_cons (pv 8) (pa_cons (pv 9) pa_nil))))) pa_nil)))) pss_nil)))
      (pss_one (ps_ret (pv 6))))))))))), ?_⟩
    walk_at "rd"
    refine ⟨x, b.raw, rfl, hx, g.raw, fun H1 e1 => ?_⟩
    walk_at "rd"
    refine st_makeC fun p dx H2 np e2 hp => ?_
    refine ⟨p, dx, x, b, rfl, hp, hx.ex (e1.trans e2), g, fun H3 ml rl fl sl f3 k3 n1 n2 n3 n4 S => ⟨rfl, ?_⟩⟩
    have e3 : Ex H1 H3 := Fr.ex e2 (fun a ha => by rw [List.mem_singleton.mp ha]; exact np) f3
    walk_at "rd"
    refine ⟨x, b, a, pace, rfl, hx.ex (e1.trans e3), g, (e1.trans e3) _ _ ha, hpl, fun H4 F4 mp vo vp hM c4 => ?_⟩
    have S4 := S.ex c4.fresh
    have E4 : Ex H H4 := (e1.trans e3).trans c4.fresh
    obtain ⟨pdx, hd, mml, ll, mrl, cs, eF, A4⟩ := hM
    obtain ⟨xr, hre, ire⟩ := S4.re
    obtain ⟨xf, hfe, ife⟩ := S4.fe
    walk_at "rd"
    refine st_getF S4.ob T.cl_Plain T.na_Plain_reads lk_plain_reads ?_
    walk_at "rd"
    refine st_listL hre fun rd H5 n5 e5 h5 => ?_
    walk_at "rd"
    refine st_getF (e5 _ _ S4.ob) T.cl_Plain T.na_Plain_fetches lk_plain_fetches ?_
    walk_at "rd"
    refine st_listL (e5 _ _ hfe) fun ff H6 n6 e6 h6 => ?_
    walk_at "rd"
    refine st_newL (by simp) fun fo H7 n7 e7 h7 => ?_
    walk_at "rd"
    have E7 : Ex H4 H7 := (e5.trans e6).trans e7
    have A7 := A4.ex E7
    obtain ⟨xs, hro, iro⟩ := A4.ro
    obtain ⟨gok, grows, gbeats⟩ := gone_ok g pace
    have sm := plainOf_small g
    have new : ∀ y ∈ [rd, ff, fo], H4 y = none := by
      intro y hy
      simp only [List.mem_cons, List.not_mem_nil, or_false] at hy
      rcases hy with z | z | z
      · exact z ▸ n5
      · exact z ▸ e5.free n6
      · exact z ▸ (e5.trans e6).free n7
    have nd : [rd, ff, fo].Nodup := by
      have a1 : rd ≠ ff := fun z => by rw [← z, h5] at n6; cases n6
      have a2 : rd ≠ fo := fun z => by rw [← z, e6 _ _ h5] at n7; cases n7
      have a3 : ff ≠ fo := fun z => by rw [← z, h6] at n7; cases n7
      simp [a1, a2, a3]
    have L7 : AmL H7 rd ff fo ⟨(plainOf b).reads, (plainOf b).fetches, []⟩ := ⟨⟨xr, e7 _ _ (e6 _ _ h5), ire.ex E7⟩, ⟨xf, e7 _ _ h6, ife.ex E7⟩, ⟨[], h7, iml_nil⟩⟩
    refine st_getF A7.ob T.cl_Machine T.na_Machine_rows lk_M_rows ?_
    refine st_walkL (E7 _ _ hro) (fun i σ H' => ∃ y1 y2 y3, σ = [some x, some (.ref a), some (.ref p), some (.ref mp), some (.ref rd), some (.ref ff), some (.ref fo), y1, y2, y3] ∧ Ex H4 H' ∧ AmL H' rd ff fo (((goneOf b pace).rows.take i).foldl AS.step ⟨(plainOf b).reads, (plainOf b).fetches, []⟩)) ⟨_, _, _, rfl, E7, L7⟩ (fun i σ H' hp => ?_) (fun i v σ H' hv hp => ?_) (fun σ H' hp => ?_)
    · obtain ⟨_, _, _, _, e, _⟩ := hp
      exact e _ _ hro
    · obtain ⟨y1, y2, y3, rfl, e8, L8⟩ := hp
      obtain ⟨dd, g1, g2⟩ := iro.get' hv
      obtain ⟨r, g3, rfl⟩ := map_at' g1
      have iv := g2.ex e8
      obtain ⟨dueR, dueF⟩ := due_left g pace g3
      obtain ⟨_, _, sl⟩ := step_lens ((goneOf b pace).rows.take i) ⟨(plainOf b).reads, (plainOf b).fetches, []⟩
      have ht : (goneOf b pace).rows.take (i + 1) = (goneOf b pace).rows.take i ++ [r] := by rw [List.take_add_one, g3]; rfl
      rw [ht, List.foldl_append]
      generalize ((goneOf b pace).rows.take i).foldl AS.step ⟨(plainOf b).reads, (plainOf b).fetches, []⟩ = S0 at L8 dueR dueF sl
      have sl' : S0.found.length ≤ 19000 := by
        have : ((goneOf b pace).rows.take i).length ≤ (goneOf b pace).rows.length := by
          rw [List.length_take]
          omega
        simp only [List.length_nil] at sl
        omega
      have ne : (Str.ofString "read") ≠ Str.ofString "fetch" := fun z => by have := ofS_inj.mp z; simp at this
      walk_at "rd"
      refine st_cut (fun σ' H' => σ' = [some x, some (.ref a), some (.ref p), some (.ref mp), some (.ref rd), some (.ref ff), some (.ref fo), some v, y2, y3] ∧ Ex H4 H' ∧ AmL H' rd ff fo (if r.2.1 = ("read" : Str) then S0.step r else S0)) ?_ fun σ9 H9 hp9 => ?_
      · walk_at "rd"
        refine st_ixT_str iv (Kp.refl _) (atI_nat (j := 1) rfl) ?_
        walk_at "rd"
        refine st_D (fun hw => ?_) (fun hw => ?_)
        · rw [if_pos hw]
          obtain ⟨s, rest, es⟩ : ∃ s rest, S0.rs = s :: rest := by
            cases e : S0.rs with
            | nil => exact absurd e (dueR hw)
            | cons s rest => exact ⟨s, rest, rfl⟩
          obtain ⟨xq, hrd, ird⟩ := L8.r
          rw [es, List.map_cons] at ird
          obtain ⟨vs, xq, rfl, i1, i2⟩ := ird.cons_inv
          walk_at "rd"
          refine tyL hrd ?_
          walk_at "rd"
          refine st_popAt0 hrd fun H9 f9 k9 h9 => ?_
          have L9 := L8.setR nd f9 k9 h9 (i2.kp k9)
          have e9 : Ex H4 H9 := Fr.ex e8 (fun y hy => by rw [List.mem_singleton.mp hy]; exact new rd (by simp)) f9
          walk_at "rd"
          refine st_slFrom (k := 2) iv k9 (by simp) fun vr H10 e10 ir => ?_
          refine st_neSeen (a := s) (b := r.2.2) i1 (k9.trans e10.kp) ir (Kp.refl _) ?_
          walk_at "rd"
          refine st_ND (fun hs => ?_) (fun hs => ?_)
          · have est : S0.step r = { S0 with rs := rest, found := S0.found ++ [r] } := by
              unfold AS.step
              rw [if_pos hw, es]
              show ({ S0 with rs := rest, found := S0.found ++ (if some s = some r.2.2 then [] else [r]) } : AS) = _
              rw [if_neg (fun z => hs (Option.some.inj z))]
            have L10 := L9.ex e10
            obtain ⟨xo, hfo, ifo⟩ := L10.o
            walk_at "rd"
            refine tyL hfo ?_
            walk_at "rd"
            refine st_app hfo (sz_lt (by rw [ifo.length, List.length_map]; show S0.found.length < _; omega)) fun H11 f11 k11 h11 => ?_
            refine ⟨rfl, Fr.ex (e9.trans e10) (fun y hy => by rw [List.mem_singleton.mp hy]; exact new fo (by simp)) f11, ?_⟩
            rw [est]
            refine L10.setO (rows := S0.found ++ [r]) nd f11 k11 h11 ?_
            rw [List.map_append]
            exact (ifo.kp k11).append (iml_cons (((iv.kp k9).ex e10).kp k11) iml_nil)
          · have est : S0.step r = { S0 with rs := rest } := by
              unfold AS.step
              rw [if_pos hw, es]
              show ({ S0 with rs := rest, found := S0.found ++ (if some s = some r.2.2 then [] else [r]) } : AS) = _
              rw [if_pos (by rw [hs]), List.append_nil]
            walk_at "rd"
            refine ⟨rfl, e9.trans e10, ?_⟩
            rw [est]
            exact L9.ex e10
        · rw [if_neg hw]
          walk_at "rd"
          exact ⟨rfl, e8, L8⟩
      · obtain ⟨rfl, e9, L9⟩ := hp9
        have iv9 := g2.ex e9
        walk_at "rd"
        refine st_ixT_str iv9 (Kp.refl _) (atI_nat (j := 1) rfl) ?_
        walk_at "rd"
        refine st_D (fun hw => ?_) (fun hw => ?_)
        · have hw' : r.2.1 ≠ Str.ofString "read" := fun z => ne (z.symm.trans hw)
          rw [if_neg hw'] at L9
          obtain ⟨s, rest, es⟩ : ∃ s rest, S0.fs = s :: rest := by
            cases e : S0.fs with
            | nil => exact absurd e (dueF hw)
            | cons s rest => exact ⟨s, rest, rfl⟩
          obtain ⟨xq, hff, iff'⟩ := L9.f
          rw [es, List.map_cons] at iff'
          obtain ⟨vs, xq, rfl, i1, i2⟩ := iff'.cons_inv
          walk_at "rd"
          refine tyL hff ?_
          walk_at "rd"
          refine st_popAt0 hff fun H10 f10 k10 h10 => ?_
          have L10 := L9.setF nd f10 k10 h10 (i2.kp k10)
          have e10 : Ex H4 H10 := Fr.ex e9 (fun y hy => by rw [List.mem_singleton.mp hy]; exact new ff (by simp)) f10
          walk_at "rd"
          refine st_slFrom (k := 2) iv9 k10 (by simp) fun vr H11 e11 ir => ?_
          refine st_neSeen (a := s) (b := r.2.2) i1 (k10.trans e11.kp) ir (Kp.refl _) ?_
          walk_at "rd"
          refine st_ND (fun hs => ?_) (fun hs => ?_)
          · have est : S0.step r = { S0 with fs := rest, found := S0.found ++ [r] } := by
              unfold AS.step
              rw [if_neg hw', if_pos hw, es]
              show ({ S0 with fs := rest, found := S0.found ++ (if some s = some r.2.2 then [] else [r]) } : AS) = _
              rw [if_neg (fun z => hs (Option.some.inj z))]
            have L11 := L10.ex e11
            obtain ⟨xo, hfo, ifo⟩ := L11.o
            walk_at "rd"
            refine tyL hfo ?_
            walk_at "rd"
            refine st_app hfo (sz_lt (by rw [ifo.length, List.length_map]; show S0.found.length < _; omega)) fun H12 f12 k12 h12 => ?_
            refine ⟨_, _, _, rfl, Fr.ex (e10.trans e11) (fun y hy => by rw [List.mem_singleton.mp hy]; exact new fo (by simp)) f12, ?_⟩
            show AmL H12 rd ff fo (S0.step r)
            rw [est]
            refine L11.setO (rows := S0.found ++ [r]) nd f12 k12 h12 ?_
            rw [List.map_append]
            exact (ifo.kp k12).append (iml_cons (((iv9.kp k10).ex e11).kp k12) iml_nil)
          · have est : S0.step r = { S0 with fs := rest } := by
              unfold AS.step
              rw [if_neg hw', if_pos hw, es]
              show ({ S0 with fs := rest, found := S0.found ++ (if some s = some r.2.2 then [] else [r]) } : AS) = _
              rw [if_pos (by rw [hs]), List.append_nil]
            walk_at "rd"
            refine ⟨_, _, _, rfl, e10.trans e11, ?_⟩
            show AmL H11 rd ff fo (S0.step r)
            rw [est]
            exact L10.ex e11
        · have est : (if r.2.1 = Str.ofString "read" then S0.step r else S0) = S0.step r := by
            by_cases h : r.2.1 = Str.ofString "read"
            · rw [if_pos h]
            · rw [if_neg h]
              unfold AS.step
              rw [if_neg h, if_neg hw]
          rw [est] at L9
          walk_at "rd"
          exact ⟨_, _, _, rfl, e9, L9⟩
    · obtain ⟨y1, y2, y3, rfl, e8, L8⟩ := hp
      have eL : (goneOf b pace).rows.take xs.length = (goneOf b pace).rows := by
        rw [iro.length, List.length_map, List.take_length]
      rw [eL] at L8
      obtain ⟨_, _, sl⟩ := step_lens (goneOf b pace).rows ⟨(plainOf b).reads, (plainOf b).fetches, []⟩
      have A8 := A4.ex e8
      have gml := gok.len
      have gl := g.lines
      walk_at "rd"
      refine st_getF A8.ob T.cl_Machine T.na_Machine_memory lk_M_memory ?_
      walk_at "rd"
      obtain ⟨xo, hfo, ifo⟩ := L8.o
      refine st_walkE A8.me (fun i σ H' => ∃ y1 y2 y3 ys, σ = [some x, some (.ref a), some (.ref p), some (.ref mp), some (.ref rd), some (.ref ff), some (.ref fo), y1, y2, y3] ∧ Ex H4 H' ∧ H' fo = some (.lst ys) ∧ ImL H' (((amissRows b pace).found ++ ((List.range (goneOf b pace).mem.length).take i).flatMap (endRow (goneOf b pace).beats (goneOf b pace).mem (plainOf b).mem)).map pyRow) ys ∧ ys.length ≤ 19000 + i) ⟨_, _, _, xo, rfl, e8, hfo, (by rw [List.take_zero, List.flatMap_nil, List.append_nil]; exact ifo), ?_⟩ (fun i σ H' hp => ?_) (fun i v σ H' H'' hv hp ee => ?_) (fun σ H' hp => ?_)
      · rw [ifo.length, List.length_map]
        simp only [List.length_nil] at sl
        omega
      · obtain ⟨_, _, _, _, _, e, _⟩ := hp
        exact (A4.ex e).me
      · obtain ⟨y1, y2, y3, ys, rfl, e9, hfo9, ifo9, hys⟩ := hp
        obtain ⟨n, hn, rfl⟩ := map_at' hv
        have hi : i < (goneOf b pace).mem.length := (List.getElem?_eq_some_iff.mp hn).1
        have en : (goneOf b pace).mem.getD i 0 = n := by rw [List.getD_eq_getElem?_getD, hn]; rfl
        have hpm : (plainOf b).mem.length = b.mem.length := plain_mem_len _ _ _
        have e10 := e9.trans ee
        have S10 := S4.ex e10
        have A10 := A4.ex e10
        walk_at "rd"
        refine st_getF S10.ob T.cl_Plain T.na_Plain_memory lk_plain_memory ?_
        walk_at "rd"
        refine st_ixLI S10.me (atI_nat (getD_at (c := i) (by omega))) ?_
        walk_at "rd"
        have ht : (List.range (goneOf b pace).mem.length).take (i + 1) = (List.range (goneOf b pace).mem.length).take i ++ [i] := by
          rw [List.take_add_one, List.getElem?_range hi]
          rfl
        refine st_ND (fun hne => ?_) (fun heq => ?_)
        · have er : endRow (goneOf b pace).beats (goneOf b pace).mem (plainOf b).mem i = [((goneOf b pace).beats, ("end" : Str), i, n)] := by
            unfold endRow
            rw [en, if_neg hne]
          walk_at "rd"
          refine tyL (ee _ _ hfo9) ?_
          walk_at "rd"
          refine st_getF A10.ob T.cl_Machine T.na_Machine_beats lk_M_beats ?_
          walk_at "rd"
          refine st_newT (by simp) fun t H11 n11 e11 h11 => ?_
          walk_at "rd"
          refine st_app (e11 _ _ (ee _ _ hfo9)) (sz_lt (by omega)) fun H12 f12 k12 h12 => ?_
          refine ⟨_, _, _, _, rfl, Fr.ex (e10.trans e11) (fun y hy => by rw [List.mem_singleton.mp hy]; exact new fo (by simp)) f12, h12, ?_, by rw [List.length_append, List.length_singleton]; omega⟩
          rw [ht, List.flatMap_append, ← List.append_assoc, List.map_append]
          refine (((ifo9.ex ee).ex e11).kp k12).append ?_
          rw [List.flatMap_singleton, er]
          exact iml_cons (im_tup (k12 _ _ h11) (iml_cons im_int (iml_cons im_str (iml_cons im_int (iml_cons im_int iml_nil))))) iml_nil
        · have er : endRow (goneOf b pace).beats (goneOf b pace).mem (plainOf b).mem i = [] := by
            unfold endRow
            rw [en, if_pos heq]
          walk_at "rd"
          refine ⟨_, _, _, ys, rfl, e10, ee _ _ hfo9, ?_, by omega⟩
          rw [ht, List.flatMap_append, List.flatMap_singleton, er, List.append_nil]
          exact ifo9.ex ee
      · obtain ⟨y1, y2, y3, ys, rfl, e9, hfo9, ifo9, hys⟩ := hp
        walk_at "rd"
        refine q fo H' ⟨E4.free (new fo (by simp)), E4.trans e9, ys, hfo9, ?_⟩
        rw [List.length_map, List.take_of_length_le (by rw [List.length_range]; exact Nat.le_refl _)] at ifo9
        exact ifo9
/-! ### Machine.key -/
theorem sc_Machine_key : FnScope ["self", "held", "line"] ["self"] (defScope s_Machine_key) := ⟨rfl, rfl, rfl, by decide +kernel, rfl, by decide +kernel, by decide +kernel⟩
def sp_Machine_key (C : Addr) : Sp := fun vs H Q _ => ∃ (vo vp : V) (p : Addr) (F : List Addr) (M : MS) (n : Nat), vs = [.ref p] ∧ Mac C vo vp p F H M ∧ M.Ok n ∧ n / 4 ≤ 4 ∧
  ∀ a H', Ex H H' → Im H' (pyKey (keyOf M)) (.ref a) → Q (.ref a) H'
theorem met_Machine_key {P w base K mg c} (T : Txt K mg c) : Met CX0 P w K mg base 1 c.Machine "key" (sp_Machine_key c.Machine) := by
  obtain ⟨f, fd, F, m⟩ := T.F_Machine_key
  refine met_of T.cl_Machine m F (fun _ _ _ _ _ _ us hl => match us, hl with | [_], _ => rfl) sc_Machine_key (fun vs H Q E h => ?_) (fun cdv A outer s H vs Q E hr h => ?_)
  · obtain ⟨vo, vp, p, F, M, n, rfl, _⟩ := h
    rfl
  · obtain ⟨vo, vp, p, F, M, n, rfl, hM, ok, n16, q⟩ := h
    refine ⟨_, (pss_cons (ps_setLc (i := 1) (own := [("line", 2)]) (g := (gName 2)) (tt := tYes) (te := (tTup (tCons (tVar 2) (tCons (tCB (rTupOf K) (tCons (tOp (rIxT K) (tDGet (tFld K (tVar 0) "held") (tVar 2)) (tC (.int 0))) tNil)) (tCons (tOp (rIxT K) (tDGet (tFld K (tVar 0) "held") (tVar 2)) (tC (.int 1))) tNil))))) rfl sc_Machine_key.nd rfl rfl (sw_true rfl rfl rfl (by decide +kernel)) (pi_list (pe_callB (call_sortedDI rfl) (by rfl) T.sorted (by decide +kernel) (pa_cons (pe_fld (pv 0) rfl) pa_nil))) (blkOk_by (N := ["self", "held", "line"]) (sc := defScope s_Machine_key) (own := [("line", 2)]) (by decide +kernel)) (fun _ _ _ _ _ => (pg_name (i := 2) sc_Machine_key.nd rfl (.inl rfl))) (fun _ _ _ _ _ => pts_nil) (fun _ _ _ _ _ => (pe_tup (pa_cons (pv 2) (pa_cons (pe_callTy c_tuple (by rfl) T.tuple (by decide +kernel) (pa_cons (pe_ix ix_tup (pe_dget (u1 hr) (pe_fld (pv 0) rfl) (pv 2) (fun _ _ => rfl)) pe_int (fun _ _ => rfl)) pa_nil)) (pa_cons (pe_ix ix_tup (pe_dget (u1 hr) (pe_fld (pv 0) rfl) (pv 2) (fun _ _ => rfl)) pe_int (fun _ _ => rfl)) pa_nil))))))
      (pss_one (ps_ret (pe_tup (pa_cons (pe_fld (pv 0) rfl) (pa_cons (pe_callTy c_tuple (by rfl) T.tuple (by decide +kernel) (pa_cons (pe_fld (pv 0) rfl) pa_nil)) (pa_cons (pe_callTy c_tuple (by rfl) T.tuple (by decide +kernel) (pa_cons (pv 1) pa_nil)) (pa_cons (pe_callB c_len (by rfl) T.len PySem.boot_len (pa_cons (pe_fld (pv 0) rfl) pa_nil)) pa_nil)))))))), ?_⟩
    obtain ⟨dx, hd, ml, ll, rl, cs, rfl, A⟩ := hM
    obtain ⟨kvs, hk, hR⟩ := A.he
    have hkl := ok.heldLen
    walk_at "rd"
    refine st_getF A.ob T.cl_Machine T.na_Machine_held lk_M_held ?_
    walk_at "rd"
    refine st_sorted (K := K) (Q := fun x H1 => LcL K (gName 2) tYes _ _ _ x H1 _) hk hR (by omega) fun ys l H1 hp hs n1 e1 h1 => ?_
    have hys := sorted_keys ok n16 hp hs
    subst hys
    have h1' : H1 l = some (.lst ((upLines M).map fun l : Nat => V.int (l : Int))) := by
      rw [h1, List.map_map]
      rfl
    have A1 := A.ex e1
    refine st_lcList (SqL.of h1') fun D H2 nD e2 hD => ?_
    refine ⟨fun i H' => ∃ xs, Ex H1 H' ∧ H' D = some (.lst xs) ∧ ImL H' (((heldUp M).take i).map pyHE) xs, ⟨[], e2, hD, iml_nil⟩, fun i H' hh => ?_, fun i v H' hv hh => ?_, fun H' hh => ?_⟩
    · obtain ⟨_, e, _⟩ := hh
      exact SqL.of (e _ _ h1')
    · obtain ⟨xs, e3, hxs, ixs⟩ := hh
      obtain ⟨k, hk', rfl⟩ := map_at' hv
      obtain ⟨⟨ns, tb⟩, hg, hup⟩ := upLines_get hk'
      obtain ⟨t, cl, g1, g2, g3, g4⟩ := hR.get hg
      have A3 := A1.ex e3
      have E3 := e1.trans e3
      show gName 2 _ _ _ _
      walk_at "rd"
      refine ⟨rfl, ?_⟩
      walk_at "rd"
      refine st_getF A3.ob T.cl_Machine T.na_Machine_held lk_M_held ?_
      walk_at "rd"
      refine st_dgetI (E3 _ _ hk) g1 ?_
      walk_at "rd"
      refine ⟨t, _, 0, .ref cl, rfl, rfl, SqT.of (E3 _ _ g2), atI_nat (j := 0) rfl, ?_⟩
      walk_at "rd"
      refine st_tupL (E3 _ _ g3) fun ct H4 n4 e4 h4 => ?_
      walk_at "rd"
      have A4 := A3.ex e4
      refine st_getF A4.ob T.cl_Machine T.na_Machine_held lk_M_held ?_
      walk_at "rd"
      refine st_dgetI (e4 _ _ (E3 _ _ hk)) g1 ?_
      walk_at "rd"
      refine ⟨t, _, 1, .bl tb, rfl, rfl, SqT.of (e4 _ _ (E3 _ _ g2)), atI_nat (j := 1) rfl, ?_⟩
      walk_at "rd"
      refine st_newT (by simp) fun t2 H5 n5 e5 h5 => ?_
      have hl := ixs.length
      have hul : (heldUp M).length ≤ 4 := by rw [held_up, List.length_map]; exact upLines_len M
      refine st_lcPut (e5 _ _ (e4 _ _ hxs)) (by rw [hl, List.length_map, List.length_take]; omega) fun H6 f6 k6 h6 => ?_
      refine ⟨_, ?_, h6, ?_⟩
      · exact Fr.ex ((e3.trans e4).trans e5) (fun a ha => by rw [List.mem_singleton.mp ha]; exact nD) f6
      · have et : (heldUp M).take (i + 1) = (heldUp M).take i ++ [(k, ns, tb)] := by rw [List.take_add_one, hup]; rfl
        rw [et, List.map_append]
        refine (((ixs.ex e4).ex e5).kp k6).append (iml_cons (im_tup (k6 _ _ h5) ?_) iml_nil)
        exact iml_cons im_int (iml_cons (im_tup (k6 _ _ (e5 _ _ h4)) (ImL.ints.mpr rfl)) (iml_cons im_bl iml_nil))
    · obtain ⟨xs, e3, hxs, ixs⟩ := hh
      have el : ((upLines M).map fun l : Nat => V.int (l : Int)).length = (heldUp M).length := by rw [held_up, List.length_map, List.length_map]
      rw [el, List.take_length] at ixs
      have A3 := A1.ex e3
      walk_at "rd"
      refine st_getF A3.ob T.cl_Machine T.na_Machine_at lk_M_at ?_
      walk_at "rd"
      refine st_getF A3.ob T.cl_Machine T.na_Machine_memory lk_M_memory ?_
      walk_at "rd"
      refine st_tupL A3.me fun tm H4 n4 e4 h4 => ?_
      walk_at "rd"
      refine st_tupL (e4 _ _ hxs) fun th H5 n5 e5 h5 => ?_
      walk_at "rd"
      have A5 := (A3.ex e4).ex e5
      obtain ⟨xl, hle, ile⟩ := A5.le
      refine st_getF A5.ob T.cl_Machine T.na_Machine_left lk_M_left ?_
      walk_at "rd"
      refine st_lenL hle ?_
      walk_at "rd"
      refine st_newT (by simp) fun t H6 n6 e6 h6 => ?_
      refine q t H6 ((((e1.trans e3).trans e4).trans e5).trans e6) (im_tup h6 ?_)
      have el2 : xl.length = M.left.length := by rw [ile.length, List.length_map]
      rw [el2]
      exact iml_cons im_int (iml_cons (im_tup (e6 _ _ (e5 _ _ h4)) (ImL.ints.mpr rfl)) (iml_cons (im_tup (e6 _ _ h5) ((ixs.ex e4).ex e5 |>.ex e6)) (iml_cons im_int iml_nil)))
/-! ### Judge.is_amiss -/
theorem sc_Judge_is_amiss : FnScope ["self", "machine", "rows", "row"] ["self", "machine"] (defScope s_Judge_is_amiss) := ⟨rfl, rfl, rfl, by decide +kernel, rfl, by decide +kernel, by decide +kernel⟩
def sp_Judge_is_amiss (P : Program) (w : World) (CJ CP CM : Addr) : Sp := fun vs H Q _ => ∃ (j md : Addr) (js : List Addr) (vb : V) (b : Bd) (met : List KeyD) (vo vp : V) (p : Addr) (F : List Addr) (M : MS), vs = [.ref j, .ref p] ∧ JAt P w CJ CP H j md js vb b met ∧ Mac CM vo vp p F H M ∧ Pl b M ∧
  (∀ a ∈ md :: js, a ∉ F) ∧ (after (plainOf b) M = none → ∀ H' F', Chg F H F' H' → Q (.bl true) H') ∧ ∀ N, after (plainOf b) M = some N → ∀ H' F', Mac CM vo vp p F' H' N → Chg F H F' H' → Q (.bl false) H'
theorem met_Judge_is_amiss {P w base K mg c} (T : Txt K mg c) : Met CX0 P w K mg base 1 c.Judge "is_amiss" (sp_Judge_is_amiss P w c.Judge c.Plain c.Machine) := by
  obtain ⟨f, fd, F, m⟩ := T.F_Judge_is_amiss
  refine met_of T.cl_Judge m F (fun _ _ _ _ _ _ us hl => match us, hl with | [_, _], _ => rfl) sc_Judge_is_amiss (fun vs H Q E h => ?_) (fun cdv A outer s H vs Q E hr h => ?_)
  · obtain ⟨j, md, js, vb, b, met, vo, vp, p, F, M, rfl, _⟩ := h
    rfl
  · obtain ⟨j, md, js, vb, b, met, vo, vp, p, F, M, rfl, hJ, hM, pl, ap, qt, qf⟩ := h
    refine ⟨_, (pss_cons (ps_set (i := 2) sc_Judge_is_amiss.nd rfl (.inl rfl) (pe_fld (pv 1) rfl))
      (pss_cons (ps_fld (pv 1) (pe_lst pa_nil) rfl)
      (pss_cons (ps_for PassesOwn.never rfl (pi_list (pv 2)) (pg_name (i := 3) sc_Judge_is_amiss.nd rfl (.inl rfl))
      (pss_cut (ps_if (pt_cmpR op_eq (pe_ix ix_tup (pv 3) pe_int (fun _ _ => rfl)) pe_str (nomark _)) (pss_cons (ps_fldaug (pv 1) pe_int in_add)
      (pss_one (ps_if (pt_cmpR (op_neD hr.units) (pe_ix ix_list (pe_fld (pe_fld (pv 0) rfl) rfl) (pe_op op_sub (pe_fld (pv 1) rfl) pe_int) (fun _ _ => rfl)) (pe_slice sl_tupA (pv 3) (po_some pe_int) po_none) (nomark _)) (pss_one (ps_ret pe_bl)) pss_nil))) pss_nil)
      (pss_one (ps_if (pt_cmpR op_eq (pe_ix ix_tup (pv 3) pe_int (fun _ _ => rfl)) pe_str (nomark _)) (pss_cons (ps_fldaug (pv 1) pe_int in_add)
      (pss_one (ps_if (pt_cmpR (op_neD hr.units) (pe_ix ix_list (pe_fld (pe_fld (pv 0) rfl) rfl) (pe_op op_sub (pe_fld (pv 1) rfl) pe_int) (fun _ _ => rfl)) (pe_slice sl_tupA (pv 3) (po_some pe_int) po_none) (nomark _)) (pss_one (ps_ret pe_bl)) pss_nil))) pss_nil))))
      (pss_one (ps_ret pe_bl))))), ?_⟩
    obtain ⟨dx, hd, ml, ll, rl, cs, rfl, A0⟩ := hM
    walk_at "rd"
    refine st_getF A0.ob T.cl_Machine T.na_Machine_rows lk_M_rows ?_
    walk_at "rd"
    refine st_newL (by simp) fun r2 H1 n1 e1 h1 => ?_
    walk_at "rd"
    have A1 := A0.ex e1
    refine st_setF A1.ob T.cl_Machine T.na_Machine_rows len_M fun H2 f2 k2 h2 => ?_
    rw [pt_M_rows] at h2
    have nl : ∀ a ∈ p :: hd :: ml :: ll :: rl :: cs, r2 ≠ a := fun a ha z => A0.free n1 a ha z.symm
    have A2 := A1.newRows (rows := []) nl f2 k2 h2 (fr1 f2 h1 (nl p (by simp))) iml_nil
    obtain ⟨xs, hro, iro⟩ := A1.ro
    have nes := A1.nes
    have hro2 : H2 rl = some (.lst xs) := fr1 f2 hro nes.p4.symm
    have npj : ∀ a ∈ md :: js, a ∉ [p] := fun a ha z => ap a ha (by rw [List.mem_singleton.mp z]; simp)
    have hJ2 := (hJ.ex e1).keep f2 k2 npj
    have f02 : Fr [p] H H2 := e1.fr.trans f2
    have k02 : Kp H H2 := e1.kp.trans k2
    -- what is changed in all
    have chg : ∀ {H' : Hp}, Fr [p] H H' → Kp H H' → Chg (p :: hd :: ml :: ll :: rl :: cs) H (p :: hd :: ml :: ll :: r2 :: cs) H' := fun {H'} f k => by
      refine ⟨f.mono (by simp), k, fun a ha => ?_⟩
      simp only [List.mem_cons] at ha ⊢
      rcases ha with z | z | z | z | z | z
      · exact .inl (.inl z)
      · exact .inl (.inr (.inl z))
      · exact .inl (.inr (.inr (.inl z)))
      · exact .inl (.inr (.inr (.inr (.inl z))))
      · exact .inr (z ▸ n1)
      · exact .inl (.inr (.inr (.inr (.inr (.inr z)))))
    obtain ⟨⟨jdx, ap', hj0, pdx, pml, prl, pfl, psl, ejs, S0⟩, _, _, _⟩ := hJ2
    have jp : ∀ {H' : Hp}, Fr [p] H2 H' → Kp H2 H' → H' j = some (.ins c.Judge jdx (judgeF vb ap' md)) ∧ PlainAt c.Plain H' ap' pdx pml prl pfl psl (plainOf b) := fun {H'} f k => by
      refine ⟨fr1 f hj0 fun z => npj j (by rw [ejs]; simp) (by rw [z]; simp), S0.keep f k fun a ha => npj a ?_⟩
      rw [ejs]
      exact List.mem_cons_of_mem _ (List.mem_cons_of_mem _ ha)
    walk_at "rd"
    refine st_walkL hro2 (fun i σ H' => ∃ y s, σ = [some (.ref j), some (.ref p), some (.ref rl), y] ∧ seen (plainOf b) (tails (M.rows.take i)) (M.nr, M.nf) = some s ∧ Fr [p] H2 H' ∧ Kp H2 H' ∧ MA c.Machine vo vp H' p dx hd ml ll r2 cs { M with rows := [], nr := s.1, nf := s.2 })
      ⟨_, (M.nr, M.nf), rfl, rfl, Fr.refl _ _, Kp.refl _, A2⟩ (fun i σ H' hp => ?_) (fun i v σ H' hv hp => ?_) (fun σ H' hp => ?_)
    · obtain ⟨_, _, _, _, f3, _, _⟩ := hp
      exact fr1 f3 hro2 nes.p4.symm
    · obtain ⟨y, s, rfl, hs, f3, k3, A3⟩ := hp
      obtain ⟨dd, g1, g2⟩ := iro.get' hv
      obtain ⟨r, g3, rfl⟩ := map_at' g1
      have iv : Im H' (pyRow r) v := g2.kp (k2.trans k3)
      have hlt : i < M.rows.length := (List.getElem?_eq_some_iff.mp g3).1
      have er : M.rows = M.rows.take i ++ r :: M.rows.drop (i + 1) := by
        have e : M.rows[i] = r := (List.getElem?_eq_some_iff.mp g3).2
        rw [← e, ← List.drop_eq_getElem_cons hlt, List.take_append_drop]
      obtain ⟨due1, due2⟩ := pl.due er
      obtain ⟨c1, c2⟩ := seen_count _ _ _ _ hs
      have c1' : s.1 = M.nr + (cellsOf "read" (M.rows.take i)).length := c1
      have c2' : s.2 = M.nf + (cellsOf "fetch" (M.rows.take i)).length := c2
      have snext : seen (plainOf b) (tails (M.rows.take (i + 1))) (M.nr, M.nf) = (look (plainOf b) s r.2).bind fun s' => some s' := by
        have ht : M.rows.take (i + 1) = M.rows.take i ++ [r] := by rw [List.take_add_one, g3]; rfl
        rw [ht, tails_append, seen_append, hs]
        show (match look (plainOf b) s r.2 with | none => none | some s' => some s') = _
        cases look (plainOf b) s r.2 <;> rfl
      have sall : look (plainOf b) s r.2 = none → after (plainOf b) M = none := fun hl => by
        unfold after
        rw [Option.map_eq_none_iff, er, tails_append, seen_append, hs]
        show (match look (plainOf b) s r.2 with | none => none | some s' => seen (plainOf b) _ s') = none
        rw [hl]
      walk_at "rd"
      refine st_cut (fun σ' H' => ∃ s', σ' = [some (.ref j), some (.ref p), some (.ref rl), some v] ∧ (r.2.1 = Str.ofString "read" → look (plainOf b) s r.2 = some s') ∧ (r.2.1 ≠ Str.ofString "read" → s' = s) ∧ Fr [p] H2 H' ∧ Kp H2 H' ∧ MA c.Machine vo vp H' p dx hd ml ll r2 cs { M with rows := [], nr := s'.1, nf := s'.2 }) ?_ fun σ9 H9 hp9 => ?_
      · walk_at "rd"
        refine st_ixT_str iv (Kp.refl _) (atI_nat (j := 1) rfl) ?_
        walk_at "rd"
        refine st_D (fun hw => ?_) (fun hw => ?_)
        · have hin := due1 hw
          rw [← c1'] at hin
          have hat := List.getElem?_eq_getElem hin
          generalize (plainOf b).reads[s.1] = due at hat
          walk_at "rd"
          refine st_augF A3.ob T.cl_Machine T.na_Machine_many_reads lk_M_many_reads len_M fun H4 f4 k4 h4 => ?_
          rw [pt_M_reads'] at h4
          have A4 := A3.mutOb f4 k4 h4
          obtain ⟨j4, S4⟩ := jp (f3.trans f4) (k3.trans k4)
          obtain ⟨xr, hre, ire⟩ := S4.re
          walk_at "rd"
          refine st_getF j4 T.cl_Judge T.na_Judge_aim lk_J_aim ?_
          refine st_getF S4.ob T.cl_Plain T.na_Plain_reads lk_plain_reads ?_
          walk_at "rd"
          refine st_getF A4.ob T.cl_Machine T.na_Machine_many_reads lk_M_many_reads ?_
          walk_at "rd"
          obtain ⟨vx, hx1, hx2⟩ := ire.get (i := s.1) (d := pySeen due) (map_at hat)
          have ei : (((s.1 + 1 : Nat) : Int) - 1) = ((s.1 : Nat) : Int) := by omega
          show rIxL K (.ref prl) (.int (((s.1 + 1 : Nat) : Int) - 1)) H4 _
          rw [ei]
          refine st_ixL hre (atI_nat hx1) ?_
          walk_at "rd"
          refine st_slFrom (k := 2) iv k4 (by simp) fun vr H10 e10 ir => ?_
          refine st_neSeen (a := due) (b := r.2.2) (hx2) e10.kp ir (Kp.refl _) ?_
          walk_at "rd"
          refine st_ND (fun hne => ?_) (fun heq => ?_)
          · walk_at "rd"
            refine qt (sall ?_) H10 _ (chg (f02.trans ((f3.trans f4).trans e10.fr)) (k02.trans ((k3.trans k4).trans e10.kp)))
            unfold look
            rw [if_pos hw, hat, if_neg (fun z => hne (Option.some.inj z))]
          · walk_at "rd"
            refine ⟨(s.1 + 1, s.2), rfl, fun _ => ?_, fun z => absurd hw z, (f3.trans f4).trans e10.fr, (k3.trans k4).trans e10.kp, A4.ex e10⟩
            unfold look
            rw [if_pos hw, hat, if_pos (by rw [heq])]
        · walk_at "rd"
          exact ⟨s, rfl, fun z => absurd z hw, fun _ => rfl, f3, k3, A3⟩
      · obtain ⟨s', rfl, hl1, hl2, f9, k9, A9⟩ := hp9
        have iv9 : Im H9 (pyRow r) v := g2.kp (k2.trans k9)
        walk_at "rd"
        refine st_ixT_str iv9 (Kp.refl _) (atI_nat (j := 1) rfl) ?_
        walk_at "rd"
        refine st_D (fun hw => ?_) (fun hw => ?_)
        · have hw' : r.2.1 ≠ Str.ofString "read" := fun z => ne_rf (hw.symm.trans z)
          obtain rfl := hl2 hw'
          have hin := due2 hw
          rw [← c2'] at hin
          have hat := List.getElem?_eq_getElem hin
          generalize (plainOf b).fetches[s'.2] = due at hat
          walk_at "rd"
          refine st_augF A9.ob T.cl_Machine T.na_Machine_many_fetches lk_M_many_fetches len_M fun H4 f4 k4 h4 => ?_
          rw [pt_M_fetches'] at h4
          have A4 := A9.mutOb f4 k4 h4
          obtain ⟨j4, S4⟩ := jp (f9.trans f4) (k9.trans k4)
          obtain ⟨xr, hre, ire⟩ := S4.fe
          walk_at "rd"
          refine st_getF j4 T.cl_Judge T.na_Judge_aim lk_J_aim ?_
          refine st_getF S4.ob T.cl_Plain T.na_Plain_fetches lk_plain_fetches ?_
          walk_at "rd"
          refine st_getF A4.ob T.cl_Machine T.na_Machine_many_fetches lk_M_many_fetches ?_
          walk_at "rd"
          obtain ⟨vx, hx1, hx2⟩ := ire.get (i := s'.2) (d := pySeen due) (map_at hat)
          have ei : (((s'.2 + 1 : Nat) : Int) - 1) = ((s'.2 : Nat) : Int) := by omega
          show rIxL K (.ref pfl) (.int (((s'.2 + 1 : Nat) : Int) - 1)) H4 _
          rw [ei]
          refine st_ixL hre (atI_nat hx1) ?_
          walk_at "rd"
          refine st_slFrom (k := 2) iv9 k4 (by simp) fun vr H10 e10 ir => ?_
          refine st_neSeen (a := due) (b := r.2.2) (hx2) e10.kp ir (Kp.refl _) ?_
          walk_at "rd"
          refine st_ND (fun hne => ?_) (fun heq => ?_)
          · walk_at "rd"
            refine qt (sall ?_) H10 _ (chg (f02.trans ((f9.trans f4).trans e10.fr)) (k02.trans ((k9.trans k4).trans e10.kp)))
            unfold look
            rw [if_neg hw', if_pos hw, hat, if_neg (fun z => hne (Option.some.inj z))]
          · walk_at "rd"
            refine ⟨_, (s'.1, s'.2 + 1), rfl, ?_, (f9.trans f4).trans e10.fr, (k9.trans k4).trans e10.kp, A4.ex e10⟩
            rw [snext]
            unfold look
            rw [if_neg hw', if_pos hw, hat, if_pos (by rw [heq])]
            rfl
        · walk_at "rd"
          refine ⟨_, s', rfl, ?_, f9, k9, A9⟩
          rw [snext]
          by_cases h1 : r.2.1 = Str.ofString "read"
          · rw [hl1 h1]
            rfl
          · rw [hl2 h1, look_other h1 hw]
            rfl
    · obtain ⟨y, s, rfl, hs, f3, k3, A3⟩ := hp
      have el : M.rows.take xs.length = M.rows := by rw [iro.length, List.length_map, List.take_length]
      rw [el] at hs
      walk_at "rd"
      refine qf { M with rows := [], nr := s.1, nf := s.2 } ?_ H' _ ⟨dx, hd, ml, ll, r2, cs, rfl, A3⟩ (chg (f02.trans f3) (k02.trans k3))
      unfold after
      rw [hs]
      rfl
/-! ### Machine.copied -/
theorem sc_Machine_copied : FnScope ["self", "found", "line", "cells", "touched"] ["self"] (defScope s_Machine_copied) := ⟨rfl, rfl, rfl, by decide +kernel, rfl, by decide +kernel, by decide +kernel⟩
def sp_Machine_copied (C : Addr) : Sp := fun vs H Q _ => ∃ (vo vp : V) (p : Addr) (F : List Addr) (M : MS) (n : Nat), vs = [.ref p] ∧ Mac C vo vp p F H M ∧ M.Ok n ∧ n ≤ 1000 ∧
  ∀ H' F' p', Mac C vo vp p' F' H' M.bare → Chg [] H F' H' → Q (.ref p') H'
theorem met_Machine_copied {P w base K mg c} (T : Txt K mg c) : Met CX0 P w K mg base 3 c.Machine "copied" (sp_Machine_copied c.Machine) := by
  obtain ⟨f, fd, F, m⟩ := T.F_Machine_copied
  have k_Machine := mak_Machine (P := P) (w := w) (base := base) T
  refine met_of T.cl_Machine m F (fun _ _ _ _ _ _ us hl => match us, hl with | [_], _ => rfl) sc_Machine_copied (fun vs H Q E h => ?_) (fun cdv A outer s H vs Q E hr h => ?_)
  · obtain ⟨vo, vp, p, F, M, n, rfl, _⟩ := h
    rfl
  · obtain ⟨vo, vp, p, F, M, n, rfl, hM, ok, n1000, q⟩ := h
    refine ⟨_, (pss_cons (ps_set (i := 1) sc_Machine_copied.nd rfl (.inl rfl) (pe_mk k_Machine hr (by decide) (by rfl) (pa_cons (pe_tup (pa_cons (pe_fld (pv 0) rfl) (pa_cons (pe_fld (pv 0) rfl) (pa_cons (pe_fld (pv 0) rfl) pa_nil)))) pa_nil)))
      (pss_cons (ps_lock (ps_for PassesOwn.never rfl (pi_keys (pe_fld (pv 0) rfl)) (pg_name (i := 2) sc_Machine_copied.nd rfl (.inl rfl))
      (pss_cons (ps_asg (pe_dget (u1 hr) (pe_fld (pv 0) rfl) (pv 2) (fun _ _ => rfl)) (pg_tup (n := 2) rfl (pgs_cons (pg_name (i := 3) sc_Machine_copied.nd rfl (.inl rfl)) (pgs_cons (pg_name (i := 4) sc_Machine_copied.nd rfl (.inl rfl)) pgs_nil))))
      (pss_one (ps_dput (u1 hr) (pe_fld (pv 1) rfl) (pv 2) (pe_tup (pa_cons (pe_callTy c_list (by rfl) T.list (by decide +kernel) (pa_cons (pv 3) pa_nil)) (pa_cons (pv 4) pa_nil))) rfl)))))
      (pss_cons (ps_fld (pv 1) (pe_callTy c_list (by rfl) T.list (by decide +kernel) (pa_cons (pe_fld (pv 0) rfl) pa_nil)) rfl)
      (pss_cons (ps_fld (pv 1) (pe_fld (pv 0) rfl) rfl)
      (pss_cons (ps_fld (pv 1) (pe_fld (pv 0) rfl) rfl)
      (pss_cons (ps_fld (pv 1) (pe_fld (pv 0) rfl) rfl)
      (pss_cons (ps_fld (pv 1) (pe_fld (pv 0) rfl) rfl)
      (pss_cons (ps_fld (pv 1) (pe_fld (pv 0) rfl) rfl)
      (pss_one (ps_ret (pv 1))))))))))), ?_⟩
    obtain ⟨dx, hd, ml, ll, rl, cs, rfl, A0⟩ := hM
    walk_at "rd"
    refine st_getF A0.ob T.cl_Machine T.na_Machine_memory lk_M_memory ?_
    walk_at "rd"
    refine st_getF A0.ob T.cl_Machine T.na_Machine_orders lk_M_orders ?_
    walk_at "rd"
    refine st_getF A0.ob T.cl_Machine T.na_Machine_program lk_M_program ?_
    walk_at "rd"
    refine st_newT (by simp) fun t H1 n1 e1 h1 => ?_
    walk_at "rd"
    refine st_makeC fun p2 dx2 H2 np e2 hp2 => ?_
    refine ⟨p2, dx2, .ref t, vo, vp, M.mem, rfl, hp2, ⟨t, ml, rfl, e2 _ _ h1, .inl (e2 _ _ (e1 _ _ A0.me))⟩, fun H3 F3 hM3 c3 => ⟨rfl, ?_⟩⟩
    have c13 : Chg [] H F3 H3 := c3.into (e1.trans e2) fun a ha => by rw [List.mem_singleton.mp ha]; exact e1.free np
    have E3 : Ex H H3 := c13.fresh
    have A3 := A0.ex E3
    obtain ⟨kvs, hk, hR⟩ := A0.he
    have hk3 := E3 _ _ hk
    have nes := A0.nes
    have hkl := ok.heldLen
    have hlen := hR.len
    have new3 : ∀ a ∈ F3, H a = none := fun a ha => by
      rcases c13.own a ha with z | z
      · cases z
      · exact z
    have hdn : ∀ {F : List Addr}, (∀ a ∈ F, H a = none) → hd ∉ F := fun {F} hF z => by
      have := hF hd z
      rw [hk] at this
      cases this
    walk_at "rd"
    refine st_lock hk3 fun od => ?_
    have fz : Fr [hd] H3 (upd H3 hd (.frz od (.dK kvs))) := Fr.mut (List.mem_singleton.mpr rfl) (Fr.refl _ _)
    have kz : Kp H3 (upd H3 hd (.frz od (.dK kvs))) := Kp.mut (nt_of hk3 trivial) (Kp.refl _)
    have rdP : ∀ {Hx : Hp}, Fr [hd] H Hx → Hx p = some (.ins c.Machine dx (machF ml vo vp hd ll M.at_ M.beats rl M.idle M.nr M.nf)) := fun {Hx} f => fr1 f A0.ob nes.p1
    walk_at "rd"
    refine st_getF (rdP (E3.fr.trans fz)) T.cl_Machine T.na_Machine_held lk_M_held ?_
    refine st_walkK (o := od) (kvs := kvs) upd_same (fun i σ H' => ∃ y1 y2 y3 F', σ = [some (.ref p), some (.ref p2), y1, y2, y3] ∧ H' hd = some (.frz od (.dK kvs)) ∧ Fr [hd] H H' ∧ Kp H H' ∧ Mac c.Machine vo vp p2 F' H' { MS.start M.mem with held := M.held.take i } ∧ ∀ a ∈ F', H a = none)
      ⟨_, _, _, F3, rfl, upd_same, E3.fr.trans fz, E3.kp.trans kz, ?_, new3⟩ (fun i σ H' hp => ?_) (fun i k v σ H' hkv hp => ?_) (fun σ H' hp => ?_)
    · obtain ⟨dx3, hd3, ml3, ll3, rl3, cs3, eF, B⟩ := hM3
      exact ⟨dx3, hd3, ml3, ll3, rl3, cs3, eF, B.keep fz kz fun a ha z => hdn new3 (by rw [eF, ← List.mem_singleton.mp z]; exact ha)⟩
    · obtain ⟨_, _, _, _, _, h, _⟩ := hp
      exact h
    · obtain ⟨y1, y2, y3, F', rfl, hz, fH, kH, hMi, newF⟩ := hp
      obtain ⟨l, ns, b, he, rfl⟩ := hR.at' hkv
      have hg := hget_at ok.nd he
      obtain ⟨t', cl, hv', ht', hcl, hcs⟩ := hR.get hg
      obtain ⟨dx3, hd3, ml3, ll3, rl3, cs3, eF, B⟩ := hMi
      walk_at "rd"
      refine st_getF (rdP fH) T.cl_Machine T.na_Machine_held lk_M_held ?_
      walk_at "rd"
      refine st_dgetZ hz hv' ?_
      refine st_gtup' (kH _ _ ht') rfl ?_
      walk_at "rd"
      refine st_listL (fr1 fH hcl (nes.h4 cl hcs)) fun c2 H5 n5 e5 h5 => ?_
      walk_at "rd"
      refine st_newT (by simp) fun t2 H6 n6 e6 h6 => ?_
      walk_at "rd"
      have B6 := (B.ex e5).ex e6
      refine st_getF B6.ob T.cl_Machine T.na_Machine_held lk_M_held ?_
      walk_at "rd"
      obtain ⟨kv2, hk2, hR2⟩ := B6.he
      have hgt := hget_take ok.nd he
      have hno := hR2.lost hgt
      have hl2 := hR2.len
      have htl : (M.held.take i).length ≤ M.held.length := by rw [List.length_take]; omega
      have hl2' : kv2.length = (M.held.take i).length := hl2
      refine st_dputK (k := Sum.inl (l : Int)) hk2 rfl (by omega) fun H7 f7 k7 h7 => ?_
      rw [putK_new _ hno] at h7
      have nc : ∀ a ∈ p2 :: hd3 :: ml3 :: ll3 :: rl3 :: cs3, a ≠ c2 := B.free n5
      have hc7 : H7 c2 = some (.lst (ns.map V.int)) := fr1 f7 (e6 _ _ h5) (fun z => nc hd3 (by simp) z.symm)
      have B7 := B6.mutHd (held := M.held.take i ++ [(l, ns, b)]) f7 k7 h7 ((hR2.keep f7 k7 (not1 B6.nes.h4)).add (k7 _ _ h6) hc7) (nodup_snoc B.nd nc)
      have et : M.held.take (i + 1) = M.held.take i ++ [(l, ns, b)] := by rw [List.take_add_one, he]; rfl
      have hd3n : hd3 ≠ hd := fun z => hdn newF (by rw [eF, ← z]; simp)
      have n5H : H c2 = none := by
        cases e : H c2 with
        | none => rfl
        | some o =>
          by_cases z : c2 = hd
          · rw [z, hz] at n5
            cases n5
          · have := fH c2 o e (by simpa using z)
            rw [this] at n5
            cases n5
      have new7 : ∀ a ∈ p2 :: hd3 :: ml3 :: ll3 :: rl3 :: (cs3 ++ [c2]), H a = none := fun a ha => by
        by_cases z : a = c2
        · rw [z]
          exact n5H
        · refine newF a ?_
          rw [eF]
          simp only [List.mem_cons, List.mem_append, List.not_mem_nil, or_false] at ha ⊢
          rcases ha with h | h | h | h | h | h | h <;> first | exact absurd h z | simp [h]
      refine ⟨_, _, _, _, rfl, fr1 f7 (e6 _ _ (e5 _ _ hz)) (fun z => hd3n z.symm), ?_, kH.trans ((e5.kp.trans e6.kp).trans k7), ⟨dx3, hd3, ml3, ll3, rl3, _, rfl, ?_⟩, new7⟩
      · refine fun a o ha hn => f7 a o (e6 _ _ (e5 _ _ (fH a o ha hn))) fun z => ?_
        have := newF hd3 (by rw [eF]; simp)
        rw [List.mem_singleton.mp z, this] at ha
        cases ha
      · rw [et]
        exact B7
    · obtain ⟨y1, y2, y3, F', rfl, hz, fH, kH, hMi, newF⟩ := hp
      refine ⟨hz, ?_⟩
      generalize e4' : upd H' hd (.dK kvs) = H4
      have f4 : Fr [hd] H' H4 := by rw [← e4']; exact Fr.mut (List.mem_singleton.mpr rfl) (Fr.refl _ _)
      have k4 : Kp H' H4 := by rw [← e4']; exact Kp.mut (nt_of hz trivial) (Kp.refl _)
      have h4 : H4 hd = some (.dK kvs) := by rw [← e4']; exact upd_same
      have E4 : Ex H H4 := fun a o ha => by
        by_cases z : a = hd
        · rw [z, hk] at ha
          rw [z, h4]
          exact ha
        · exact f4 a o (fH a o ha (by simpa using z)) (by simpa using z)
      have ek : M.held.take kvs.length = M.held := by rw [hlen, List.take_length]
      rw [ek] at hMi
      obtain ⟨dx3, hd3, ml3, ll3, rl3, cs3, eF, B⟩ := hMi
      have hdF : hd ∉ F' := hdn newF
      have B4 := B.keep f4 k4 fun a ha z => hdF (by rw [eF, ← List.mem_singleton.mp z]; exact ha)
      have A4 := A0.ex E4
      walk_at "rd"
      obtain ⟨xl, hle, ile⟩ := A4.le
      refine st_getF A4.ob T.cl_Machine T.na_Machine_left lk_M_left ?_
      walk_at "rd"
      refine st_listL hle fun l2 H5 n5 e5 h5 => ?_
      walk_at "rd"
      have B5 := B4.ex e5
      refine st_setF B5.ob T.cl_Machine T.na_Machine_left len_M fun H6 f6 k6 h6 => ?_
      rw [pt_M_left] at h6
      have nl : ∀ a ∈ p2 :: hd3 :: ml3 :: ll3 :: rl3 :: cs3, l2 ≠ a := fun a ha z => B4.free n5 a ha z.symm
      have B6 := B5.newLeft (left := M.left) nl f6 k6 h6 (fr1 f6 h5 (nl p2 (by simp))) ((ile.ex e5).kp k6)
      have npA : p ≠ p2 := fun z => by
        have h1 := newF p2 (by rw [eF]; simp)
        rw [← z, A0.ob] at h1
        cases h1
      have obA : ∀ {Hx : Hp}, Fr [p2] (H6) Hx → Hx p = some (.ins c.Machine dx (machF ml vo vp hd ll M.at_ M.beats rl M.idle M.nr M.nf)) := fun {Hx} f => fr1 f (fr1 f6 (e5 _ _ A4.ob) npA) npA
      walk_at "rd"
      refine st_getF (obA (Fr.refl _ _)) T.cl_Machine T.na_Machine_at lk_M_at ?_
      walk_at "rd"
      refine st_setF B6.ob T.cl_Machine T.na_Machine_at len_M fun H7 f7 k7 h7 => ?_
      rw [pt_M_at] at h7
      have B7 := B6.mutOb f7 k7 h7
      have g7 : Fr [p2] H6 H7 := f7
      walk_at "rd"
      refine st_getF (obA g7) T.cl_Machine T.na_Machine_beats lk_M_beats ?_
      walk_at "rd"
      refine st_setF B7.ob T.cl_Machine T.na_Machine_beats len_M fun H8 f8 k8 h8 => ?_
      rw [pt_M_beats] at h8
      have B8 := B7.mutOb f8 k8 h8
      have g8 : Fr [p2] H6 H8 := g7.trans f8
      walk_at "rd"
      refine st_getF (obA g8) T.cl_Machine T.na_Machine_idle lk_M_idle ?_
      walk_at "rd"
      refine st_setF B8.ob T.cl_Machine T.na_Machine_idle len_M fun H9 f9 k9 h9 => ?_
      rw [pt_M_idle] at h9
      have B9 := B8.mutOb f9 k9 h9
      have g9 : Fr [p2] H6 H9 := g8.trans f9
      walk_at "rd"
      refine st_getF (obA g9) T.cl_Machine T.na_Machine_many_reads lk_M_many_reads ?_
      walk_at "rd"
      refine st_setF B9.ob T.cl_Machine T.na_Machine_many_reads len_M fun H10 f10 k10 h10 => ?_
      rw [pt_M_reads] at h10
      have B10 := B9.mutOb f10 k10 h10
      have g10 : Fr [p2] H6 H10 := g9.trans f10
      walk_at "rd"
      refine st_getF (obA g10) T.cl_Machine T.na_Machine_many_fetches lk_M_many_fetches ?_
      walk_at "rd"
      refine st_setF B10.ob T.cl_Machine T.na_Machine_many_fetches len_M fun H11 f11 k11 h11 => ?_
      rw [pt_M_fetches] at h11
      have B11 := B10.mutOb f11 k11 h11
      have g11 : Fr [p2] H6 H11 := g10.trans f11
      walk_at "rd"
      have np2 : H p2 = none := newF p2 (by rw [eF]; simp)
      have kp : Kp H H11 := E4.kp.trans (e5.kp.trans (k6.trans (k7.trans (k8.trans (k9.trans (k10.trans k11))))))
      have fr : Fr [] H H11 := fun a o ha _ => by
        have hne : a ≠ p2 := fun z => by
          rw [z, np2] at ha
          cases ha
        exact fr1 g11 (fr1 f6 (e5 _ _ (E4 _ _ ha)) hne) hne
      refine q H11 (p2 :: hd3 :: ml3 :: l2 :: rl3 :: cs3) p2 ⟨dx3, hd3, ml3, l2, rl3, cs3, rfl, ?_⟩ ⟨fr, kp, fun a ha => .inr ?_⟩
      · exact B11
      · by_cases z : a = l2
        · rw [z]
          exact E4.free n5
        · refine newF a ?_
          rw [eF]
          simp only [List.mem_cons] at ha ⊢
          rcases ha with h | h | h | h | h | h <;> first | exact absurd h z | simp [h]
/-! ### Judge.onward -/
theorem sc_Judge_onward : FnScope ["self", "machine", "pace", "rests", "free", "moves"] ["self", "machine", "pace"] (defScope s_Judge_onward) := ⟨rfl, rfl, rfl, by decide +kernel, rfl, by decide +kernel, by decide +kernel⟩
def sp_Judge_onward (CM : Addr) : Sp := fun vs H Q _ => ∃ (j : Addr) (vo vp : V) (p : Addr) (F : List Addr) (M : MS) (b : Bd) (vq : V) (pace : List Bool), vs = [.ref j, .ref p, vq] ∧ Mac CM vo vp p F H M ∧ Std b M ∧ BoardAt H b vo vp ∧ Good b ∧ Im H (.tuple (pace.map .bool)) vq ∧ pace.length ≤ 10000 ∧
  ∀ l H' xs G, Ex H H' → H l = none → H' l = some (.lst xs) → WaysR CM vo vp H' xs (waysOf b M pace) G → (∀ a ∈ G, H a = none) → l ∉ G → Q (.ref l) H'
theorem met_Judge_onward {P w base K mg c} (T : Txt K mg c) : Met CX0 P w K mg base 5 c.Judge "onward" (sp_Judge_onward c.Machine) := by
  obtain ⟨f, fd, F, m⟩ := T.F_Judge_onward
  have m_Machine_copied := met_Machine_copied (P := P) (w := w) (base := base) T
  have m_Machine_process := met_Machine_process (P := P) (w := w) (base := base) T
  have m_Machine_may_rest := met_Machine_may_rest (P := P) (w := w) (base := base) T
  have m_Machine_carry := met_Machine_carry (P := P) (w := w) (base := base) T
  refine met_of T.cl_Judge m F (fun _ _ _ _ _ _ us hl => match us, hl with | [_, _, _], _ => rfl) sc_Judge_onward (fun vs H Q E h => ?_) (fun cdv A outer s H vs Q E hr h => ?_)
  · obtain ⟨j, vo, vp, p, F, M, b, vq, pace, rfl, _⟩ := h
    rfl
  · obtain ⟨j, vo, vp, p, F, M, b, vq, pace, rfl, hM, st, hB, g, hvq, hpl, q⟩ := h
    refine ⟨_, (pss_cons (ps_set (i := 3) sc_Judge_onward.nd rfl (.inl rfl) (pe_mt0 m_Machine_copied hr (by decide) (pv 1)))
      (pss_cons (ps_expr (pe_mt0 m_Machine_process hr (by decide) (pv 3)))
      (pss_cons (ps_set (i := 4) sc_Judge_onward.nd rfl (.inl rfl) (pe_mt0 m_Machine_may_rest hr (by decide) (pv 3)))
      (pss_cons (ps_set (i := 5) sc_Judge_onward.nd rfl (.inl rfl) (pe_mt0 m_Machine_copied hr (by decide) (pv 1)))
      (pss_cons (ps_expr (pe_mt0 m_Machine_process hr (by decide) (pv 5)))
      (pss_cons (ps_expr (pe_mt0 m_Machine_carry hr (by decide) (pv 5)))
      (pss_cons (ps_fldaug (pv 5) pe_int in_add)
      (pss_cons (ps_fldaug (pv 3) pe_int in_add)
      (pss_cons (ps_if (pt_val (pv 4)) (pss_one (ps_ret (pe_lst (pa_cons (pe_tup (pa_cons (pv 3) (pa_cons (pe_op op_catA (pv 2) (pe_tup (pa_cons pe_bl pa_nil))) pa_nil))) (pa_cons (pe_tup (pa_cons (pv 5) (pa_cons (pe_op op_catA (pv 2) (pe_tup (pa_cons pe_bl pa_nil))) pa_nil))) pa_nil))))) pss_nil)
      (pss_one (ps_ret (pe_lst (pa_cons (pe_tup (pa_cons (pv 5) (pa_cons (pv 2) pa_nil))) pa_nil))))))))))))), ?_⟩
    have ok := st.pl.ok
    have n4 := g.four
    have gl := g.lines
    have hrows := st.rows
    have hleft : M.left.length ≤ 1920 := by
      have h1 := congrArg List.length st.pl.lf
      have h2 := take_le_len (startMoves b.ords) b.prog M.at_
      have h3 := moves_all g
      rw [List.length_drop] at h1
      unfold allMoves at h1
      omega
    have callP : ∀ {p : Addr} {F : List Addr} {H : Hp} {M : MS}, Mac c.Machine vo vp p F H M → ∃ dx hd ml ll rl, H p = some (.ins c.Machine dx (machF ml vo vp hd ll M.at_ M.beats rl M.idle M.nr M.nf)) := fun {p F H M} h => by
      obtain ⟨dx, hd, ml, ll, rl, cs, rfl, A⟩ := h
      exact ⟨dx, hd, ml, ll, rl, A.ob⟩
    obtain ⟨dx0, hd0, ml0, ll0, rl0, ob0⟩ := callP hM
    walk_at "rd"
    refine st_callM ob0 no_M_copied ?_
    walk_at "rd"
    refine ⟨vo, vp, p, F, M, b.mem.length, rfl, hM, ok, by omega, fun H1 F1 p1 hM1 c1 => ?_⟩
    rw [bare_same hrows] at hM1
    have E1 := c1.fresh
    obtain ⟨dx1, hd1, ml1, ll1, rl1, ob1⟩ := callP hM1
    walk_at "rd"
    refine st_callM ob1 no_M_process ?_
    walk_at "rd"
    refine ⟨vo, vp, p1, F1, M, b, rfl, hM1, hB.kp E1.kp, g, ok, by rw [hrows]; simp, by omega, fun H2 F2 hM2 c2 => ?_⟩
    have ok2 := ok.process g
    obtain ⟨pg1, pg2, pg3, pg4, pg5, pg6⟩ := process_grew (M := M) g
    have pr : (M.process b).rows.length ≤ 6 := by rw [hrows] at pg2; simpa using pg2
    have new1 : ∀ a ∈ F1, H a = none := fun a ha => (c1.own a ha).elim (fun z => by cases z) id
    obtain ⟨E2, new2⟩ := c2.news E1 new1
    obtain ⟨dx2, hd2, ml2, ll2, rl2, ob2⟩ := callP hM2
    walk_at "rd"
    refine st_callM ob2 no_M_may_rest ?_
    walk_at "rd"
    refine ⟨vo, vp, p1, F2, _, rfl, hM2, fun H3 e3 => ?_⟩
    have E3 := E2.trans e3
    have hM3 := hM.ex E3
    have hR3 := hM2.ex e3
    obtain ⟨dx3, hd3, ml3, ll3, rl3, ob3⟩ := callP hM3
    walk_at "rd"
    refine st_callM ob3 no_M_copied ?_
    walk_at "rd"
    refine ⟨vo, vp, p, F, M, b.mem.length, rfl, hM3, ok, by omega, fun H4 F4 p4 hM4 c4 => ?_⟩
    rw [bare_same hrows] at hM4
    have E4 := c4.fresh
    have new4 : ∀ a ∈ F4, H3 a = none := fun a ha => (c4.own a ha).elim (fun z => by cases z) id
    obtain ⟨dx4, hd4, ml4, ll4, rl4, ob4⟩ := callP hM4
    walk_at "rd"
    refine st_callM ob4 no_M_process ?_
    walk_at "rd"
    refine ⟨vo, vp, p4, F4, M, b, rfl, hM4, hB.kp (E3.trans E4).kp, g, ok, by rw [hrows]; simp, by omega, fun H5 F5 hM5 c5 => ?_⟩
    obtain ⟨E5, new5⟩ := c5.news E4 new4
    obtain ⟨dx5, hd5, ml5, ll5, rl5, ob5⟩ := callP hM5
    walk_at "rd"
    refine st_callM ob5 no_M_carry ?_
    walk_at "rd"
    refine ⟨vo, vp, p4, F5, _, b.mem.length, rfl, hM5, ok2, by omega, fun H6 F6 hM6 c6 => ?_⟩
    obtain ⟨E6, new6⟩ := c6.news E5 new5
    have hM6' := hM6
    obtain ⟨dx6, hd6, ml6, ll6, rl6, cs6, eF6, A6⟩ := hM6
    walk_at "rd"
    refine st_augF A6.ob T.cl_Machine T.na_Machine_beats lk_M_beats len_M fun H7 f7 k7 h7 => ?_
    rw [pt_M_beats'] at h7
    have A7 := A6.mutOb f7 k7 h7
    have p4n : H3 p4 = none := new6 p4 (by rw [eF6]; simp)
    have E7 : Ex H3 H7 := Fr.ex E6 (fun a ha => by rw [List.mem_singleton.mp ha]; exact p4n) f7
    have hM7 : Mac c.Machine vo vp p4 F6 H7 (nextOf b M true).tick := ⟨dx6, hd6, ml6, ll6, rl6, cs6, eF6, A7⟩
    have hR7 := hR3.ex E7
    obtain ⟨dx8, hd8, ml8, ll8, rl8, cs8, eF8, A8⟩ := hR7
    walk_at "rd"
    refine st_augF A8.ob T.cl_Machine T.na_Machine_beats lk_M_beats len_M fun H8 f8 k8 h8 => ?_
    rw [pt_M_beats'] at h8
    have B8 := A8.mutOb f8 k8 h8
    have hR8 : Mac c.Machine vo vp p1 F2 H8 (nextOf b M false).tick := ⟨dx8, hd8, ml8, ll8, rl8, cs8, eF8, B8⟩
    have p1F : p1 ∈ F2 := by rw [eF8]; simp
    have E8 : Ex H H8 := Fr.ex (E3.trans E7) (fun a ha => by rw [List.mem_singleton.mp ha]; exact new2 p1 p1F) f8
    have ap : ∀ a ∈ F2, a ∉ F6 := apart_of hR3.there new6
    have hM8 : Mac c.Machine vo vp p4 F6 H8 (nextOf b M true).tick := hM7.keep f8 k8 fun a ha z => ap p1 p1F (by rw [← List.mem_singleton.mp z]; exact ha)
    have n6 : ∀ a ∈ F6, H a = none := fun a ha => E3.free (new6 a ha)
    have hpv8 := hvq.ex E8
    have plen : (pace.map PyData.bool).length ≤ 10000 := by rw [List.length_map]; exact hpl
    walk_at "rd"
    cases hmr : (M.process b).mayRest with
    | true =>
      have ew : waysOf b M pace = [((nextOf b M false).tick, pace ++ [false]), ((nextOf b M true).tick, pace ++ [true])] := by
        unfold waysOf paceOf
        rw [if_pos hmr, if_pos hmr, if_pos hmr]
      walk_at "rd"
      refine st_newT (by simp) fun t1 H9 n9 e9 h9 => ?_
      refine st_catT hpv8 e9.kp (im_tup (ds := [.bool false]) h9 (iml_cons im_bl iml_nil)) (Kp.refl _) (by simp; omega) fun v1 H10 e10 i10 => ?_
      walk_at "rd"
      refine st_newT (by simp) fun t2 H11 n11 e11 h11 => ?_
      walk_at "rd"
      refine st_newT (by simp) fun t3 H12 n12 e12 h12 => ?_
      refine st_catT hpv8 (e9.trans (e10.trans (e11.trans e12))).kp (im_tup (ds := [.bool true]) h12 (iml_cons im_bl iml_nil)) (Kp.refl _) (by simp; omega) fun v2 H13 e13 i13 => ?_
      walk_at "rd"
      refine st_newT (by simp) fun t4 H14 n14 e14 h14 => ?_
      walk_at "rd"
      refine st_newL (by simp) fun l H15 n15 e15 h15 => ?_
      have E14 : Ex H8 H14 := e9.trans (e10.trans (e11.trans (e12.trans (e13.trans e14))))
      have E15 : Ex H8 H15 := E14.trans e15
      have i1 : Im H15 (.tuple ((pace ++ [false]).map .bool)) v1 := by
        rw [List.map_append]
        exact i10.ex (e11.trans (e12.trans (e13.trans (e14.trans e15))))
      have i2 : Im H15 (.tuple ((pace ++ [true]).map .bool)) v2 := by
        rw [List.map_append]
        exact i13.ex (e14.trans e15)
      have nl : l ∉ F2 ++ (F6 ++ []) := fun z => by
        rw [List.append_nil] at z
        rcases List.mem_append.mp z with z | z
        · obtain ⟨o, ho⟩ := (hR8.ex E14).there l z
          rw [n15] at ho
          cases ho
        · obtain ⟨o, ho⟩ := (hM8.ex E14).there l z
          rw [n15] at ho
          cases ho
      refine q l H15 _ (F2 ++ (F6 ++ [])) (E8.trans E15) ((E8.trans E14).free n15) h15 ?_ (fun a ha => ?_) nl
      · rw [ew]
        exact .cons ((e12.trans (e13.trans (e14.trans e15))) _ _ h11) (hR8.ex E15) i1 (fun a ha => by rw [List.append_nil]; exact ap a ha) (.cons (e15 _ _ h14) (hM8.ex E15) i2 (by simp) .nil)
      · rw [List.append_nil] at ha
        rcases List.mem_append.mp ha with z | z
        · exact new2 a z
        · exact n6 a z
    | false =>
      have ew : waysOf b M pace = [((nextOf b M true).tick, pace)] := by
        unfold waysOf paceOf
        rw [if_neg (by rw [hmr]; simp), if_neg (by rw [hmr]; simp), List.append_nil]
      walk_at "rd"
      refine st_newT (by simp) fun t4 H14 n14 e14 h14 => ?_
      walk_at "rd"
      refine st_newL (by simp) fun l H15 n15 e15 h15 => ?_
      have E15 : Ex H8 H15 := e14.trans e15
      have nl : l ∉ F6 ++ [] := fun z => by
        rw [List.append_nil] at z
        obtain ⟨o, ho⟩ := (hM8.ex e14).there l z
        rw [n15] at ho
        cases ho
      refine q l H15 _ (F6 ++ []) (E8.trans E15) ((E8.trans e14).free n15) h15 ?_ (fun a ha => ?_) nl
      · rw [ew]
        exact .cons (e15 _ _ h14) (hM8.ex E15) (hpv8.ex E15) (by simp) .nil
      · rw [List.append_nil] at ha
        exact n6 a ha
/-! ### Judge.torn -/
theorem sc_Judge_torn : FnScope ["self", "first", "waiting", "machine", "pace", "other", "longer"] ["self"] (defScope s_Judge_torn) := ⟨rfl, rfl, rfl, by decide +kernel, rfl, by decide +kernel, by decide +kernel⟩
def sp_Judge_torn (P : Program) (w : World) (CJ CP : Addr) : Sp := fun vs H Q _ => ∃ (j md : Addr) (js : List Addr) (vb : V) (b : Bd), vs = [.ref j] ∧ JAt P w CJ CP H j md js vb b [] ∧ Good b ∧ Few b 16000000 ∧
  (¬ Bad b (MS.init b) → ∀ H', Fr [md] H H' → Kp H H' → Q .non H') ∧ (∀ pace l H', amissOf b pace ≠ [] → pace.length ≤ 1980 → Fr [md] H H' → Kp H H' → H l = none → H' l = some (.lst (pace.map V.bl)) → Q (.ref l) H')
theorem met_Judge_torn {P w base K mg c} (T : Txt K mg c) : Met CX0 P w K mg base 6 c.Judge "torn" (sp_Judge_torn P w c.Judge c.Plain) := by
  obtain ⟨f, fd, F, m⟩ := T.F_Judge_torn
  have k_Machine := mak_Machine (P := P) (w := w) (base := base) T
  have m_Machine_is_over := met_Machine_is_over (P := P) (w := w) (base := base) T
  have m_Machine_finish := met_Machine_finish (P := P) (w := w) (base := base) T
  have m_Machine_key := met_Machine_key (P := P) (w := w) (base := base) T
  have m_Judge_onward := met_Judge_onward (P := P) (w := w) (base := base) T
  have m_Judge_is_amiss := met_Judge_is_amiss (P := P) (w := w) (base := base) T
  refine met_of T.cl_Judge m F (fun _ _ _ _ _ _ us hl => match us, hl with | [_], _ => rfl) sc_Judge_torn (fun vs H Q E h => ?_) (fun cdv A outer s H vs Q E hr h => ?_)
  · obtain ⟨j, md, js, vb, b, rfl, _⟩ := h
    rfl
  · obtain ⟨j, md, js, vb, b, rfl, hJ, g, few, qn, qt⟩ := h
    refine ⟨_, (pss_cons (ps_set (i := 1) sc_Judge_torn.nd rfl (.inl rfl) (pe_mk k_Machine hr (by decide) (by rfl) (pa_cons (pe_fld (pv 0) rfl) pa_nil)))
      (pss_cons (ps_set (i := 2) sc_Judge_torn.nd rfl (.inl rfl) (pe_lst (pa_cons (pe_tup (pa_cons (pv 1) (pa_cons (pe_tup pa_nil) pa_nil))) pa_nil)))
      (pss_cons (ps_while PassesOwn.never (pt_cmpR (op_neE (u1 hr)) (pv 2) (pe_lst pa_nil) (nomark _))
      (pss_cons (ps_asg (pe_bm0 PySem.F.plainAttrs_list PySem.F.slot_list_pop PySem.F.type_list_pop mt_pop (pv 2)) (pg_tup (n := 2) rfl (pgs_cons (pg_name (i := 3) sc_Judge_torn.nd rfl (.inl rfl)) (pgs_cons (pg_name (i := 4) sc_Judge_torn.nd rfl (.inl rfl)) pgs_nil))))
      (pss_one (ps_if (pt_val (pe_mt0 m_Machine_is_over hr (by decide) (pv 3))) (pss_cons (ps_expr (pe_mt0 m_Machine_finish hr (by decide) (pv 3)))
      (pss_one (ps_if (pt_cmpR (op_neD hr.units) (pe_fld (pv 3) rfl) (pe_fld (pe_fld (pv 0) rfl) rfl) (nomark _)) (pss_one (ps_ret (pe_callTy c_list (by rfl) T.list (by decide +kernel) (pa_cons (pv 4) pa_nil)))) pss_nil))) (pss_one (ps_for PassesOwn.never rfl (pi_list (pe_mt m_Judge_onward hr (by decide) (pv 0) (pa_cons (pv 3) (pa_cons (pv 4) pa_nil)))) (pg_tup (n := 2) rfl (pgs_cons (pg_name (i := 5) sc_Judge_torn.nd rfl (.inl rfl)) (pgs_cons (pg_name (i := 6) sc_Judge_torn.nd rfl (.inl rfl)) pgs_nil)))
      (pss_cons (ps_if (pt_val (pe_mt m_Judge_is_amiss hr (by decide) (pv 0) (pa_cons (pv 5) pa_nil))) (pss_one (ps_ret (pe_callTy c_list (by rfl) T.list (by decide +kernel) (pa_cons (pv 6) pa_nil)))) pss_nil)
      (pss_one (ps_if (pt_cmp (pc_nnot (u20 hr) (pe_mt0 m_Machine_key hr (by decide) (pv 5)) (pe_fld (pv 0) rfl))) (pss_cons (ps_nput (u20 hr) (pe_fld (pv 0) rfl) (pe_mt0 m_Machine_key hr (by decide) (pv 5)) pe_bl rfl)
      (pss_one (ps_expr (pe_bm PySem.F.plainAttrs_list PySem.F.slot_list_append PySem.F.type_list_append mt_append (pv 2) (pa_cons (pe_tup (pa_cons (pv 5) (pa_cons (pv 6) pa_nil))) pa_nil))))) pss_nil)))))))))
      (pss_one (ps_ret pe_non))))), ?_⟩
    have n4 := g.four
    have gl := g.lines
    have callJ : ∀ {H' : Hp} {met : List KeyD}, JAt P w c.Judge c.Plain H' j md js vb b met → ∃ dx ap, H' j = some (.ins c.Judge dx (judgeF vb ap md)) ∧ ∃ pdx ml rl fl sl, js = [j, ap, ml, rl, fl, sl] ∧ PlainAt c.Plain H' ap pdx ml rl fl sl (plainOf b) := fun {H' met} h => h.ob
    have callP : ∀ {p : Addr} {F : List Addr} {H : Hp} {vo vp : V} {M : MS}, Mac c.Machine vo vp p F H M → ∃ dx hd ml ll rl, H p = some (.ins c.Machine dx (machF ml vo vp hd ll M.at_ M.beats rl M.idle M.nr M.nf)) ∧ H ml = some (.lst (M.mem.map V.int)) := fun {p F H vo vp M} h => by
      obtain ⟨dx, hd, ml, ll, rl, cs, rfl, A⟩ := h
      exact ⟨dx, hd, ml, ll, rl, A.ob, A.me⟩
    obtain ⟨jdx, ap, ob0, _⟩ := callJ hJ
    obtain ⟨vo, vp, hP, hB⟩ := hJ.bd.parts
    have old : ∀ a ∈ md :: js, ∃ o, H a = some o := hJ.there
    have oldn : ∀ {a}, H a = none → a ∉ md :: js := fun {a} h z => by
      obtain ⟨o, ho⟩ := old a z
      rw [h] at ho
      cases ho
    walk_at "rd"
    refine st_getF ob0 T.cl_Judge T.na_Judge_board lk_J_board ?_
    walk_at "rd"
    refine st_makeC fun p0 dx0 H1 np0 e1 hp0 => ?_
    refine ⟨p0, dx0, vb, vo, vp, b.mem, rfl, hp0, ?_, fun H2 F2 hM2 c2 => ⟨rfl, ?_⟩⟩
    · obtain ⟨ax, am, rfl, h1, h2⟩ := hP
      exact ⟨ax, am, rfl, e1 _ _ h1, h2.imp (e1 _ _) (e1 _ _)⟩
    obtain ⟨E2, new2⟩ := c2.news e1 fun a ha => by rw [List.mem_singleton.mp ha]; exact np0
    walk_at "rd"
    refine st_newT (by simp) fun te H3 n3 e3 h3 => ?_
    walk_at "rd"
    refine st_newT (by simp) fun t0 H4 n4' e4 h4 => ?_
    walk_at "rd"
    refine st_newL (by simp) fun wl H5 n5 e5 h5 => ?_
    walk_at "rd"
    have E34 := E2.trans (e3.trans e4)
    have E5 : Ex H H5 := E34.trans e5
    have nwl : H wl = none := E34.free n5
    have wlj : wl ∉ md :: js := oldn nwl
    have hM5 := hM2.ex (e3.trans (e4.trans e5))
    have wlF : wl ∉ F2 := fun z => by
      obtain ⟨o, ho⟩ := (hM2.ex (e3.trans e4)).there wl z
      rw [n5] at ho
      cases ho
    have I5 : TornI P w c.Judge c.Plain c.Machine H j md wl js vb vo vp b H5 [.ref t0] [(MS.init b, [])] (F2 ++ []) [] (fun _ => False) none := by
      refine ⟨hJ.ex E5, h5, .cons (e5 _ _ h4) hM5 (im_tup (ds := []) ((e4.trans e5) _ _ h3) iml_nil) (by simp) .nil, by simpa using new2, by simpa using wlF, E5.fr, E5.kp, ?_, fun x hx => ?_, by simp⟩
      · refine (Srch.start b).iff (fun S => ?_) (fun S => Iff.rfl)
        simp
      · rw [List.mem_singleton] at hx
        rw [hx]
        exact Way.init g
    refine ⟨fun m σ H' => ∃ y3 y4 y5 y6 xs ws G met Pd, σ = [some (.ref j), some (.ref p0), some (.ref wl), y3, y4, y5, y6] ∧ TornI P w c.Judge c.Plain c.Machine H j md wl js vb vo vp b H' xs ws G met Pd none ∧ m = tornM met xs,
      ⟨_, _, _, _, _, _, _, _, _, _, rfl, I5, rfl⟩, fun m σ H' hW => ?_⟩
    obtain ⟨y3, y4, y5, y6, xs, ws, G, met, Pd, rfl, I, rfl⟩ := hW
    walk_at "rd"
    refine st_newL (by simp) fun el H6 n6 e6 h6 => ?_
    have I6 := I.ex e6
    refine st_neE I6.hwl h6 ?_
    walk_at "rd"
    cases hxs : xs with
    | nil =>
      refine st_NT ?_
      walk_at "rd"
      have hws : ws = [] := by
        have := I6.hws.len
        rw [hxs] at this
        exact List.length_eq_zero_iff.mp this.symm
      refine qn (Srch.sure (A := Pd) (met := met) g (I6.sr.iff (fun S => ?_) (fun S => Iff.rfl))) H6 I6.fr I6.kp
      rw [hws]
      simp
    | cons x0 xr =>
      refine st_NF ?_
      have hne : xs ≠ [] := by rw [hxs]; simp
      rw [← hxs]
      clear hxs
      obtain ⟨xs', ws', t, p, vq, F, G', M, pace, rfl, rfl, ht, hM, hvq, hws, hap, hG⟩ := I6.hws.last hne
      have hsr := I6.sr
      have hA : (Pd M ∨ ∃ q, (M, q) ∈ ws' ++ [(M, pace)]) ∨ none = some M := .inl (.inr ⟨pace, by simp⟩)
      obtain ⟨hstd, hreach⟩ := hsr.std M hA
      have hway : Way b pace M := I6.way (M, pace) (by simp)
      have hlenm : met.length ≤ 16000000 := hsr.few few
      have hlen := I6.len
      have newF : ∀ a ∈ F, H a = none := fun a ha => I6.new a ((hG a).mpr (.inr ha))
      have newG' : ∀ a ∈ G', H a = none := fun a ha => I6.new a ((hG a).mpr (.inl ha))
      have wlF' : wl ∉ F := fun z => I6.nw ((hG wl).mpr (.inr z))
      have wlG' : wl ∉ G' := fun z => I6.nw ((hG wl).mpr (.inl z))
      -- the measure
      have hml : xs'.length + 1 ≤ met.length + 1 := by simpa using hlen
      refine ⟨fun σ H' => ∃ y3 y4 y5 y6 xs2 ws2 G2 met2 Pd2, σ = [some (.ref j), some (.ref p0), some (.ref wl), y3, y4, y5, y6] ∧ TornI P w c.Judge c.Plain c.Machine H j md wl js vb vo vp b H' xs2 ws2 G2 met2 Pd2 none ∧ tornM met2 xs2 < tornM met (xs' ++ [.ref t]),
        fun σ' H' ⟨y3, y4, y5, y6, xs2, ws2, G2, met2, Pd2, h1, h2, h3⟩ => ⟨_, h3, y3, y4, y5, y6, xs2, ws2, G2, met2, Pd2, h1, h2, rfl⟩, ?_⟩
      walk_at "rd"
      refine tyL I6.hwl ?_
      walk_at "rd"
      refine st_popLast I6.hwl fun H7 f7 k7 h7 => ?_
      refine st_gtup' (k7 _ _ ht) rfl ?_
      walk_at "rd"
      have I7 : TornI P w c.Judge c.Plain c.Machine H j md wl js vb vo vp b H7 xs' ws' G' met Pd (some M) := by
        refine ⟨I6.J.keep f7 k7 fun a ha z => wlj (by rw [← List.mem_singleton.mp z]; exact ha), h7, hws.keep f7 k7 fun a ha z => wlG' (by rw [← List.mem_singleton.mp z]; exact ha), newG', wlG', I6.fr.but f7 fun a ha => .inr (by rw [List.mem_singleton.mp ha]; exact nwl), I6.kp.trans k7, ?_, fun x hx => I6.way x (by simp [hx]), by simpa using hlen⟩
        refine hsr.iff (fun S => ?_) (fun S => Iff.rfl)
        constructor
        · rintro ((h | ⟨q, hq⟩) | h)
          · exact .inl (.inl h)
          · rcases List.mem_append.mp hq with hq | hq
            · exact .inl (.inr ⟨q, hq⟩)
            · rw [List.mem_singleton, Prod.mk.injEq] at hq
              exact .inr (by rw [hq.1])
          · cases h
        · rintro ((h | ⟨q, hq⟩) | h)
          · exact .inl (.inl h)
          · exact .inl (.inr ⟨q, by simp [hq]⟩)
          · cases h
            exact .inl (.inr ⟨pace, by simp⟩)
      have hM7 : Mac c.Machine vo vp p F H7 M := hM.keep f7 k7 fun a ha z => wlF' (by rw [← List.mem_singleton.mp z]; exact ha)
      have hvq7 := hvq.kp k7
      have hap7 : ∀ a ∈ F, a ∉ md :: js := fun a ha => oldn (newF a ha)
      obtain ⟨dxp, hdp, mlp, llp, rlp, obp, _⟩ := callP hM7
      refine st_callM obp no_M_is_over ?_
      walk_at "rd"
      refine ⟨vo, vp, p, F, M, b, rfl, hM7, hB.kp I7.kp, fun H8 e8 => ?_⟩
      have I8 := I7.ex e8
      have hM8 := hM7.ex e8
      have hvq8 := hvq7.ex e8
      have ok := hstd.pl.ok
      have hrows := hstd.rows
      walk_at "rd"
      cases ho : M.over b with
      | true =>
        walk_at "rd"
        obtain ⟨dxp, hdp, mlp, llp, rlp, obp, _⟩ := callP hM8
        refine st_callM obp no_M_finish ?_
        walk_at "rd"
        refine ⟨vo, vp, p, F, M, b.mem.length, rfl, hM8, ok, n4, gl.2, by rw [hrows]; simp, fun H9 F9 hM9 c9 => ?_⟩
        have I9 := I8.keep c9.fr c9.kp newF wlF' (fun a ha z => hap a ha z) (fun a ha z => hap7 a z ha)
        obtain ⟨dxp, hdp, mlp, llp, rlp, obp, mep⟩ := callP hM9
        obtain ⟨jdx, ap9, ob9, pdx, pml, prl, pfl, psl, _, S9⟩ := callJ I9.J
        walk_at "rd"
        refine st_getF obp T.cl_Machine T.na_Machine_memory lk_M_memory ?_
        walk_at "rd"
        refine st_getF ob9 T.cl_Judge T.na_Judge_aim lk_J_aim ?_
        refine st_getF S9.ob T.cl_Plain T.na_Plain_memory lk_plain_memory ?_
        refine st_neMem mep S9.me ?_
        walk_at "rd"
        refine st_ND (fun hne => ?_) (fun heq => ?_)
        · walk_at "rd"
          refine st_listT hvq8 c9.kp fun l xl H10 n10 e10 hxl h10 => ?_
          rw [bls_iml hxl] at h10
          have I10 := I9.ex e10
          refine qt pace l H10 (hway.fin g ho hne) hway.len I10.fr I10.kp ?_ h10
          cases e : H l with
          | none => rfl
          | some o =>
            by_cases z : l = md
            · have := I9.J.there md (by simp)
              rw [← z, n10] at this
              obtain ⟨_, h⟩ := this
              cases h
            · rw [fr1 I9.fr e z] at n10
              cases n10
        · walk_at "rd"
          refine ⟨_, _, _, _, xs', ws', G', met, fun S => Pd S ∨ S = M, rfl, ⟨I9.J, I9.hwl, I9.hws, I9.new, I9.nw, I9.fr, I9.kp, ?_, I9.way, by simp; omega⟩, ?_⟩
          · refine (I9.sr.pop (S := M) (.inr rfl) (fun _ => heq) (fun h => by rw [ho] at h; cases h)).iff (fun S => ?_) (fun S => Iff.rfl)
            constructor
            · rintro ((h | h) | h)
              · exact .inl (.inl (.inl h))
              · exact .inl (.inr h)
              · cases h
                exact .inl (.inl (.inr rfl))
            · rintro (((h | h) | h) | h)
              · exact .inl (.inl h)
              · exact .inr (by rw [h])
              · exact .inl (.inr h)
              · cases h
          · unfold tornM
            simp
      | false =>
        walk_at "rd"
        obtain ⟨jdx, ap8, ob8, _⟩ := callJ I8.J
        refine st_callM ob8 no_J_onward ?_
        walk_at "rd"
        refine ⟨j, vo, vp, p, F, M, b, vq, pace, rfl, hM8, hstd, hB.kp I8.kp, g, hvq8, by have := hway.len; omega, fun ol H9 ys G9 e9 nol hol hways new9 olG => ?_⟩
        have I9 := I8.ex e9
        have olH : H ol = none := by
          cases e : H ol with
          | none => rfl
          | some o =>
            by_cases z : ol = md
            · obtain ⟨o', h⟩ := I8.J.there md (by simp)
              rw [← z, nol] at h
              cases h
            · rw [fr1 I8.fr e z] at nol
              cases nol
        have new9H : ∀ a ∈ G9, H a = none := fun a ha => by
          cases e : H a with
          | none => rfl
          | some o =>
            by_cases z : a = md
            · obtain ⟨o', h⟩ := I8.J.there md (by simp)
              rw [← z, new9 a ha] at h
              cases h
            · have h := fr1 I8.fr e z
              rw [new9 a ha] at h
              cases h
        have olwl : ol ≠ wl := fun z => by
          rw [z, I8.hwl] at nol
          cases nol
        have G9G' : ∀ a ∈ G9, a ∉ G' := fun a ha z => by
          obtain ⟨o, h⟩ := I8.hws.there a z
          rw [new9 a ha] at h
          cases h
        have wl9 : wl ∉ G9 := fun z => by
          have := new9 wl z
          rw [I8.hwl] at this
          cases this
        have ol8 : ∀ a ∈ G', a ≠ ol := fun a ha z => by
          obtain ⟨o, h⟩ := I8.hws.there a ha
          rw [z, nol] at h
          cases h
        refine st_walkL hol (fun i σ H' => ∃ y5 y6 xs2 ws2 G2 Gr met2, σ = [some (.ref j), some (.ref p0), some (.ref wl), some (.ref p), some vq, y5, y6] ∧ TornI P w c.Judge c.Plain c.Machine H j md wl js vb vo vp b H' xs2 ws2 G2 met2 Pd (some M) ∧
            H' ol = some (.lst ys) ∧ WaysR c.Machine vo vp H' (ys.drop i) ((waysOf b M pace).drop i) Gr ∧ (∀ a ∈ Gr, a ∈ G9) ∧ (∀ a ∈ G2, a ∉ Gr ∧ a ≠ ol) ∧ (∀ x ∈ (waysOf b M pace).take i, ∃ N, after (plainOf b) x.1 = some N ∧ keyOf N ∈ met2) ∧
            met.length ≤ met2.length ∧ xs2.length + met.length = xs'.length + met2.length)
          ⟨_, _, xs', ws', G', G9, met, rfl, I9, hol, hways, fun a ha => ha, fun a ha => ⟨fun z => G9G' a z ha, ol8 a ha⟩, by simp, Nat.le_refl _, rfl⟩ (fun i σ H' hp => ?_) (fun i v σ H' hv hp => ?_) (fun σ H' hp => ?_)
        · obtain ⟨_, _, _, _, _, _, _, _, _, h, _⟩ := hp
          exact h
        · obtain ⟨y5, y6, xs2, ws2, G2, Gr, met2, rfl, I2, hol2, hw2, hGr, hG2, hdone, hm1, hm2⟩ := hp
          have hi : i < ys.length := (List.getElem?_eq_some_iff.mp hv).1
          have ev : ys[i] = v := (List.getElem?_eq_some_iff.mp hv).2
          have hiw : i < (waysOf b M pace).length := by rw [← hways.len]; exact hi
          rw [List.drop_eq_getElem_cons hi, List.drop_eq_getElem_cons hiw, ev] at hw2
          have hmem := List.getElem_mem hiw
          have htake : (waysOf b M pace).take (i + 1) = (waysOf b M pace).take i ++ [(waysOf b M pace)[i]] := by rw [List.take_add_one, List.getElem?_eq_getElem hiw]; rfl
          generalize (waysOf b M pace)[i] = ww at hw2 hmem htake
          obtain ⟨mv, hmay, rfl⟩ := ways_may ww hmem
          generalize hrest : ys.drop (i + 1) = yr at hw2
          generalize hrw : (waysOf b M pace).drop (i + 1) = wr at hw2
          cases hw2 with
          | @cons tt pc pvc Fc Gc _ _ _ _ hc1 hc2 hc3 hc4 hc5 =>
          have inF : ∀ a ∈ Fc, a ∈ G9 := fun a ha => hGr a (List.mem_append_left _ ha)
          have inG : ∀ a ∈ Gc, a ∈ G9 := fun a ha => hGr a (List.mem_append_right _ ha)
          have fcH : ∀ a ∈ Fc, H a = none := fun a ha => new9H a (inF a ha)
          have plN : Pl b (nextOf b M mv).tick := (hstd.pl.next g mv).tick
          walk_at "rd"
          refine st_gtup' hc1 rfl ?_
          walk_at "rd"
          obtain ⟨jdx, ap2, ob2, _⟩ := callJ I2.J
          refine st_callM ob2 no_J_is_amiss ?_
          walk_at "rd"
          refine ⟨j, md, js, vb, b, met2, vo, vp, pc, Fc, _, rfl, I2.J, hc2, plN, fun a ha z => oldn (fcH a z) ha, fun hno H10 F10 c10 => ?_, fun N hsome H10 F10 hM10 c10 => ?_⟩
          · -- it is amiss
            walk_at "rd"
            have hno' := (Eqv.tick (nextOf b M mv)).symm.after_none hno
            have I10 := I2.keep c10.fr c10.kp fcH (fun z => wl9 (inF wl z)) (fun a ha z => (hG2 a ha).1 (List.mem_append_left _ z)) (fun a ha z => oldn (fcH a z) ha)
            refine st_listT hc3 c10.kp fun l xl H11 n11 e11 hxl h11 => ?_
            rw [bls_iml hxl] at h11
            have I11 := I10.ex e11
            obtain ⟨a1, a2⟩ := hway.see g ho hmay hno'
            refine qt _ l H11 a1 a2 I11.fr I11.kp ?_ h11
            cases e : H l with
            | none => rfl
            | some o =>
              by_cases z : l = md
              · obtain ⟨o', h⟩ := I10.J.there md (by simp)
                rw [← z, n11] at h
                cases h
              · rw [fr1 I10.fr e z] at n11
                cases n11
          · -- it is not
            have I10 := I2.keep c10.fr c10.kp fcH (fun z => wl9 (inF wl z)) (fun a ha z => (hG2 a ha).1 (List.mem_append_left _ z)) (fun a ha z => oldn (fcH a z) ha)
            obtain ⟨N1, hN1, hE1⟩ := (Eqv.tick (nextOf b M mv)).symm.after_some hsome
            have stdN : Std b N := plN.after hsome
            have reachN : Reach b N := .next hreach ho hmay hN1 hE1.symm
            have wayN : Way b (pace ++ paceOf b M mv) N := (hway.next g ho hmay hN1).eqv hE1.symm
            have hol10 : H10 ol = some (.lst ys) := c10.fr _ _ hol2 fun z => olG (inF ol z)
            have hc510 : WaysR c.Machine vo vp H10 yr wr Gc := hc5.keep c10.fr c10.kp fun a ha z => hc4 a z ha
            have hc310 := hc3.kp c10.kp
            have f10G : ∀ a ∈ F10, a ∈ Fc ∨ (∀ o, H' a ≠ some o) := fun a ha => (c10.own a ha).imp id fun z o h => by rw [z] at h; cases h
            have f10H : ∀ a ∈ F10, H a = none := fun a ha => (c10.own a ha).elim (fcH a) fun z => by
              cases e : H a with
              | none => rfl
              | some o =>
                by_cases zz : a = md
                · obtain ⟨o', h⟩ := I2.J.there md (by simp)
                  rw [← zz, z] at h
                  cases h
                · rw [fr1 I2.fr e zz] at z
                  cases z
            have f10G2 : ∀ a ∈ G2, a ∉ F10 := fun a ha z => by
              rcases f10G a z with z | z
              · exact (hG2 a ha).1 (List.mem_append_left _ z)
              · obtain ⟨o, h⟩ := I2.hws.there a ha
                exact z o h
            have f10Gc : ∀ a ∈ F10, a ∉ Gc := fun a ha z => by
              rcases f10G a ha with y | y
              · exact hc4 a y z
              · obtain ⟨o, h⟩ := hc5.there a z
                exact y o h
            have f10wl : wl ∉ F10 := fun z => by
              rcases f10G wl z with y | y
              · exact wl9 (inF wl y)
              · exact y _ I2.hwl
            have f10ol : ol ∉ F10 := fun z => by
              rcases f10G ol z with y | y
              · exact olG (inF ol y)
              · exact y _ hol2
            obtain ⟨dxn, hdn, mln, lln, rln, obn, _⟩ := callP hM10
            walk_at "rd"
            refine st_callM obn no_M_key ?_
            walk_at "rd"
            refine ⟨vo, vp, pc, F10, N, b.mem.length, rfl, hM10, stdN.pl.ok, gl.2, fun ka H11 e11 ik => ?_⟩
            have I11 := I10.ex e11
            obtain ⟨jdx, ap11, ob11, _⟩ := callJ I11.J
            walk_at "rd"
            refine st_getF ob11 T.cl_Judge T.na_Judge_met lk_J_met ?_
            refine st_nnotP I11.J.me ik (depth_key _) ?_
            rw [nIn_keys]
            walk_at "rd"
            have doneI : ∀ met3 : List KeyD, (∀ k ∈ met2, k ∈ met3) → keyOf N ∈ met3 → ∀ x ∈ (waysOf b M pace).take (i + 1), ∃ N, after (plainOf b) x.1 = some N ∧ keyOf N ∈ met3 := fun met3 hsub hk x hx => by
              rw [htake] at hx
              rcases List.mem_append.mp hx with hx | hx
              · obtain ⟨N', h1, h2⟩ := hdone x hx
                exact ⟨N', h1, hsub _ h2⟩
              · rw [List.mem_singleton.mp hx]
                exact ⟨N, hsome, hk⟩
            refine st_ND (fun hnew => ?_) (fun hold => ?_)
            · walk_at "rd"
              refine st_getF ob11 T.cl_Judge T.na_Judge_met lk_J_met ?_
              walk_at "rd"
              obtain ⟨dxn, hdn, mln, lln, rln, obn, _⟩ := callP (hM10.ex e11)
              refine st_callM obn no_M_key ?_
              walk_at "rd"
              refine ⟨vo, vp, pc, F10, N, b.mem.length, rfl, hM10.ex e11, stdN.pl.ok, gl.2, fun kb H12 e12 ik2 => ?_⟩
              have I12 := I11.ex e12
              have hm2l : met2.length ≤ 16000000 := I12.sr.few few
              refine st_nputP I12.J.me ik2 (depth_key _) (by rw [nIn_keys]; exact decide_eq_false hnew) (by rw [List.length_map, sizeLine_eq]; omega) fun H13 f13 k13 m13 => ?_
              have mdn : ∀ {F : List Addr}, (∀ a ∈ F, H a = none) → ∀ a ∈ F, a ∉ [md] := fun {F} h a ha z => by
                obtain ⟨o, ho⟩ := old md (by simp)
                have := h a ha
                rw [List.mem_singleton.mp z, ho] at this
                cases this
              have hM13 : Mac c.Machine vo vp pc F10 H13 N := ((hM10.ex e11).ex e12).keep f13 k13 (mdn f10H)
              have hc313 := ((hc310.ex e11).ex e12).kp k13
              have hwl13 : H13 wl = some (.lst xs2) := fr1 f13 I12.hwl fun z => wlj (by rw [z]; simp)
              walk_at "rd"
              refine tyL hwl13 ?_
              walk_at "rd"
              refine st_newT (by simp) fun tn H14 n14 e14 h14 => ?_
              walk_at "rd"
              have hlen2 := I12.len
              have hx2 : xs2.length < sizeLine := by
                rw [sizeLine_eq]
                simp at hlen2
                omega
              refine st_app (e14 _ _ hwl13) hx2 fun H15 f15 k15 h15 => ?_
              have ws13 := (I12.hws.keep f13 k13 (mdn I12.new)).ex e14
              have ws15 := ws13.keep f15 k15 fun a ha z => I12.nw (by rw [← List.mem_singleton.mp z]; exact ha)
              have hM15 : Mac c.Machine vo vp pc F10 H15 N := (hM13.ex e14).keep f15 k15 fun a ha z => f10wl (by rw [← List.mem_singleton.mp z]; exact ha)
              obtain ⟨G3, w3, hG3⟩ := ws15.snoc (k15 _ _ h14) hM15 ((hc313.ex e14).kp k15) f10G2
              have J13 : JAt P w c.Judge c.Plain H13 j md js vb b (met2 ++ [keyOf N]) := by
                refine I12.J.keepM f13 k13 (fun a ha z => I12.J.nm (by rw [← List.mem_singleton.mp z]; exact ha)) ?_
                rw [List.map_append]
                exact m13
              have J15 := (J13.ex e14).keep f15 k15 fun a ha z => wlj (by rw [← List.mem_singleton.mp z]; exact ha)
              have hc515 : WaysR c.Machine vo vp H15 yr wr Gc := by
                refine ((((hc510.ex e11).ex e12).keep f13 k13 (mdn fun a ha => new9H a (inG a ha))).ex e14).keep f15 k15 fun a ha z => wl9 (inG wl (by rw [← List.mem_singleton.mp z]; exact ha))
              have hol15 : H15 ol = some (.lst ys) := by
                refine fr1 f15 (e14 _ _ (fr1 f13 (e12 _ _ (e11 _ _ hol10)) fun z => ?_)) olwl
                obtain ⟨o, ho⟩ := old md (by simp)
                rw [← z, olH] at ho
                cases ho
              refine ⟨_, _, xs2 ++ [.ref tn], ws2 ++ [(N, pace ++ paceOf b M mv)], G3, Gc, met2 ++ [keyOf N], rfl, ⟨J15, h15, w3, ?_, ?_, ?_, ?_, ?_, ?_, ?_⟩, hol15, ?_, inG, ?_, ?_, ?_, ?_⟩
              · intro a ha
                rcases (hG3 a).mp ha with z | z
                · exact I12.new a z
                · exact f10H a z
              · intro z
                rcases (hG3 wl).mp z with z | z
                · exact I12.nw z
                · exact f10wl z
              · exact ((I12.fr.trans f13).trans e14.fr).but f15 fun a ha => .inr (by rw [List.mem_singleton.mp ha]; exact nwl)
              · exact ((I12.kp.trans k13).trans e14.kp).trans k15
              · refine (I12.sr.push stdN reachN hnew).iff (fun S => ?_) (fun S => Iff.rfl)
                constructor
                · rintro (((h | ⟨q, h⟩) | h) | h)
                  · exact .inl (.inl h)
                  · exact .inl (.inr ⟨q, List.mem_append_left _ h⟩)
                  · exact .inr h
                  · exact .inl (.inr ⟨_, List.mem_append_right _ (by rw [h]; exact List.mem_singleton.mpr rfl)⟩)
                · rintro ((h | ⟨q, h⟩) | h)
                  · exact .inl (.inl (.inl h))
                  · rcases List.mem_append.mp h with h | h
                    · exact .inl (.inl (.inr ⟨q, h⟩))
                    · rw [List.mem_singleton, Prod.mk.injEq] at h
                      exact .inr h.1
                  · exact .inl (.inr h)
              · intro x hx
                rcases List.mem_append.mp hx with hx | hx
                · exact I12.way x hx
                · rw [List.mem_singleton.mp hx]
                  exact wayN
              · simp only [List.length_append, List.length_singleton] at hlen2 ⊢
                omega
              · exact hc515
              · intro a ha
                rcases (hG3 a).mp ha with z | z
                · exact ⟨fun y => (hG2 a z).1 (List.mem_append_right _ y), (hG2 a z).2⟩
                · exact ⟨f10Gc a z, fun y => f10ol (by rw [← y]; exact z)⟩
              · exact doneI _ (fun k hk => List.mem_append_left _ hk) (by simp)
              · simp only [List.length_append, List.length_singleton]
                omega
              · simp only [List.length_append, List.length_singleton]
                omega
            · walk_at "rd"
              refine ⟨_, _, xs2, ws2, G2, Gc, met2, rfl, I11, e11 _ _ hol10, ?_, inG, fun a ha => ⟨fun y => (hG2 a ha).1 (List.mem_append_right _ y), (hG2 a ha).2⟩, doneI met2 (fun k hk => hk) hold, hm1, hm2⟩
              exact hc510.ex e11
        · obtain ⟨y5, y6, xs2, ws2, G2, Gr, met2, rfl, I2, hol2, hw2, hGr, hG2, hdone, hm1, hm2⟩ := hp
          have hl : ys.length = (waysOf b M pace).length := hways.len
          rw [hl, List.take_length] at hdone
          have hm3 : met2.length ≤ 16000000 := I2.sr.few few
          walk_at "rd"
          refine ⟨_, _, _, _, xs2, ws2, G2, met2, fun S => Pd S ∨ S = M, rfl, ⟨I2.J, I2.hwl, I2.hws, I2.new, I2.nw, I2.fr, I2.kp, ?_, I2.way, by have := I2.len; simp at this ⊢; omega⟩, ?_⟩
          · refine (I2.sr.pop (S := M) (.inr rfl) (fun h => by rw [ho] at h; cases h) (fun _ mv hm => ?_)).iff (fun S => ?_) (fun S => Iff.rfl)
            · obtain ⟨N, h1, h2⟩ := hdone _ (may_ways (pace := pace) hm)
              obtain ⟨N1, h3, h4⟩ := (Eqv.tick (nextOf b M mv)).symm.after_some h1
              exact ⟨N1, h3, by rw [← h4.key]; exact h2⟩
            · constructor
              · rintro ((h | h) | h)
                · exact .inl (.inl (.inl h))
                · exact .inl (.inr h)
                · cases h
                  exact .inl (.inl (.inr rfl))
              · rintro (((h | h) | h) | h)
                · exact .inl (.inl h)
                · exact .inr (by rw [h])
                · exact .inl (.inr h)
                · cases h
          · unfold tornM
            simp only [List.length_append, List.length_singleton]
            omega
/-! ### judged -/
theorem sc_judged : FnScope ["board", "pace"] ["board"] (defScope s_judged) := ⟨rfl, rfl, rfl, by decide +kernel, rfl, by decide +kernel, by decide +kernel⟩
def sp_judged : Sp := fun vs H Q _ => ∃ (x : V) (b : Bd), vs = [x] ∧ Im H (pyB b.raw) x ∧ Good b ∧ Few b 16000000 ∧
  (¬ Bad b (MS.init b) → ∀ v H', Ex H H' → Im H' (.tuple [.str "sure"]) v → Q v H') ∧
  (∀ pace r t l vr H', (amissOf b pace).head? = some r → pace.length ≤ 1980 → Ex H H' → H t = none → H l = none → H' t = some (.tup [.str "torn", .ref l, vr]) → H' l = some (.lst (pace.map V.bl)) → Im H' (pyRow r) vr → Q (.ref t) H')
theorem cal_judged {P w base K mg c} (T : Txt K mg c) : Cal CX0 P w K mg base 10 "judged" sp_judged := by
  obtain ⟨f, fd, F, m⟩ := T.F_judged
  have c_check_board := cal_check_board (P := P) (w := w) (base := base) T
  have c_amiss := cal_amiss (P := P) (w := w) (base := base) T
  have k_Judge := mak_Judge (P := P) (w := w) (base := base) T
  have m_Judge_torn := met_Judge_torn (P := P) (w := w) (base := base) T
  refine cal_of F m (fun _ _ _ _ _ _ us hl => match us, hl with | [_], _ => rfl) sc_judged (fun vs H Q E h => ?_) (fun cdv A outer s H vs Q E hr h => ?_)
  · obtain ⟨x, b, rfl, _⟩ := h
    rfl
  · obtain ⟨x, b, rfl, hx, g, few, qs, qt⟩ := h
    refine ⟨_, (pss_cons (ps_expr (pe_c c_check_board hr (by decide) (by rfl) (pa_cons (pv 0) pa_nil)))
      (pss_cons (ps_set (i := 1) sc_judged.nd rfl (.inl rfl) (pe_mt0 m_Judge_torn hr (by decide) (pe_mk k_Judge hr (by decide) (by rfl) (pa_cons (pv 0) pa_nil))))
      (pss_cons (ps_if (pt_cmpR o_isN (pv 1) pe_non (nomark _)) (pss_one (ps_ret (pe_tup (pa_cons pe_str pa_nil)))) pss_nil)
      (pss_one (ps_ret (pe_tup (pa_cons pe_str (pa_cons (pv 1) (pa_cons (pe_ix ix_list (pe_c c_amiss hr (by decide) (by rfl) (pa_cons (pv 0) (pa_cons (pv 1) pa_nil))) pe_int (fun _ _ => rfl)) pa_nil))))))))), ?_⟩
    walk_at "rd"
    refine ⟨x, b.raw, rfl, hx, g.raw, fun H1 e1 => ?_⟩
    walk_at "rd"
    refine st_makeC fun j dx H2 nj e2 hj => ?_
    refine ⟨j, dx, x, b, rfl, hj, hx.ex (e1.trans e2), g, fun H3 md js f3 k3 hJ new => ⟨rfl, ?_⟩⟩
    have e3 : Ex H1 H3 := Fr.ex e2 (fun a ha => by rw [List.mem_singleton.mp ha]; exact nj) f3
    have E3 : Ex H H3 := e1.trans e3
    obtain ⟨jdx, ap, ob, _⟩ := hJ.ob
    have nmd : H md = none := by
      rcases new md (by simp) with z | z
      · rw [z]
        exact e1.free nj
      · exact (e1.trans e2).free z
    refine st_callM ob no_J_torn ?_
    walk_at "rd"
    refine ⟨j, md, js, x, b, rfl, hJ, g, few, fun hb H4 f4 k4 => ?_, fun pace l H4 ha hl f4 k4 nl h4 => ?_⟩
    · have E4 : Ex H H4 := Fr.ex E3 (fun a ha => by rw [List.mem_singleton.mp ha]; exact nmd) f4
      walk_at "rd"
      refine st_newT (by simp) fun t H5 n5 e5 h5 => ?_
      exact qs hb (.ref t) H5 (E4.trans e5) (im_tup h5 (iml_cons im_str iml_nil))
    · have E4 : Ex H H4 := Fr.ex E3 (fun a ha => by rw [List.mem_singleton.mp ha]; exact nmd) f4
      walk_at "rd"
      refine ⟨x, b, l, pace, rfl, hx.ex E4, g, h4, by omega, fun al H5 hal => ?_⟩
      obtain ⟨nal, e5, xs, hxs, ixs⟩ := hal
      obtain ⟨r, rest, er⟩ : ∃ r rest, amissOf b pace = r :: rest := by
        cases e : amissOf b pace with
        | nil => exact absurd e ha
        | cons r rest => exact ⟨r, rest, rfl⟩
      rw [er, List.map_cons] at ixs
      obtain ⟨vr, xs', rfl, i1, i2⟩ := ixs.cons_inv
      walk_at "rd"
      refine st_ixL hxs (atI_nat (j := 0) rfl) ?_
      walk_at "rd"
      refine st_newT (by simp) fun t H6 n6 e6 h6 => ?_
      exact qt pace r t l vr H6 (by rw [er]; rfl) hl (E4.trans (e5.trans e6)) ((E4.trans e5).free n6) (E3.free nl) h6 (e6 _ _ (e5 _ _ h4)) (i1.ex e6)
/-! ### check_fences -/
theorem sc_check_fences : FnScope ["board", "fences", "number", "fence", "place", "deed", "good"] ["board", "fences"] (defScope s_check_fences) := ⟨rfl, rfl, rfl, by decide +kernel, rfl, by decide +kernel, by decide +kernel⟩
def sp_check_fences : Sp := fun vs H Q _ => ∃ (x : V) (b : RB) (l : Addr) (xs : List V) (fs : List RF), vs = [x, .ref l] ∧ Im H (pyB b) x ∧ H l = some (.lst xs) ∧ ImL H (fs.map pyF) xs ∧ fs.length ≤ 30 ∧ (∀ f ∈ fs, fenceOk b f = true) ∧
  ∀ H', Ex H H' → Q .non H'
theorem cal_check_fences {P w base K mg c} (T : Txt K mg c) : Cal CX0 P w K mg base 8 "check_fences" sp_check_fences := by
  obtain ⟨f, fd, F, m⟩ := T.F_check_fences
  obtain ⟨aF, g_FENCES, sF⟩ := T.g_FENCES
  have c_is_deed := cal_is_deed (P := P) (w := w) (base := base) T
  refine cal_of F m (fun _ _ _ _ _ _ us hl => match us, hl with | [_, _], _ => rfl) sc_check_fences (fun vs H Q E h => ?_) (fun cdv A outer s H vs Q E hr h => ?_)
  · obtain ⟨x, b, l, xs, fs, rfl, _⟩ := h
    rfl
  · obtain ⟨x, b, l, xs, fs, rfl, hx, hl, hxs, hf, hok, q⟩ := h
    refine ⟨_, (pss_one (ps_for PassesOwn.never rfl (pi_enum (by rfl) T.enumerate (pa_cons (pv 1) pa_nil)) (pg_tup (n := 2) rfl (pgs_cons (pg_name (i := 2) sc_check_fences.nd rfl (.inl rfl)) (pgs_cons (pg_name (i := 3) sc_check_fences.nd rfl (.inl rfl)) pgs_nil)))
      (pss_cons (ps_asg (pv 3) (pg_tup (n := 2) rfl (pgs_cons (pg_name (i := 4) sc_check_fences.nd rfl (.inl rfl)) (pgs_cons (pg_name (i := 5) sc_check_fences.nd rfl (.inl rfl)) pgs_nil))))
      (pss_cons (ps_set (i := 6) sc_check_fences.nd rfl (.inl rfl) (pe_and (pe_cmpR op_le pe_int (pv 4) (nomark _)) (pe_and (pe_cmpR op_le (pv 4) (pe_callB c_len (by rfl) T.len PySem.boot_len (pa_cons (pe_ix ix_tup (pv 0) pe_int (fun _ _ => rfl)) pa_nil)) (nomark _)) (pe_and (pe_cmpR op_in_seq (pe_ix ix_tup (pv 5) pe_int (fun _ _ => rfl)) (pe_gc (by rfl) g_FENCES) (by rfl)) (pe_one (pe_c c_is_deed hr (by decide) (by rfl) (pa_cons (pv 0) (pa_cons (pv 5) pa_nil))))))))
      (pss_one (ps_if (PW.pt (pw_or (pt_cmpR op_ge (pv 2) (pe_gc (by rfl) T.g_MOST_FENCES) (nomark _)) (pw_or1 (pt_not (pt_val (pv 6)))))) (pss_one ps_never) pss_nil)))))), ?_⟩
    walk_at "rd"
    refine st_walkE hl (fun i σ H' => ∃ (y1 y2 y3 y4 y5 : Option V), σ = [some x, some (.ref l), y1, y2, y3, y4, y5] ∧ Ex H H') ⟨none, none, none, none, none, rfl, Ex.refl _⟩ (fun i σ' H' p => ?_) (fun i v σ' H' H'' hv p e2 => ?_) (fun σ' H' p => ?_)
    · obtain ⟨_, _, _, _, _, _, e⟩ := p
      exact e _ _ hl
    · obtain ⟨y1, y2, y3, y4, y5, rfl, e⟩ := p
      have E2 := e.trans e2
      obtain ⟨dd, g1, g2⟩ := hxs.get' hv
      obtain ⟨fe, g3, rfl⟩ := map_at' g1
      have hi : i < fs.length := (List.getElem?_eq_some_iff.mp g3).1
      have hg := hok fe (List.mem_of_getElem? g3)
      unfold fenceOk at hg
      rw [Bool.and_eq_true, Bool.and_eq_true, decide_eq_true_eq, decide_eq_true_eq] at hg
      obtain ⟨⟨h0, h1⟩, hw, hd⟩ := hg
      walk_at "rd"
      refine st_gtup (g2.ex E2) (Kp.refl _) rfl fun vs hvs => ?_
      obtain ⟨v1, r1, rfl, i1, hvs⟩ := hvs.cons_inv
      obtain ⟨v2, r2, rfl, i2, hvs⟩ := hvs.cons_inv
      cases hvs.nil_inv
      cases Im.int_iff.mp i1
      walk_at "rd"
      refine st_D (fun _ => ?_) (fun h => absurd h0 h)
      walk_at "rd"
      refine st_ixT hx E2.kp (atI_nat (j := 2) rfl) fun vp hvp => ?_
      walk_at "rd"
      refine st_lenT hvp (Kp.refl _) ?_
      walk_at "rd"
      rw [List.length_map]
      refine st_D (fun _ => ?_) (fun h => absurd h1 h)
      walk_at "rd"
      refine st_ixT_str i2 (Kp.refl _) (atI_nat (j := 0) rfl) ?_
      walk_at "rd"
      refine ⟨aF, _, rfl, .inr (sF _), rfl, rfl, ?_⟩
      have hin : inV (.str fe.2.1) [.str "wait", .str "clean", .str "drop"] = true := by
        simp only [inV, List.any_cons, List.any_nil, eqV, Bool.or_false, Bool.or_eq_true, beq_iff_eq]
        rcases hw with h | h | h
        · exact .inl h.symm
        · exact .inr (.inl h.symm)
        · exact .inr (.inr h.symm)
      simp only [hin, Bool.false_eq_true, if_false]
      walk_at "rd"
      refine ⟨x, v2, b, fe.2, rfl, hx.ex E2, i2, fun H3 e3 => ?_⟩
      rw [hd]
      walk_at "rd"
      refine st_D (fun h => absurd h (by omega)) (fun _ => ?_)
      walk_at "rd"
      exact ⟨_, _, _, _, _, rfl, E2.trans e3⟩
    · obtain ⟨y1, y2, y3, y4, y5, rfl, e⟩ := p
      exact q _ e
/-! ### put_in -/
theorem sc_put_in : FnScope ["board", "fences", "program", "place", "where", "deed"] ["board", "fences"] (defScope s_put_in) := ⟨rfl, rfl, rfl, by decide +kernel, rfl, by decide +kernel, by decide +kernel⟩
def sp_put_in : Sp := fun vs H Q _ => ∃ (x : V) (b : RB) (l : Addr) (xs : List V) (fs : List RF), vs = [x, .ref l] ∧ Im H (pyB b) x ∧ H l = some (.lst xs) ∧ ImL H (fs.map pyF) xs ∧ b.prog.length ≤ 100 ∧ fs.length ≤ 100 ∧
  ∀ v H', Ex H H' → Im H' (pyB ⟨b.mem, b.ords, putIn b.prog fs⟩) v → Q v H'
theorem cal_put_in {P w base K mg c} (T : Txt K mg c) : Cal CX0 P w K mg base 1 "put_in" sp_put_in := by
  obtain ⟨f, fd, F, m⟩ := T.F_put_in
  refine cal_of F m (fun _ _ _ _ _ _ us hl => match us, hl with | [_, _], _ => rfl) sc_put_in (fun vs H Q E h => ?_) (fun cdv A outer s H vs Q E hr h => ?_)
  · obtain ⟨x, b, l, xs, fs, rfl, _⟩ := h
    rfl
  · obtain ⟨x, b, l, xs, fs, rfl, hx, hl, hxs, hb, hf, q⟩ := h
    refine ⟨_, (pss_cons (ps_set (i := 2) sc_put_in.nd rfl (.inl rfl) (pe_lst pa_nil))
      (pss_cons (ps_for PassesOwn.never rfl (pi_range1 rfl T.range (pa_cons (pe_op op_add (pe_callB c_len (by rfl) T.len PySem.boot_len (pa_cons (pe_ix ix_tup (pv 0) pe_int (fun _ _ => rfl)) pa_nil)) pe_int) pa_nil)) (pg_name (i := 3) sc_put_in.nd rfl (.inr rfl))
      (pss_cons (ps_expr (pe_bm PySem.F.plainAttrs_list PySem.F.slot_list_extend PySem.F.type_list_extend mt_extend (pv 2) (pa_cons (pe_lc (own := [("where", 4), ("deed", 5)]) (g := (gTup K 2 (gCons (gName 4) (gCons (gName 5) gNil)))) (tt := (tTest (tOp rEq (tVar 4) (tVar 3)))) (te := (tVar 5)) rfl sc_put_in.nd (pi_list (pv 1)) (blkOk_by (N := ["board", "fences", "program", "place", "where", "deed"]) (sc := defScope s_put_in) (own := [("where", 4), ("deed", 5)]) (by decide +kernel)) (fun _ _ _ _ _ => (pg_tup (n := 2) rfl (pgs_cons (pg_name (i := 4) sc_put_in.nd rfl (.inl rfl)) (pgs_cons (pg_name (i := 5) sc_put_in.nd rfl (.inl rfl)) pgs_nil)))) (fun _ _ _ _ _ => (pts_one (pt_cmpR op_eq (pv 4) (pv 3) (nomark _)))) (fun _ _ _ _ _ => (pv 5))) pa_nil)))
      (pss_one (ps_expr (pe_bm PySem.F.plainAttrs_list PySem.F.slot_list_extend PySem.F.type_list_extend mt_extT (pv 2) (pa_cons (pe_slice sl_tupA (pe_ix ix_tup (pv 0) pe_int (fun _ _ => rfl)) (po_some (pv 3)) (po_some (pe_op op_add (pv 3) pe_int))) pa_nil))))))
      (pss_one (ps_ret (pe_tup (pa_cons (pe_ix ix_tup (pv 0) pe_int (fun _ _ => rfl)) (pa_cons (pe_ix ix_tup (pv 0) pe_int (fun _ _ => rfl)) (pa_cons (pe_callTy c_tuple (by rfl) T.tuple (by decide +kernel) (pa_cons (pv 2) pa_nil)) pa_nil)))))))), ?_⟩
    walk_at "rd"
    refine st_newL (by simp) fun pl H1 npl e1 hpl => ?_
    walk_at "rd"
    refine st_ixT hx e1.kp (atI_nat (j := 2) rfl) fun vp hvp => ?_
    walk_at "rd"
    refine st_lenT hvp (Kp.refl _) ?_
    walk_at "rd"
    rw [List.length_map, show ((b.prog.length : Int) + 1) = ((b.prog.length + 1 : Nat) : Int) by omega]
    refine st_walkR (n := b.prog.length + 1) (by omega) (fun i σ H' => ∃ (y1 y2 y3 : Option V) (ys : List V), σ = [some x, some (.ref l), some (.ref pl), y1, y2, y3] ∧ Ex H H' ∧ H' pl = some (.lst ys) ∧ ImL H' ((putTo b.prog fs i).map pyDeed) ys) ⟨none, none, none, [], rfl, e1, hpl, iml_nil⟩ (fun i σ' H' hi p => ?_) (fun σ' H' p => ?_)
    · obtain ⟨y1, y2, y3, ys, rfl, e, hpl', hys⟩ := p
      walk_at "rd"
      refine tyL hpl' ?_
      walk_at "rd"
      refine st_atPlace (fs := fs) (i := i) (e _ _ hl) (hxs.ex e) (by omega) (fun _ _ => rfl) (fun _ _ => rfl) (fun _ _ => rfl) (fun _ _ => rfl) fun D H2 zs nD e2 hD hzs => ?_
      walk_at "rd"
      have hlen : ys.length ≤ 101 * 101 := by
        rw [hys.length, List.length_map]
        exact Nat.le_trans (putTo_len _ _ _) (Nat.mul_le_mul (by omega) (by omega))
      have hzl : zs.length ≤ 100 := by
        rw [hzs.length, List.length_map]
        exact Nat.le_trans (atPlace_len _ _) hf
      refine st_ext (e2 _ _ hpl') hD (by omega) fun H3 f3 k3 h3 => ?_
      walk_at "rd"
      have E3 : Ex H H3 := Fr.ex (e.trans e2) (fun a ha => by rw [List.mem_singleton.mp ha]; exact npl) f3
      refine tyL h3 ?_
      walk_at "rd"
      refine st_ixT hx E3.kp (atI_nat (j := 2) rfl) fun vp' hvp' => ?_
      walk_at "rd"
      refine st_slOne rfl hvp' (Kp.refl _) fun v4 H4 e4 i4 => ?_
      walk_at "rd"
      refine st_extT (e4 _ _ h3) i4 (Kp.refl _) (by rw [List.length_append]; have := toList_len ((b.prog.map pyDeed)[i]?); omega) fun H5 zs2 f5 k5 hz2 h5 => ?_
      refine ⟨_, _, _, _, rfl, Fr.ex (E3.trans e4) (fun a ha => by rw [List.mem_singleton.mp ha]; exact npl) f5, h5, ?_⟩
      rw [putTo_succ, List.map_append, List.map_append, List.append_assoc]
      refine (((hys.ex e2).kp k3).ex e4 |>.kp k5).append ((((hzs.kp k3).ex e4).kp k5).append ?_)
      have : (b.prog[i]?.toList).map pyDeed = (b.prog.map pyDeed)[i]?.toList := by
        rw [List.getElem?_map]
        cases b.prog[i]? <;> rfl
      rw [this]
      exact hz2.kp k5
    · obtain ⟨y1, y2, y3, ys, rfl, e, hpl', hys⟩ := p
      walk_at "rd"
      refine st_ixT hx e.kp (atI_nat (j := 0) rfl) fun vm hm => ?_
      walk_at "rd"
      refine st_ixT hx e.kp (atI_nat (j := 1) rfl) fun vo ho => ?_
      walk_at "rd"
      refine st_tupL hpl' fun tp H2 n2 e2 h2 => ?_
      walk_at "rd"
      refine st_newT (by simp) fun t H3 n3 e3 h3 => ?_
      refine q _ H3 ((e.trans e2).trans e3) (im_tup h3 (iml_cons (hm.ex (e2.trans e3)) (iml_cons (ho.ex (e2.trans e3)) (iml_cons ((im_tup h2 (hys.ex e2)).ex e3) iml_nil))))
/-! ### fenced -/
theorem sc_fenced : FnScope ["board", "fences", "found"] ["board", "fences"] (defScope s_fenced) := ⟨rfl, rfl, rfl, by decide +kernel, rfl, by decide +kernel, by decide +kernel⟩
def sp_fenced : Sp := fun vs H Q _ => ∃ (x : V) (b : RB) (l : Addr) (xs : List V) (fs : List RF), vs = [x, .ref l] ∧ Im H (pyB b) x ∧ H l = some (.lst xs) ∧ ImL H (fs.map pyF) xs ∧ fs.length ≤ 30 ∧ (∀ f ∈ fs, fenceOk b f = true) ∧
  RGood b ∧ RGood ⟨b.mem, b.ords, putIn b.prog fs⟩ ∧ ∀ v H', Ex H H' → Im H' (pyB ⟨b.mem, b.ords, putIn b.prog fs⟩) v → Q v H'
theorem cal_fenced {P w base K mg c} (T : Txt K mg c) : Cal CX0 P w K mg base 9 "fenced" sp_fenced := by
  obtain ⟨f, fd, F, m⟩ := T.F_fenced
  have c_check_board := cal_check_board (P := P) (w := w) (base := base) T
  have c_check_fences := cal_check_fences (P := P) (w := w) (base := base) T
  have c_put_in := cal_put_in (P := P) (w := w) (base := base) T
  refine cal_of F m (fun _ _ _ _ _ _ us hl => match us, hl with | [_, _], _ => rfl) sc_fenced (fun vs H Q E h => ?_) (fun cdv A outer s H vs Q E hr h => ?_)
  · obtain ⟨x, b, l, xs, fs, rfl, _⟩ := h
    rfl
  · obtain ⟨x, b, l, xs, fs, rfl, hx, hl, hxs, hf, hok, hb, hb2, q⟩ := h
    refine ⟨_, (pss_cons (ps_expr (pe_c c_check_board hr (by decide) (by rfl) (pa_cons (pv 0) pa_nil)))
      (pss_cons (ps_expr (pe_c c_check_fences hr (by decide) (by rfl) (pa_cons (pv 0) (pa_cons (pv 1) pa_nil))))
      (pss_cons (ps_set (i := 2) sc_fenced.nd rfl (.inl rfl) (pe_c c_put_in hr (by decide) (by rfl) (pa_cons (pv 0) (pa_cons (pv 1) pa_nil))))
      (pss_cons (ps_expr (pe_c c_check_board hr (by decide) (by rfl) (pa_cons (pv 2) pa_nil)))
      (pss_one (ps_ret (pv 2))))))), ?_⟩
    walk_at "rd"
    refine ⟨x, b, rfl, hx, hb, fun H1 e1 => ?_⟩
    walk_at "rd"
    refine ⟨x, b, l, xs, fs, rfl, hx.ex e1, e1 _ _ hl, hxs.ex e1, hf, hok, fun H2 e2 => ?_⟩
    have E2 := e1.trans e2
    walk_at "rd"
    refine ⟨x, b, l, xs, fs, rfl, hx.ex E2, E2 _ _ hl, hxs.ex E2, Nat.le_trans hb.prog.1 (by decide), by omega, fun v H3 e3 hv => ?_⟩
    walk_at "rd"
    refine ⟨v, _, rfl, hv, hb2, fun H4 e4 => ?_⟩
    walk_at "rd"
    exact q v H4 ((E2.trans e3).trans e4) (hv.ex e4)
/-! ### fully -/
theorem sc_fully : FnScope ["board", "lines", "found", "place", "deed", "line"] ["board"] (defScope s_fully) := ⟨rfl, rfl, rfl, by decide +kernel, rfl, by decide +kernel, by decide +kernel⟩
theorem lines_ahead (n j : Nat) : linesAt (j : Int) "clean" n = pyTFs (ahead n j) := by
  unfold linesAt pyTFs ahead
  rw [List.map_map, List.map_map]
  rfl
theorem lines_behind (n j : Nat) : pyF (((j : Int) + 1), ("wait", [])) :: linesAt ((j : Int) + 1) "drop" n = pyTFs (behind n j) := by
  unfold linesAt pyTFs behind
  rw [List.map_cons, List.map_cons, List.map_map, List.map_map]
  rfl
def sp_fully : Sp := fun vs H Q _ => ∃ (x : V) (b : Bd), vs = [x] ∧ Im H (pyB b.raw) x ∧ Good b ∧ ∀ l H', NewList H H' l (pyTFs (fullyOf (b.mem.length / 4) b.prog)) → Q (.ref l) H'
theorem cal_fully {P w base K mg c} (T : Txt K mg c) : Cal CX0 P w K mg base 9 "fully" sp_fully := by
  obtain ⟨f, fd, F, m⟩ := T.F_fully
  have c_check_board := cal_check_board (P := P) (w := w) (base := base) T
  have c_lines_in := cal_lines_in (P := P) (w := w) (base := base) T
  refine cal_of F m (fun _ _ _ _ _ _ us hl => match us, hl with | [_], _ => rfl) sc_fully (fun vs H Q E h => ?_) (fun cdv A outer s H vs Q E hr h => ?_)
  · obtain ⟨x, b, rfl, _⟩ := h
    rfl
  · obtain ⟨x, b, rfl, hx, g, q⟩ := h
    have h4 := g.lines
    have h60 := g.len
    refine ⟨_, (pss_cons (ps_expr (pe_c c_check_board hr (by decide) (by rfl) (pa_cons (pv 0) pa_nil)))
      (pss_cons (ps_set (i := 1) sc_fully.nd rfl (.inl rfl) (pe_listRg rfl (by rfl) T.list (prg_1 (by rfl) T.range (pe_c c_lines_in hr (by decide) (by rfl) (pa_cons (pe_ix ix_tup (pv 0) pe_int (fun _ _ => rfl)) pa_nil)))))
      (pss_cons (ps_set (i := 2) sc_fully.nd rfl (.inl rfl) (pe_lst pa_nil))
      (pss_cons (ps_for PassesOwn.never rfl (pi_enumT (by rfl) T.enumerate (pa_cons (pe_ix ix_tup (pv 0) pe_int (fun _ _ => rfl)) pa_nil)) (pg_tup (n := 2) rfl (pgs_cons (pg_name (i := 3) sc_fully.nd rfl (.inr rfl)) (pgs_cons (pg_name (i := 4) sc_fully.nd rfl (.inl rfl)) pgs_nil)))
      (pss_one (ps_if (pt_cmpR op_eq (pe_ix ix_tup (pv 4) pe_int (fun _ _ => rfl)) pe_str (nomark _)) (pss_cons (ps_expr (pe_bm PySem.F.plainAttrs_list PySem.F.slot_list_extend PySem.F.type_list_extend mt_extend (pv 2) (pa_cons (pe_lc (own := [("line", 5)]) (g := (gName 5)) (tt := tYes) (te := (tTup (tCons (tVar 3) (tCons (tTup (tCons (tC (.str "clean")) (tCons (tVar 5) tNil))) tNil)))) rfl sc_fully.nd (pi_list (pv 1)) (blkOk_by (N := ["board", "lines", "found", "place", "deed", "line"]) (sc := defScope s_fully) (own := [("line", 5)]) (by decide +kernel)) (fun _ _ _ _ _ => (pg_name (i := 5) sc_fully.nd rfl (.inl rfl))) (fun _ _ _ _ _ => pts_nil) (fun _ _ _ _ _ => (pe_tup (pa_cons (pv 3) (pa_cons (pe_tup (pa_cons pe_str (pa_cons (pv 5) pa_nil))) pa_nil))))) pa_nil)))
      (pss_cons (ps_expr (pe_bm PySem.F.plainAttrs_list PySem.F.slot_list_append PySem.F.type_list_append mt_append (pv 2) (pa_cons (pe_tup (pa_cons (pe_op op_add (pv 3) pe_int) (pa_cons (pe_tup (pa_cons pe_str pa_nil)) pa_nil))) pa_nil)))
      (pss_one (ps_expr (pe_bm PySem.F.plainAttrs_list PySem.F.slot_list_extend PySem.F.type_list_extend mt_extend (pv 2) (pa_cons (pe_lc (own := [("line", 5)]) (g := (gName 5)) (tt := tYes) (te := (tTup (tCons (tOp (rI0 fun i j => .int (i + j)) (tVar 3) (tC (.int 1))) (tCons (tTup (tCons (tC (.str "drop")) (tCons (tVar 5) tNil))) tNil)))) rfl sc_fully.nd (pi_list (pv 1)) (blkOk_by (N := ["board", "lines", "found", "place", "deed", "line"]) (sc := defScope s_fully) (own := [("line", 5)]) (by decide +kernel)) (fun _ _ _ _ _ => (pg_name (i := 5) sc_fully.nd rfl (.inl rfl))) (fun _ _ _ _ _ => pts_nil) (fun _ _ _ _ _ => (pe_tup (pa_cons (pe_op op_add (pv 3) pe_int) (pa_cons (pe_tup (pa_cons pe_str (pa_cons (pv 5) pa_nil))) pa_nil))))) pa_nil)))))) pss_nil)))
      (pss_one (ps_ret (pv 2))))))), ?_⟩
    walk_at "rd"
    refine ⟨x, b.raw, rfl, hx, g.raw, fun H1 e1 => ?_⟩
    walk_at "rd"
    refine st_lstRg ?_
    walk_at "rd"
    refine st_ixT hx e1.kp (atI_nat (j := 0) rfl) fun vm hm => ?_
    walk_at "rd"
    refine ⟨vm, _, rfl, hm, ?_⟩
    rw [List.length_map]
    refine st_rg (n := b.mem.length / 4) (by omega) fun ll H2 nll e2 hll => ?_
    walk_at "rd"
    refine st_newL (by simp) fun fl H3 nfl e3 hfl => ?_
    walk_at "rd"
    have E2 := e1.trans e2
    have E3 := E2.trans e3
    have nfl0 : H fl = none := E2.free nfl
    have hll3 := e3 _ _ hll
    generalize hn : b.mem.length / 4 = n at *
    refine st_wET ?_
    walk_at "rd"
    refine st_ixT hx E3.kp (atI_nat (j := 2) rfl) fun vp hvp => ?_
    walk_at "rd"
    refine st_walkET hvp (Kp.refl _) (fun i σ H' => ∃ (y1 y2 y3 : Option V) (ys : List V), σ = [some x, some (.ref ll), some (.ref fl), y1, y2, y3] ∧ Ex H2 H' ∧ Kp H3 H' ∧ H' fl = some (.lst ys) ∧ ImL H' (pyTFs (fullyTo n b.prog i)) ys) ⟨none, none, none, [], rfl, e3, Kp.refl _, hfl, iml_nil⟩ (fun i σ' H' p => ?_) (fun i d v σ' H' H'' hd p e4 hv => ?_) (fun σ' H' p => ?_)
    · obtain ⟨_, _, _, _, _, _, k, _⟩ := p
      exact k
    · obtain ⟨y1, y2, y3, ys, rfl, e, k, hfl, hys⟩ := p
      obtain ⟨rd, g1, rfl⟩ := map_at' hd
      obtain ⟨d, g2, rfl⟩ := map_at' g1
      have hi : i < b.prog.length := (List.getElem?_eq_some_iff.mp g2).1
      have E4 := e.trans e4
      have hlen : ys.length ≤ 60 * 9 := by
        rw [hys.length, pyTFs_len]
        exact Nat.le_trans (fullyTo_len _ _ _) (Nat.mul_le_mul (by omega) (by omega))
      walk_at "rd"
      refine st_ixT_str hv (Kp.refl _) (atI_nat (j := 0) rfl) ?_
      walk_at "rd"
      have eS : decide (d.raw.1 = ("start" : Str)) = d.isStart := isStart_raw d
      rw [eS]
      have eg : goesAt b.prog i = d.isStart := by
        unfold goesAt
        rw [g2]
      refine st_B (fun hs => ?_) (fun hs => ?_)
      · walk_at "rd"
        refine tyL (e4 _ _ hfl) ?_
        walk_at "rd"
        refine st_linesL (j := (i : Int)) (E4 _ _ hll) (by omega) (fun _ => rfl) (fun _ => rfl) (fun _ _ _ h => st_var rfl h) fun D H5 zs nD e5 hD hzs => ?_
        walk_at "rd"
        have hzl : zs.length = n := by rw [hzs.length, linesAt, List.length_map, List.length_range]
        refine st_ext (e5 _ _ (e4 _ _ hfl)) hD (by omega) fun H6 f6 k6 h6 => ?_
        walk_at "rd"
        have E6 : Ex H2 H6 := Fr.ex (E4.trans e5) (fun a ha => by rw [List.mem_singleton.mp ha]; exact nfl) f6
        refine tyL h6 ?_
        walk_at "rd"
        refine st_newT (by simp) fun t1 H7 n7 e7 h7 => ?_
        walk_at "rd"
        refine st_newT (by simp) fun t2 H8 n8 e8 h8 => ?_
        walk_at "rd"
        refine st_app (e8 _ _ (e7 _ _ h6)) (sz_lt (by rw [List.length_append]; omega)) fun H9 f9 k9 h9 => ?_
        walk_at "rd"
        have E9 : Ex H2 H9 := Fr.ex (E6.trans (e7.trans e8)) (fun a ha => by rw [List.mem_singleton.mp ha]; exact nfl) f9
        refine tyL h9 ?_
        walk_at "rd"
        refine st_linesL (j := (i : Int) + 1) (E9 _ _ hll) (by omega) (fun _ => rfl) (fun _ => rfl) (fun _ _ _ h => st_op (st_var rfl (st_c (st_I0 h)))) fun D2 H10 zs2 nD2 e10 hD2 hzs2 => ?_
        walk_at "rd"
        have hzl2 : zs2.length = n := by rw [hzs2.length, linesAt, List.length_map, List.length_range]
        refine st_ext (e10 _ _ h9) hD2 (by rw [List.length_append, List.length_append]; simp; omega) fun H11 f11 k11 h11 => ?_
        have k6_11 : Kp H6 H11 := ((e7.kp.trans e8.kp).trans k9).trans (e10.kp.trans k11)
        refine ⟨_, _, _, _, rfl, Fr.ex (E9.trans e10) (fun a ha => by rw [List.mem_singleton.mp ha]; exact nfl) f11, ((((k.trans e4.kp).trans e5.kp).trans k6).trans k6_11), h11, ?_⟩
        rw [fullyTo_succ, around_goes, eg, hs, if_pos rfl, pyTFs_append, pyTFs_append, ← lines_ahead, ← lines_behind]
        rw [List.append_assoc, List.append_assoc]
        refine (hys.kp (((e4.kp.trans e5.kp).trans k6).trans k6_11)).append ((hzs.kp (k6.trans k6_11)).append (ImL.append (ds := [pyF (((i : Int) + 1), ("wait", []))]) (iml_cons ?_ iml_nil) (hzs2.kp k11)))
        have k8 := k9.trans (e10.kp.trans k11)
        exact im_tup (k8 _ _ h8) (iml_cons im_int (iml_cons (im_tup (k8 _ _ (e8 _ _ h7)) (iml_cons im_str iml_nil)) iml_nil))
      · walk_at "rd"
        refine ⟨_, _, _, ys, rfl, E4, k.trans e4.kp, e4 _ _ hfl, ?_⟩
        rw [fullyTo_succ, around_goes, eg, hs, if_neg (by simp), List.append_nil]
        exact hys.ex e4
    · obtain ⟨y1, y2, y3, ys, rfl, e, k, hfl, hys⟩ := p
      walk_at "rd"
      rw [List.length_map, List.length_map] at hys
      exact q fl H' ⟨nfl0, E2.trans e, ys, hfl, hys⟩
/-! ### number_text -/
theorem sc_number_text : FnScope ["number"] ["number"] (defScope s_number_text) := ⟨rfl, rfl, rfl, by decide +kernel, rfl, by decide +kernel, by decide +kernel⟩
def sp_number_text : Sp := fun vs H Q _ => ∃ o : Option Int, vs = [vOpt o] ∧ (∀ i, o = some i → Sm i) ∧ Q (.str (optS o)) H
theorem cal_number_text {P w base K mg c} (T : Txt K mg c) : Cal CX0 P w K mg base 1 "number_text" sp_number_text := by
  obtain ⟨f, fd, F, m⟩ := T.F_number_text
  refine cal_of F m (fun _ _ _ _ _ _ us hl => match us, hl with | [_], _ => rfl) sc_number_text (fun vs H Q E h => ?_) (fun cdv A outer s H vs Q E hr h => ?_)
  · obtain ⟨o, rfl, _⟩ := h
    rfl
  · obtain ⟨o, rfl, hs, q⟩ := h
    refine ⟨_, (pss_one (ps_ret (pe_ifExp (pt_cmpR o_isN (pv 0) pe_non (nomark _)) pe_str (pe_callTy c_str (by rfl) T.str (by decide +kernel) (pa_cons (pv 0) pa_nil))))), ?_⟩
    cases o with
    | none =>
      show tRet _ _ [some .non] H
      walk_at "rd"
      exact q
    | some i =>
      show tRet _ _ [some (.int i)] H
      walk_at "rd"
      exact st_str (hs i rfl) q
/-! ### written -/
theorem sc_written : FnScope ["board", "rows", "number", "order", "deed", "row"] ["board"] (defScope s_written) := ⟨rfl, rfl, rfl, by decide +kernel, rfl, by decide +kernel, by decide +kernel⟩
def sp_written : Sp := fun vs H Q _ => ∃ (x : V) (b : Bd), vs = [x] ∧ Im H (pyB b.raw) x ∧ Good b ∧ ∀ H', Ex H H' → Q (.str (textOf b.raw)) H'
theorem cal_written {P w base K mg c} (T : Txt K mg c) : Cal CX0 P w K mg base 9 "written" sp_written := by
  obtain ⟨f, fd, F, m⟩ := T.F_written
  have c_check_board := cal_check_board (P := P) (w := w) (base := base) T
  have c_number_text := cal_number_text (P := P) (w := w) (base := base) T
  refine cal_of F m (fun _ _ _ _ _ _ us hl => match us, hl with | [_], _ => rfl) sc_written (fun vs H Q E h => ?_) (fun cdv A outer s H vs Q E hr h => ?_)
  · obtain ⟨x, b, rfl, _⟩ := h
    rfl
  · obtain ⟨x, b, rfl, hx, g, q⟩ := h
    have h4 := g.lines
    have h60 := g.len
    have ho4 := g.ords
    have sm := g.sm
    have gr := g.raw
    have hm19 : b.raw.mem.length ≤ 19 := by
      show b.mem.length ≤ 19
      omega
    have hrow : (rowsW b.raw).length ≤ 100 := by
      rw [rowsW_len]
      show 1 + (b.ords.map Ord.raw).length + (b.prog.map Deed.raw).length ≤ 100
      rw [List.length_map, List.length_map]
      omega
    generalize b.raw = rb at *
    refine ⟨_, (pss_cons (ps_expr (pe_c c_check_board hr (by decide) (by rfl) (pa_cons (pv 0) pa_nil)))
      (pss_cons (ps_set (i := 1) sc_written.nd rfl (.inl rfl) (pe_lst (pa_cons (pe_op op_cat (pe_lst (pa_cons pe_str pa_nil)) (pe_lc (own := [("number", 2)]) (g := (gName 2)) (tt := tYes) (te := (tCB rStrI (tCons (tVar 2) tNil))) rfl sc_written.nd (pi_tup (pe_ix ix_tup (pv 0) pe_int (fun _ _ => rfl))) (blkOk_by (N := ["board", "rows", "number", "order", "deed", "row"]) (sc := defScope s_written) (own := [("number", 2)]) (by decide +kernel)) (fun _ _ _ _ _ => (pg_name (i := 2) sc_written.nd rfl (.inl rfl))) (fun _ _ _ _ _ => pts_nil) (fun _ _ _ _ _ => (pe_callTy c_str (by rfl) T.str (by decide +kernel) (pa_cons (pv 2) pa_nil))))) pa_nil)))
      (pss_cons (ps_set (i := 1) sc_written.nd rfl (.inl rfl) (pe_op op_cat (pv 1) (pe_lc (own := [("order", 3)]) (g := (gName 3)) (tt := tYes) (te := (tOp rCat (tLst (tCons (tC (.str "order")) tNil)) (tLc (iTup K (tVar 3)) (gName 2) tYes (tCall sp_number_text [] L2.E0 (tCons (tVar 2) tNil)) [2]))) rfl sc_written.nd (pi_tup (pe_ix ix_tup (pv 0) pe_int (fun _ _ => rfl))) (blkOk_by (N := ["board", "rows", "number", "order", "deed", "row"]) (sc := defScope s_written) (own := [("order", 3)]) (by decide +kernel)) (fun _ _ _ _ _ => (pg_name (i := 3) sc_written.nd rfl (.inl rfl))) (fun _ _ _ _ _ => pts_nil) (fun _ _ _ _ _ => (pe_op op_cat (pe_lst (pa_cons pe_str pa_nil)) (pe_lc (own := [("number", 2)]) (g := (gName 2)) (tt := tYes) (te := (tCall sp_number_text [] L2.E0 (tCons (tVar 2) tNil))) rfl sc_written.nd (pi_tup (pv 3)) (blkOk_by (N := ["board", "rows", "number", "order", "deed", "row"]) (sc := { kind := .function, names := [(".0", .local), ("order", .local)], isGenerator := false, isCoroutine := false }) (own := [("number", 2)]) (by decide +kernel)) (fun _ _ _ _ _ => (pg_name (i := 2) sc_written.nd rfl (.inl rfl))) (fun _ _ _ _ _ => pts_nil) (fun _ _ _ _ _ => (pe_c c_number_text hr (by decide) (by rfl) (pa_cons (pv 2) pa_nil)))))))))
      (pss_cons (ps_set (i := 1) sc_written.nd rfl (.inl rfl) (pe_op op_cat (pv 1) (pe_lc (own := [("deed", 4)]) (g := (gName 4)) (tt := tYes) (te := (tOp rCat (tLst (tCons (tOp (rIxT K) (tVar 4) (tC (.int 0))) tNil)) (tLc (iTup K (tSl (rSlA K) (tVar 4) (tPart (tC (.int 1))) tNoPart)) (gName 2) tYes (tCB rStrI (tCons (tVar 2) tNil)) [2]))) rfl sc_written.nd (pi_tup (pe_ix ix_tup (pv 0) pe_int (fun _ _ => rfl))) (blkOk_by (N := ["board", "rows", "number", "order", "deed", "row"]) (sc := defScope s_written) (own := [("deed", 4)]) (by decide +kernel)) (fun _ _ _ _ _ => (pg_name (i := 4) sc_written.nd rfl (.inl rfl))) (fun _ _ _ _ _ => pts_nil) (fun _ _ _ _ _ => (pe_op op_cat (pe_lst (pa_cons (pe_ix ix_tup (pv 4) pe_int (fun _ _ => rfl)) pa_nil)) (pe_lc (own := [("number", 2)]) (g := (gName 2)) (tt := tYes) (te := (tCB rStrI (tCons (tVar 2) tNil))) rfl sc_written.nd (pi_tup (pe_slice sl_tupA (pv 4) (po_some pe_int) po_none)) (blkOk_by (N := ["board", "rows", "number", "order", "deed", "row"]) (sc := { kind := .function, names := [(".0", .local), ("deed", .local)], isGenerator := false, isCoroutine := false }) (own := [("number", 2)]) (by decide +kernel)) (fun _ _ _ _ _ => (pg_name (i := 2) sc_written.nd rfl (.inl rfl))) (fun _ _ _ _ _ => pts_nil) (fun _ _ _ _ _ => (pe_callTy c_str (by rfl) T.str (by decide +kernel) (pa_cons (pv 2) pa_nil)))))))))
      (pss_one (ps_ret (pe_joinR pe_str (pe_lc (own := [("row", 5)]) (g := (gName 5)) (tt := tYes) (te := (tM1 (rJoin K) (tC (.str " ")) (tVar 5))) rfl sc_written.nd (pi_list (pv 1)) (blkOk_by (N := ["board", "rows", "number", "order", "deed", "row"]) (sc := defScope s_written) (own := [("row", 5)]) (by decide +kernel)) (fun _ _ _ _ _ => (pg_name (i := 5) sc_written.nd rfl (.inl rfl))) (fun _ _ _ _ _ => pts_nil) (fun _ _ _ _ _ => (pe_joinR pe_str (pv 5))))))))))), ?_⟩
    walk_at "rd"
    refine ⟨x, rb, rfl, hx, gr, fun H1 e1 => ?_⟩
    walk_at "rd"
    refine st_newL (by simp) fun a1 H2 n1 e2 h1 => ?_
    walk_at "rd"
    refine st_ixT hx (e1.trans e2).kp (atI_nat (j := 0) rfl) fun vm hvm => ?_
    refine st_lcStr (f := strD) hvm (Kp.refl _) (by rw [List.length_map]; omega) (fun _ => rfl) (fun d v H' R hd e hv r => ?_) fun l1 H3 n3 e3 hl1 => ?_
    · obtain ⟨n, hn, rfl⟩ := List.mem_map.mp hd
      cases Im.int_iff.mp hv
      walk_at "rd"
      exact st_str (sm.mem n hn) (r _ (Ex.refl _))
    rw [strD_ints] at hl1
    refine tx_cat (e3 _ _ h1) hl1 (by simp; omega) fun a4 H4 n4 e4 h4' => ?_
    walk_at "rd"
    refine st_newL (by simp) fun r0 H5 n5 e5 h5 => ?_
    walk_at "rd"
    have ra0 : RowsA H5 [wMem rb.mem] [.ref a4] := RowsA.one (e5 _ _ h4')
    have E5 := ((((e1.trans e2).trans e3).trans e4).trans e5)
    refine st_ixT hx E5.kp (atI_nat (j := 1) rfl) fun vo hvo => ?_
    refine st_lcRows (f := wordsO) hvo (Kp.refl _) (by rw [List.length_map]; rw [rowsW_len] at hrow; omega) (fun _ => rfl) (fun d v H' R hd e hv r => ?_) fun l2 H6 xs2 n6 e6 hl2 ra2 => ?_
    · obtain ⟨o, ho, rfl⟩ := List.mem_map.mp hd
      walk_at "rd"
      refine st_newL (by simp) fun b1 G1 m1 d1 g1 => ?_
      walk_at "rd"
      refine st_lcStr (f := strD) (hv.ex d1) (Kp.refl _) (by simp) (fun _ => rfl) (fun d v H' R hd e hv r => ?_) fun b2 G2 m2 d2 g2 => ?_
      · obtain ⟨u, rfl, hu, es⟩ := sm_opt hd (sm.ords o ho) hv
        walk_at "rd"
        refine ⟨u, rfl, hu, ?_⟩
        rw [es]
        exact r _ (Ex.refl _)
      refine tx_cat (d2 _ _ g1) g2 (by simp) fun b3 G3 m3 d3 g3 => ?_
      exact r b3 G3 ((d1.trans d2).free m3) ((d1.trans d2).trans d3) g3
    rw [wordsO_ords] at ra2
    have hl0 : xs2.length ≤ 100 := by
      rw [ra2.length, List.length_map]
      rw [rowsW_len] at hrow
      omega
    refine tx_cat (e6 _ _ h5) hl2 (by simp; omega) fun r1 H7 n7 e7 h7 => ?_
    walk_at "rd"
    have ra1 : RowsA H7 (wMem rb.mem :: rb.ords.map wOrd) (.ref a4 :: xs2) := (ra2.append (ra0.ex e6)).ex e7
    have E7 := (E5.trans e6).trans e7
    refine st_ixT hx E7.kp (atI_nat (j := 2) rfl) fun vp hvp => ?_
    refine st_lcRows (f := wordsP) hvp (Kp.refl _) (by rw [List.length_map]; rw [rowsW_len] at hrow; omega) (fun _ => rfl) (fun d v H' R hd e hv r => ?_) fun l3 H8 xs3 n8 e8 hl3 ra3 => ?_
    · obtain ⟨d, hd', rfl⟩ := List.mem_map.mp hd
      obtain ⟨s1, s2, s3⟩ := sm.prog d hd'
      walk_at "rd"
      refine st_ixT_str hv (Kp.refl _) (atI_nat (j := 0) rfl) ?_
      walk_at "rd"
      refine st_newL (by simp) fun b1 G1 m1 d1 g1 => ?_
      walk_at "rd"
      refine st_slFrom (k := 1) (hv.ex d1) (Kp.refl _) (by simp) fun vt Gt dt hvt => ?_
      refine st_lcStr (f := strD) hvt (Kp.refl _) (by simp; omega) (fun _ => rfl) (fun d v H' R hd e hv r => ?_) fun b2 G2 m2 d2 g2 => ?_
      · obtain ⟨n, hn, rfl⟩ := List.mem_map.mp hd
        cases Im.int_iff.mp hv
        walk_at "rd"
        exact st_str (s2 n hn) (r _ (Ex.refl _))
      refine tx_cat (d2 _ _ (dt _ _ g1)) g2 (by simp; omega) fun b3 G3 m3 d3 g3 => ?_
      exact r b3 G3 (((d1.trans dt).trans d2).free m3) (((d1.trans dt).trans d2).trans d3) g3
    rw [wordsP_prog] at ra3
    have hl3' : xs3.length ≤ 100 := by
      rw [ra3.length, List.length_map]
      rw [rowsW_len] at hrow
      omega
    refine tx_cat (e8 _ _ h7) hl3 (by simp; omega) fun r2 H9 n9 e9 h9 => ?_
    walk_at "rd"
    have raR : RowsA H9 (rowsW rb) (.ref a4 :: xs2 ++ xs3) := (ra3.append (ra1.ex e8)).ex e9
    have E9 := (E7.trans e8).trans e9
    refine st_tM1 ?_
    walk_at "rd"
    refine tyS ?_
    walk_at "rd"
    refine st_lcJoins (f := rowT) h9 raR (by omega) (fun _ => rfl) (fun r a H' R hr e ha q' => ?_) fun l4 H10 n10 e10 hl4 => ?_
    · refine st_tM1 ?_
      walk_at "rd"
      refine tyS ?_
      walk_at "rd"
      have z := row_len (sm.rows r hr)
      have z2 := sm.few hm19 r hr
      exact st_join (SqL.of ha) (by
        have : r.length * 21 ≤ 20 * 21 := Nat.mul_le_mul_right _ z2
        omega) q'
    refine st_join (SqL.of hl4) (Nat.le_trans (sm.joinLen hm19 hrow) (by decide)) ?_
    exact q _ (E9.trans e10)
/-! ### _law_told -/
theorem sc__law_told : FnScope ["_law_board_here", "_law_pace_here", "_law_found"] ["_law_board_here", "_law_pace_here"] (defScope s__law_told) := ⟨rfl, rfl, rfl, by decide +kernel, rfl, by decide +kernel, by decide +kernel⟩
def sp_law_told : Sp := fun vs H Q _ => ∃ (x : V) (b : Bd) (a : Addr) (pace : List Bool), vs = [x, .ref a] ∧ Im H (pyB b.raw) x ∧ Good b ∧ b.prog.length ≤ 8 ∧ H a = some (.lst (pace.map V.bl)) ∧ pace.length ≤ 10000 ∧
  ∀ (t : Addr) (xs : List V) (G : List Addr) H', Ex H H' → H t = none → H' t = some (.lst xs) → Items H' xs (toldD b pace) G → (∀ a ∈ G, H a = none) → t ∉ G → Q (.ref t) H'
theorem cal_law_told {P w base K mg c} (T : Txt K mg c) : Cal CX0 P w K mg base 11 "_law_told" sp_law_told := by
  obtain ⟨f, fd, F, m⟩ := T.F__law_told
  have c_story := cal_story (P := P) (w := w) (base := base) T
  have c_ended := cal_ended (P := P) (w := w) (base := base) T
  have c_plain_end := cal_plain_end (P := P) (w := w) (base := base) T
  have c_sights := cal_sights (P := P) (w := w) (base := base) T
  have c_amiss := cal_amiss (P := P) (w := w) (base := base) T
  have c_fully := cal_fully (P := P) (w := w) (base := base) T
  have c_judged := cal_judged (P := P) (w := w) (base := base) T
  have c_written := cal_written (P := P) (w := w) (base := base) T
  have c_fenced := cal_fenced (P := P) (w := w) (base := base) T
  refine cal_of F m (fun _ _ _ _ _ _ us hl => match us, hl with | [_, _], _ => rfl) sc__law_told (fun vs H Q E h => ?_) (fun cdv A outer s H vs Q E hr h => ?_)
  · obtain ⟨x, b, a, pace, rfl, _⟩ := h
    rfl
  · obtain ⟨x, b, a, pace, rfl, hx, g, h8, ha, hp, q⟩ := h
    obtain ⟨gok, grows, gbeats⟩ := gone_ok g pace
    have sm := plainOf_small g
    have hsr := sm.r
    have hsf := sm.f
    have hal := amissOf_len g pace
    have hfc := fully_count g
    have h4 := g.lines
    refine ⟨_, (pss_cons (ps_set (i := 2) sc__law_told.nd rfl (.inl rfl) (pe_lst (pa_cons (pe_c c_story hr (by decide) (by rfl) (pa_cons (pv 0) (pa_cons (pv 1) pa_nil))) (pa_cons (pe_c c_ended hr (by decide) (by rfl) (pa_cons (pv 0) (pa_cons (pv 1) pa_nil))) (pa_cons (pe_c c_plain_end hr (by decide) (by rfl) (pa_cons (pv 0) pa_nil)) (pa_cons (pe_c c_sights hr (by decide) (by rfl) (pa_cons (pv 0) pa_nil)) (pa_cons (pe_c c_amiss hr (by decide) (by rfl) (pa_cons (pv 0) (pa_cons (pv 1) pa_nil))) (pa_cons (pe_c c_fully hr (by decide) (by rfl) (pa_cons (pv 0) pa_nil)) pa_nil))))))))
      (pss_one (ps_ret (pe_op op_cat (pv 2) (pe_lst (pa_cons (pe_ix ix_tup (pe_c c_judged hr (by decide) (by rfl) (pa_cons (pv 0) pa_nil)) pe_int (fun _ _ => rfl)) (pa_cons (pe_c c_written hr (by decide) (by rfl) (pa_cons (pv 0) pa_nil)) (pa_cons (pe_c c_fenced hr (by decide) (by rfl) (pa_cons (pv 0) (pa_cons (pe_lst (pa_cons (pe_tup (pa_cons pe_int (pa_cons (pe_tup (pa_cons pe_str pa_nil)) pa_nil))) (pa_cons (pe_tup (pa_cons pe_int (pa_cons (pe_tup (pa_cons pe_str (pa_cons pe_int pa_nil))) pa_nil))) pa_nil))) pa_nil))) pa_nil)))))))), ?_⟩
    walk_at "rd"
    refine ⟨x, b, a, pace, rfl, hx, g, ha, hp, fun l0 H1 hl0 => ?_⟩
    obtain ⟨n0, e1, x0, hl0, i0⟩ := hl0
    walk_at "rd"
    refine ⟨x, b, a, pace, rfl, hx.ex e1, g, e1 _ _ ha, hp, fun v1 H2 e2 hv1 => ?_⟩
    walk_at "rd"
    have E2 := e1.trans e2
    refine ⟨x, b, rfl, hx.ex E2, g, fun v2 H3 e3 hv2 => ?_⟩
    walk_at "rd"
    have E3 := E2.trans e3
    refine ⟨x, b, rfl, hx.ex E3, g, fun t3 r3 f3 H4 e4 nr3 nf3 nrf ht3 hr3 hf3 => ?_⟩
    obtain ⟨xr3, hr3, ir3⟩ := hr3
    obtain ⟨xf3, hf3, if3⟩ := hf3
    walk_at "rd"
    have E4 := E3.trans e4
    refine ⟨x, b, a, pace, rfl, hx.ex E4, g, E4 _ _ ha, hp, fun l4 H5 hl4 => ?_⟩
    obtain ⟨n4, e5, x4, hl4, i4⟩ := hl4
    walk_at "rd"
    have E5 := E4.trans e5
    refine ⟨x, b, rfl, hx.ex E5, g, fun l5 H6 hl5 => ?_⟩
    obtain ⟨n5, e6, x5, hl5, i5⟩ := hl5
    have E6 := E5.trans e6
    walk_at "rd"
    refine st_newL (by simp) fun fl H7 n7 e7 h7 => ?_
    walk_at "rd"
    have E7 := E6.trans e7
    have fw : Few b 16000000 := by
      refine few_tree g ?_
      have hs : (b.prog.flatMap (startMoves b.ords)).length ≤ 96 := moves_all g
      calc 2 ^ b.prog.length * (b.prog.length + (b.prog.flatMap (startMoves b.ords)).length + 1) ≤ 2 ^ 8 * (8 + 96 + 1) := Nat.mul_le_mul (Nat.pow_le_pow_right (by decide) h8) (by omega)
        _ ≤ 16000000 := by decide
    have rest : ∀ H8 (z : V), Ex H7 H8 → z = .str (wordOf b) → tCons (tCall sp_written [] L2.E0 (tCons (tVar 0) tNil)) (tCons (tCall sp_fenced [] L2.E0 (tCons (tVar 0) (tCons (tLst (tCons (tTup (tCons (tC (.int 0)) (tCons (tTup (tCons (tC (.str "wait")) tNil)) tNil))) (tCons (tTup (tCons (tC (.int 0)) (tCons (tTup (tCons (tC (.str "drop")) (tCons (tC (.int 0)) tNil))) tNil))) tNil))) tNil))) tNil)
        [some x, some (.ref a), some (.ref fl)] H8 fun xs H9 => NewL H9 (z :: xs) fun y H10 => rCat (.ref fl) y H10 Q := fun H8 z e8 hz => by
      subst hz
      walk_at "rd"
      have E8 := E7.trans e8
      refine ⟨x, b, rfl, hx.ex E8, g, fun H9 e9 => ?_⟩
      walk_at "rd"
      refine st_newT (by simp) fun w1 G1 m1 d1 g1 => ?_
      walk_at "rd"
      refine st_newT (by simp) fun w2 G2 m2 d2 g2 => ?_
      walk_at "rd"
      refine st_newT (by simp) fun w3 G3 m3 d3 g3 => ?_
      walk_at "rd"
      refine st_newT (by simp) fun w4 G4 m4 d4 g4 => ?_
      walk_at "rd"
      refine st_newL (by simp) fun fn G5 m5 d5 g5 => ?_
      walk_at "rd"
      have D5 := (((e9.trans d1).trans d2).trans (d3.trans d4)).trans d5
      have i1 : Im G5 (pyF (TF.raw (0, Deed.wait))) (.ref w2) := im_tup ((d3.trans (d4.trans d5)) _ _ g2) (iml_cons im_int (iml_cons (im_tup ((d2.trans (d3.trans (d4.trans d5))) _ _ g1) (iml_cons im_str iml_nil)) iml_nil))
      have i2 : Im G5 (pyF (TF.raw (0, Deed.drop 0))) (.ref w4) := im_tup (d5 _ _ g4) (iml_cons im_int (iml_cons (im_tup ((d4.trans d5) _ _ g3) (iml_cons im_str (iml_cons im_int iml_nil))) iml_nil))
      refine ⟨x, b.raw, fn, _, two.map TF.raw, rfl, hx.ex (E8.trans D5), g5, iml_cons i1 (iml_cons i2 iml_nil), by decide, two_ok g, g.raw, ?_, fun v8 G6 d6 hv8 => ?_⟩
      · rw [with_raw]
        exact (two_good g (by omega)).raw
      rw [with_raw] at hv8
      walk_at "rd"
      refine st_newL (by simp) fun sl G7 m7 d7 g7 => ?_
      have D7 := (e8.trans D5).trans (d6.trans d7)
      refine tx_cat (D7 _ _ h7) g7 (by simp) fun t H10 n10 e10 h10 => ?_
      have A1 : Ex H1 H10 := ((((((e2.trans e3).trans e4).trans e5).trans e6).trans e7).trans D7).trans e10
      have A2 : Ex H2 H10 := (((((e3.trans e4).trans e5).trans e6).trans e7).trans D7).trans e10
      have A3 : Ex H3 H10 := ((((e4.trans e5).trans e6).trans e7).trans D7).trans e10
      have A4 : Ex H4 H10 := (((e5.trans e6).trans e7).trans D7).trans e10
      have A5 : Ex H5 H10 := ((e6.trans e7).trans D7).trans e10
      have A6 : Ex H6 H10 := (e7.trans D7).trans e10
      have nt : H t = none := (E7.trans D7).free n10
      have live : ∀ {c : Addr} {o : HO}, G7 c = some o → t ≠ c := fun h z => by
        rw [z, h] at n10
        cases n10
      refine q t _ ([l0] ++ ([] ++ ([] ++ ([r3, f3] ++ ([l4] ++ ([l5] ++ ([] ++ ([] ++ ([] ++ [])))))))))  H10 ((E7.trans D7).trans e10) nt h10 ?_ ?_ ?_
      · refine .cons (.lst (A1 _ _ hl0) (i0.ex A1) (by rw [List.length_map]; omega)) (.cons (.im (hv1.ex A2)) (.cons (.im (hv2.ex A3)) (.cons (.two (A4 _ _ ht3) (A4 _ _ hr3) (ir3.ex A4) (A4 _ _ hf3) (if3.ex A4) (by rw [List.length_map]; omega) (by rw [List.length_map]; omega)) (.cons (.lst (A5 _ _ hl4) (i4.ex A5) (by rw [List.length_map]; omega)) (.cons (.lst (A6 _ _ hl5) (i5.ex A6) ?_) (.cons (.im im_str) (.cons (.im im_str) (.cons (.im (hv8.ex (d7.trans e10))) .nil))))))))
        unfold pyTFs
        rw [List.length_map, List.length_map]
        omega
      · intro c hc
        simp only [List.cons_append, List.nil_append, List.append_nil, List.mem_cons, List.not_mem_nil, or_false] at hc
        rcases hc with rfl | rfl | rfl | rfl | rfl
        · exact n0
        · exact E3.free nr3
        · exact E3.free nf3
        · exact E4.free n4
        · exact E5.free n5
      · intro hc
        simp only [List.cons_append, List.nil_append, List.append_nil, List.mem_cons, List.not_mem_nil, or_false] at hc
        have B7 := e7.trans D7
        rcases hc with z | z | z | z | z
        · exact live ((((((e2.trans e3).trans e4).trans e5).trans e6).trans B7) _ _ hl0) z
        · exact live (((e5.trans e6).trans B7) _ _ hr3) z
        · exact live (((e5.trans e6).trans B7) _ _ hf3) z
        · exact live ((e6.trans B7) _ _ hl4) z
        · exact live (B7 _ _ hl5) z
    refine ⟨x, b, rfl, hx.ex E7, g, fw, fun hs v H8 e8 hv => ?_, fun pace' r t l vr H8 hr1 hp' e8 nt nl ht hl hvr => ?_⟩
    · walk_at "rd"
      refine st_ixT_str hv (Kp.refl _) (atI_nat (j := 0) rfl) ?_
      exact rest H8 _ e8 (by rw [wordOf_sure hs])
    · have hbad : Bad b (MS.init b) := (bad_iff g).mpr ⟨pace', fun z => by rw [z] at hr1; cases hr1⟩
      walk_at "rd"
      refine ⟨t, _, 0, .str "torn", rfl, rfl, SqT.of ht, atI_nat (j := 0) rfl, ?_⟩
      exact rest H8 _ e8 (by rw [wordOf_bad hbad])
/-! ### _law_spoil -/
theorem sc__law_spoil : FnScope ["_law_found", "_law_one", "_law_part"] ["_law_found"] (defScope s__law_spoil) := ⟨rfl, rfl, rfl, by decide +kernel, rfl, by decide +kernel, by decide +kernel⟩
def sp_law_spoil : Sp := fun vs H Q _ => ∃ (t : Addr) (xs : List V) (ds : List PyData) (G : List Addr), vs = [.ref t] ∧ H t = some (.lst xs) ∧ Items H xs ds G ∧ t ∉ G ∧ xs.length ≤ 1000 ∧ ∀ H', Fr G H H' → Kp H H' → Q .non H'
theorem cal_law_spoil {P w base K mg c} (T : Txt K mg c) : Cal CX0 P w K mg base 1 "_law_spoil" sp_law_spoil := by
  obtain ⟨f, fd, F, m⟩ := T.F__law_spoil
  refine cal_of F m (fun _ _ _ _ _ _ us hl => match us, hl with | [_], _ => rfl) sc__law_spoil (fun vs H Q E h => ?_) (fun cdv A outer s H vs Q E hr h => ?_)
  · obtain ⟨t, xs, ds, G, rfl, _⟩ := h
    rfl
  · obtain ⟨t, xs, ds, G, rfl, ht, hi, htG, hl, q⟩ := h
    refine ⟨_, (pss_one (ps_for PassesOwn.never rfl (pi_list (pv 0)) (pg_name (i := 1) sc__law_spoil.nd rfl (.inl rfl))
      (pss_cons (ps_if (pt_val (pe_callB call_isi (by rfl) T.isinstance (by decide +kernel) (pa_cons (pv 1) (pa_cons (pe_bltn (v := .ty "tuple") (u := .type "tuple") (by rfl) T.tuple (by decide +kernel) rfl) pa_nil)))) (pss_one (ps_for PassesOwn.never rfl (pi_tup (pv 1)) (pg_name (i := 2) sc__law_spoil.nd rfl (.inl rfl))
      (pss_one (ps_if (pt_val (pe_callB call_isi (by rfl) T.isinstance (by decide +kernel) (pa_cons (pv 2) (pa_cons (pe_bltn (v := .ty "list") (u := .type "list") (by rfl) T.list (by decide +kernel) rfl) pa_nil)))) (pss_one (ps_expr (pe_bm PySem.F.plainAttrs_list PySem.F.slot_list_append PySem.F.type_list_append mt_append (pv 2) (pa_cons (pe_tup (pa_cons pe_int (pa_cons pe_int pa_nil))) pa_nil)))) pss_nil)))) pss_nil)
      (pss_one (ps_if (pt_val (pe_callB call_isi (by rfl) T.isinstance (by decide +kernel) (pa_cons (pv 1) (pa_cons (pe_bltn (v := .ty "list") (u := .type "list") (by rfl) T.list (by decide +kernel) rfl) pa_nil)))) (pss_one (ps_expr (pe_bm0 PySem.F.plainAttrs_list PySem.F.slot_list_clear PySem.F.type_list_clear mt_clear (pv 1)))) pss_nil))))), ?_⟩
    walk_at "rd"
    refine st_walkL ht (fun i σ' H' => ∃ y1 y2, σ' = [some (.ref t), y1, y2] ∧ Fr G H H' ∧ Kp H H' ∧ ListsOk H' G (50000 + 2 * i)) ⟨_, _, rfl, Fr.refl _ _, Kp.refl _, hi.lists⟩ (fun i σ' H' p => ?_) (fun i v σ' H' hv p => ?_) (fun σ' H' p => ?_)
    · obtain ⟨_, _, _, f, _⟩ := p
      exact f _ _ ht htG
    · obtain ⟨y1, y2, rfl, f, k, L⟩ := p
      have hi1000 : i < xs.length := (List.getElem?_eq_some_iff.mp hv).1
      obtain ⟨d, F0, hit, hd, hF⟩ := hi.at hv
      have mono : ∀ H2 n, n ≤ 50000 + 2 * (i + 1) → ListsOk H2 G n → ListsOk H2 G (50000 + 2 * (i + 1)) := fun H2 n hn L a ha => by
        obtain ⟨xs, ds, h1, h2, h3⟩ := L a ha
        exact ⟨xs, ds, h1, h2, Nat.le_trans h3 hn⟩
      -- one of the lists changes
      have put : ∀ (H1 H2 : Hp) (a : Addr) (n : Nat) (zs : List V) (es : List PyData), a ∈ G → ListsOk H1 G n → Fr [a] H1 H2 → Kp H1 H2 → H2 a = some (.lst zs) → ImL H2 es zs → zs.length ≤ n + 1 → ListsOk H2 G (n + 1) := fun H1 H2 a n zs es ha L f k h1 h2 h3 c hc => by
        by_cases hca : c = a
        · subst hca
          exact ⟨zs, es, h1, h2, h3⟩
        · obtain ⟨xs, ds, g1, g2, g3⟩ := L c hc
          exact ⟨xs, ds, f _ _ g1 (by simp; exact hca), g2.kp k, by omega⟩
      have sub : ∀ {H1 H2 : Hp} {a : Addr}, a ∈ G → Fr [a] H1 H2 → Fr G H1 H2 := fun ha f => f.mono fun c hc => by
        rw [List.mem_singleton.mp hc]
        exact ha
      walk_at "rd"
      cases hit with
      | im hm =>
        have hm' := hm.kp k
        refine st_isi (hm'.dp _ _) (b := decide (tyN d = "tuple")) ?_ ?_
        · rcases im_ty hm with ⟨e, _⟩ | e
          · rw [e]
            exact kb_tuple_tuple
          · rw [e, decide_eq_false (fun z => by rw [z] at e; exact absurd (kb_tuple_tuple.symm.trans e) (by simp))]
        walk_at "rd"
        have tail : ∀ y2, tIfS (tB (tCB (rIsi K) (tCons (tVar 1) (tCons (tC (.ty "list")) tNil)))) (tDrop (tBM0 K "list" rClear (tVar 1))) tNext { nx := (fun σ' H' => ∃ y1 y2, σ' = [some (.ref t), y1, y2] ∧ Fr G H H' ∧ Kp H H' ∧ ListsOk H' G (50000 + 2 * (i + 1))), rt := Q } [some (.ref t), some v, y2] H' := fun y2 => by
          walk_at "rd"
          refine st_isi (hm'.dp _ _) (im_notlist hm) ?_
          walk_at "rd"
          exact ⟨_, _, rfl, f, k, mono _ _ (by omega) L⟩
        refine st_D (fun e => ?_) (fun e => ?_)
        · obtain ⟨es, rfl⟩ : ∃ es, d = .tuple es := by
            rcases im_ty hm with ⟨_, h⟩ | h
            · exact h
            · rw [e] at h
              exact absurd (kb_tuple_tuple.symm.trans h) (by simp)
          walk_at "rd"
          refine st_walkT hm' (Kp.refl _) (fun j σ' H'' => ∃ y2, σ' = [some (.ref t), some v, y2] ∧ H'' = H') ⟨_, rfl, rfl⟩ (fun j σ' H'' p => ?_) (fun j e v' σ' H'' he p hv' => ?_) (fun σ' H'' p => ?_)
          · obtain ⟨_, _, rfl⟩ := p
            exact Kp.refl _
          · obtain ⟨y2, rfl, rfl⟩ := p
            walk_at "rd"
            refine st_isi (hv'.dp _ _) (im_notlist hv') ?_
            walk_at "rd"
            exact ⟨_, rfl, rfl⟩
          · obtain ⟨y2, rfl, rfl⟩ := p
            exact tail _
        · exact tail _
      | @lst l zs es hz iz nz =>
        obtain ⟨ws, gs, g1, g2, g3⟩ := L l (hF l List.mem_cons_self)
        refine st_isi (lst_dp g1 g2) kb_list_tuple ?_
        walk_at "rd"
        refine st_isi (lst_dp g1 g2) kb_list_list ?_
        walk_at "rd"
        refine tyL g1 ?_
        refine st_clear g1 fun H2 f2 k2 h2 => ?_
        walk_at "rd"
        exact ⟨_, _, rfl, f.trans (sub (hF l List.mem_cons_self) f2), k.trans k2, mono _ _ (by omega) (put _ _ l _ [] [] (hF l List.mem_cons_self) L f2 k2 h2 iml_nil (by simp))⟩
      | @two tt r f0 zs ys es gs htt hr0 ir hf0 jf n1 n2 =>
        have hr1 := hF r List.mem_cons_self
        have hf1 := hF f0 (List.mem_cons_of_mem _ List.mem_cons_self)
        have htt' := k _ _ htt
        have dpt : ∀ H2 n, H2 tt = some (.tup [.ref r, .ref f0]) → ListsOk H2 G n → ∃ d, Dp K H2 (.ref tt) d ∧ tyN d = "tuple" := fun H2 n h L => by
          obtain ⟨_, _, a1, a2, _⟩ := L r hr1
          obtain ⟨_, _, b1, b2, _⟩ := L f0 hf1
          exact ⟨.tuple [.list _, .list _], .tup (SqT.of h) (.cons (lst_dp a1 a2) (.cons (lst_dp b1 b2) .nil)), rfl⟩
        obtain ⟨d1, D1, e1⟩ := dpt H' _ htt' L
        refine st_isi D1 (b := true) (by rw [e1]; exact kb_tuple_tuple) ?_
        walk_at "rd"
        refine tx_walkT htt' (fun j σ' H'' => ∃ y2, σ' = [some (.ref t), some (.ref tt), y2] ∧ Fr G H' H'' ∧ Kp H' H'' ∧ ListsOk H'' G (50000 + 2 * i + j)) ⟨_, rfl, Fr.refl _ _, Kp.refl _, L⟩ (fun j σ' H'' p => ?_) (fun j v' σ' H'' hv' p => ?_) (fun σ' H'' p => ?_)
        · obtain ⟨_, _, _, k', _⟩ := p
          exact k' _ _ htt'
        · obtain ⟨y2, rfl, f', k', L'⟩ := p
          obtain ⟨a, haG, rfl⟩ : ∃ a, a ∈ G ∧ v' = .ref a := by
            match j, hv' with
            | 0, hv' => exact ⟨r, hr1, (Option.some.inj hv').symm⟩
            | 1, hv' => exact ⟨f0, hf1, (Option.some.inj hv').symm⟩
            | j + 2, hv' => simp at hv'
          have hj : j < 2 := (List.getElem?_eq_some_iff.mp hv').1
          obtain ⟨ws, hs, g1, g2, g3⟩ := L' a haG
          walk_at "rd"
          refine st_isi (lst_dp g1 g2) kb_list_list ?_
          walk_at "rd"
          refine tyL g1 ?_
          walk_at "rd"
          refine st_newT (by simp) fun z H3 n3 e3 h3 => ?_
          walk_at "rd"
          refine st_app (e3 _ _ g1) (sz_lt (by omega)) fun H4 f4 k4 h4 => ?_
          have L3 : ListsOk H3 G (50000 + 2 * i + j) := fun c hc => by
            obtain ⟨xs, ds, h1, h2, h3⟩ := L' c hc
            exact ⟨xs, ds, e3 _ _ h1, h2.ex e3, h3⟩
          exact ⟨_, rfl, (f'.trans e3.fr).trans (sub haG f4), (k'.trans e3.kp).trans k4, put _ _ a (50000 + 2 * i + j) _ _ haG L3 f4 k4 h4 (((g2.ex e3).kp k4).append (iml_cons ((im_tup h3 (iml_cons im_int (iml_cons im_int iml_nil))).kp k4) iml_nil)) (by rw [List.length_append]; simp only [List.length_cons, List.length_nil]; omega)⟩
        · obtain ⟨y2, rfl, f', k', L'⟩ := p
          obtain ⟨d2, D2, e2⟩ := dpt H'' _ (k' _ _ htt') L'
          walk_at "rd"
          refine st_isi D2 (b := false) (by rw [e2]; exact kb_tuple_list) ?_
          walk_at "rd"
          exact ⟨_, _, rfl, f.trans f', k.trans k', mono _ _ (by simp only [List.length_cons, List.length_nil]; omega) L'⟩
    · obtain ⟨y1, y2, rfl, f, k, L⟩ := p
      exact q H' f k
/-! ### _law_kept -/
theorem sc__law_kept : FnScope ["_law_found", "_law_kept_here", "_law_one", "_law_part"] ["_law_found"] (defScope s__law_kept) := ⟨rfl, rfl, rfl, by decide +kernel, rfl, by decide +kernel, by decide +kernel⟩
def sp_law_kept : Sp := fun vs H Q _ => ∃ (t : Addr) (xs : List V) (ds : List PyData) (G : List Addr), vs = [.ref t] ∧ H t = some (.lst xs) ∧ Items H xs ds G ∧ xs.length ≤ 1000 ∧ (∀ d ∈ ds, ∀ es, d = .tuple es → es.length ≤ 50000) ∧
  ∀ (k : Addr) (ys : List V) (G' : List Addr) H', Ex H H' → H k = none → H' k = some (.lst ys) → Items H' ys ds G' → (∀ a ∈ G', H a = none) → k ∉ G' → Q (.ref k) H'
theorem cal_law_kept {P w base K mg c} (T : Txt K mg c) : Cal CX0 P w K mg base 1 "_law_kept" sp_law_kept := by
  obtain ⟨f, fd, F, m⟩ := T.F__law_kept
  refine cal_of F m (fun _ _ _ _ _ _ us hl => match us, hl with | [_], _ => rfl) sc__law_kept (fun vs H Q E h => ?_) (fun cdv A outer s H vs Q E hr h => ?_)
  · obtain ⟨t, xs, ds, G, rfl, _⟩ := h
    rfl
  · obtain ⟨t, xs, ds, G, rfl, ht, hi, hl, hb, q⟩ := h
    refine ⟨_, (pss_cons (ps_set (i := 1) sc__law_kept.nd rfl (.inl rfl) (pe_lst pa_nil))
      (pss_cons (ps_for PassesOwn.never rfl (pi_list (pv 0)) (pg_name (i := 2) sc__law_kept.nd rfl (.inl rfl))
      (pss_one (ps_if (pt_val (pe_callB call_isi (by rfl) T.isinstance (by decide +kernel) (pa_cons (pv 2) (pa_cons (pe_bltn (v := .ty "tuple") (u := .type "tuple") (by rfl) T.tuple (by decide +kernel) rfl) pa_nil)))) (pss_one (ps_expr (pe_bm PySem.F.plainAttrs_list PySem.F.slot_list_append PySem.F.type_list_append mt_append (pv 1) (pa_cons (pe_callTy c_tuple (by rfl) T.tuple (by decide +kernel) (pa_cons (pe_lc (own := [("_law_part", 3)]) (g := (gName 3)) (tt := tYes) (te := (tIf (tB (tCB (rIsi K) (tCons (tVar 3) (tCons (tC (.ty "list")) tNil)))) (tCB (rListOf K) (tCons (tVar 3) tNil)) (tVar 3))) rfl sc__law_kept.nd (pi_tup (pv 2)) (blkOk_by (N := ["_law_found", "_law_kept_here", "_law_one", "_law_part"]) (sc := defScope s__law_kept) (own := [("_law_part", 3)]) (by decide +kernel)) (fun _ _ _ _ _ => (pg_name (i := 3) sc__law_kept.nd rfl (.inl rfl))) (fun _ _ _ _ _ => pts_nil) (fun _ _ _ _ _ => (pe_ifExp (pt_val (pe_callB call_isi (by rfl) T.isinstance (by decide +kernel) (pa_cons (pv 3) (pa_cons (pe_bltn (v := .ty "list") (u := .type "list") (by rfl) T.list (by decide +kernel) rfl) pa_nil)))) (pe_callTy c_list (by rfl) T.list (by decide +kernel) (pa_cons (pv 3) pa_nil)) (pv 3)))) pa_nil)) pa_nil)))) (pss_one (ps_expr (pe_bm PySem.F.plainAttrs_list PySem.F.slot_list_append PySem.F.type_list_append mt_append (pv 1) (pa_cons (pe_ifExp (pt_val (pe_callB call_isi (by rfl) T.isinstance (by decide +kernel) (pa_cons (pv 2) (pa_cons (pe_bltn (v := .ty "list") (u := .type "list") (by rfl) T.list (by decide +kernel) rfl) pa_nil)))) (pe_callTy c_list (by rfl) T.list (by decide +kernel) (pa_cons (pv 2) pa_nil)) (pv 2)) pa_nil)))))))
      (pss_one (ps_ret (pv 1))))), ?_⟩
    walk_at "rd"
    refine st_newL (by simp) fun kl H1 n1 e1 h1 => ?_
    walk_at "rd"
    have e0 := e1
    refine st_walkL (e1 _ _ ht) (fun i σ' H' => ∃ y2 y3 ys G', σ' = [some (.ref t), some (.ref kl), y2, y3] ∧ Ex H H' ∧ H' kl = some (.lst ys) ∧ ys.length = i ∧ Items H' ys (ds.take i) G' ∧ (∀ a ∈ G', H a = none) ∧ kl ∉ G')
      ⟨_, _, [], [], rfl, e1, h1, rfl, .nil, by simp, by simp⟩ (fun i σ' H' p => ?_) (fun i v σ' H' hv p => ?_) (fun σ' H' p => ?_)
    · obtain ⟨_, _, _, _, _, e, _⟩ := p
      exact e _ _ ht
    · obtain ⟨y2, y3, ys, G', rfl, e, hk, hyl, hI, hN, hkG⟩ := p
      have hi1000 : i < xs.length := (List.getElem?_eq_some_iff.mp hv).1
      obtain ⟨d, F0, hit, hd, hF⟩ := hi.at hv
      -- the item z is put behind
      have fin : ∀ (z : V) (F1 : List Addr) (H2 : Hp), Ex H' H2 → Item H2 z d F1 → (∀ a ∈ F1, H' a = none) → ∀ y3 : Option V, rAppend (.ref kl) [z] H2 fun _ H3 => ∃ y2' y3' ys G', [some (.ref t), some (.ref kl), some v, y3] = [some (.ref t), some (.ref kl), y2', y3'] ∧ Ex H H3 ∧ H3 kl = some (.lst ys) ∧ ys.length = i + 1 ∧ Items H3 ys (ds.take (i + 1)) G' ∧ (∀ a ∈ G', H a = none) ∧ kl ∉ G' := fun z F1 H2 e2 hz hF1 y3 => by
        have nk1 : kl ∉ F1 := fun h => by
          have := hF1 kl h
          rw [hk] at this
          cases this
        refine st_app (e2 _ _ hk) (sz_lt (by omega)) fun H3 f3 k3 h3 => ?_
        refine ⟨some v, y3, ys ++ [z], G' ++ F1, rfl, Fr.ex (e.trans e2) (fun a ha => by rw [List.mem_singleton.mp ha]; exact n1) f3, h3, by simp [hyl], ?_, fun a ha => ?_, fun h => ?_⟩
        · rw [List.take_add_one, hd]
          exact Items.snoc (hz.fr f3 k3 fun a ha z => nk1 (by rw [List.mem_singleton.mp z] at ha; exact ha)) ((hI.ex e2).fr f3 k3 fun a ha z => hkG (by rw [List.mem_singleton.mp z] at ha; exact ha))
        · rcases List.mem_append.mp ha with ha | ha
          · exact hN a ha
          · exact e.free (hF1 a ha)
        · rcases List.mem_append.mp h with h | h
          · exact hkG h
          · exact nk1 h
      have hit' := hit.fr (F' := []) (H' := H') e.fr e.kp (by simp)
      walk_at "rd"
      cases hit' with
      | im hm =>
        refine st_isi (hm.dp _ _) (b := decide (tyN d = "tuple")) ?_ ?_
        · rcases im_ty hm with ⟨e, _⟩ | e
          · rw [e]
            exact kb_tuple_tuple
          · rw [e, decide_eq_false (fun z => by rw [z] at e; exact absurd (kb_tuple_tuple.symm.trans e) (by simp))]
        walk_at "rd"
        refine st_D (fun e' => ?_) (fun e' => ?_)
        · obtain ⟨es, rfl⟩ : ∃ es, d = .tuple es := by
            rcases im_ty hm with ⟨_, h⟩ | h
            · exact h
            · rw [e'] at h
              exact absurd (kb_tuple_tuple.symm.trans h) (by simp)
          obtain ⟨a, ps, rfl, ha, hps⟩ := hm.tup
          walk_at "rd"
          refine tyL hk ?_
          walk_at "rd"
          refine tx_lcTup ha fun D H2 nD e2 hD => ?_
          refine ⟨fun j H'' => Ex H' H'' ∧ H'' D = some (.lst (ps.take j)), ⟨e2, hD⟩, fun j H'' p => p.1 _ _ ha, fun j v' H'' hv' p => ?_, fun H'' p => ?_⟩
          · obtain ⟨d', g1, g2⟩ := hps.get' hv'
            have g2' := g2.ex p.1
            have hj : j < ps.length := (List.getElem?_eq_some_iff.mp hv').1
            have hle := hps.length
            refine ⟨rfl, ?_⟩
            with_reducible refine st_yes ?_
            with_reducible refine st_T ?_
            walk_at "rd"
            refine st_isi (g2'.dp _ _) (im_notlist g2') ?_
            walk_at "rd"
            have hes := hb _ (List.mem_of_getElem? hd) es rfl
            refine st_lcPut p.2 (by rw [List.length_take]; omega) fun H5 f5 k5 h5 => ?_
            refine ⟨Fr.ex p.1 (fun a ha => by rw [List.mem_singleton.mp ha]; exact nD) f5, ?_⟩
            rw [h5, List.take_add_one, hv']
            rfl
          · obtain ⟨p1, p2⟩ := p
            rw [List.take_length] at p2
            walk_at "rd"
            refine st_tupL p2 fun t2 H3 n3 e3 h3 => ?_
            walk_at "rd"
            exact fin (.ref t2) [] H3 (p1.trans e3) (.im (im_tup h3 (hps.ex (p1.trans e3)))) (by simp) y3
        · walk_at "rd"
          refine tyL hk ?_
          walk_at "rd"
          refine st_isi (hm.dp _ _) (im_notlist hm) ?_
          walk_at "rd"
          exact fin v [] H' (Ex.refl _) (.im hm) (by simp) y3
      | @lst l zs es hz iz nz =>
        refine st_isi (lst_dp hz iz) kb_list_tuple ?_
        walk_at "rd"
        refine tyL hk ?_
        walk_at "rd"
        refine st_isi (lst_dp hz iz) kb_list_list ?_
        walk_at "rd"
        refine st_listL hz fun l2 H2 n2 e2 h2 => ?_
        walk_at "rd"
        exact fin (.ref l2) [l2] H2 e2 (.lst h2 (iz.ex e2) nz) (fun a ha => by rw [List.mem_singleton.mp ha]; exact n2) y3
      | @two tt r f0 zs ys' es gs htt hr0 ir hf0 jf n1' n2 =>
        refine st_isi (d := .tuple [.list es, .list gs]) (.tup (SqT.of htt) (.cons (lst_dp hr0 ir) (.cons (lst_dp hf0 jf) .nil))) kb_tuple_tuple ?_
        walk_at "rd"
        refine tyL hk ?_
        walk_at "rd"
        refine tx_lcTup htt fun D H2 nD e2 hD => ?_
        refine ⟨fun j H'' => Ex H' H'' ∧ ((j = 0 ∧ H'' D = some (.lst [])) ∨ (j = 1 ∧ ∃ r2, H'' D = some (.lst [.ref r2]) ∧ H' r2 = none ∧ H'' r2 = some (.lst zs) ∧ r2 ∉ [D]) ∨
          (j = 2 ∧ ∃ r2 f2, H'' D = some (.lst [.ref r2, .ref f2]) ∧ H' r2 = none ∧ H'' r2 = some (.lst zs) ∧ H' f2 = none ∧ H'' f2 = some (.lst ys'))), ⟨e2, .inl ⟨rfl, hD⟩⟩, fun j H'' p => p.1 _ _ htt, fun j v' H'' hv' p => ?_, fun H'' p => ?_⟩
        · refine ⟨rfl, ?_⟩
          with_reducible refine st_yes ?_
          with_reducible refine st_T ?_
          obtain ⟨pe, pj⟩ := p
          walk_at "rd"
          match j, hv', pj with
          | 0, hv', pj =>
            cases (Option.some.inj hv')
            have pD : H'' D = some (.lst []) := by
              rcases pj with ⟨_, h⟩ | ⟨h, _⟩ | ⟨h, _⟩
              · exact h
              · cases h
              · cases h
            refine st_isi (lst_dp (pe _ _ hr0) (ir.ex pe)) kb_list_list ?_
            walk_at "rd"
            refine st_listL (pe _ _ hr0) fun r2 H3 n3 e3 h3 => ?_
            have rD : r2 ∉ [D] := fun z => by
              rw [List.mem_singleton.mp z, pD] at n3
              cases n3
            refine st_lcPut (e3 _ _ pD) (by simp) fun H5 f5 k5 h5 => ?_
            exact ⟨Fr.ex (pe.trans e3) (fun a ha => by rw [List.mem_singleton.mp ha]; exact nD) f5, .inr (.inl ⟨rfl, r2, h5, pe.free n3, f5 _ _ h3 rD, rD⟩)⟩
          | 1, hv', pj =>
            cases (Option.some.inj hv')
            obtain ⟨r2, pD, pr, pr2, rD⟩ : ∃ r2, H'' D = some (.lst [.ref r2]) ∧ H' r2 = none ∧ H'' r2 = some (.lst zs) ∧ r2 ∉ [D] := by
              rcases pj with ⟨h, _⟩ | ⟨_, h⟩ | ⟨h, _⟩
              · cases h
              · exact h
              · cases h
            refine st_isi (lst_dp (pe _ _ hf0) (jf.ex pe)) kb_list_list ?_
            walk_at "rd"
            refine st_listL (pe _ _ hf0) fun f2 H3 n3 e3 h3 => ?_
            have fD : f2 ∉ [D] := fun z => by
              rw [List.mem_singleton.mp z, pD] at n3
              cases n3
            refine st_lcPut (e3 _ _ pD) (by simp) fun H5 f5 k5 h5 => ?_
            exact ⟨Fr.ex (pe.trans e3) (fun a ha => by rw [List.mem_singleton.mp ha]; exact nD) f5, .inr (.inr ⟨rfl, r2, f2, h5, pr, f5 _ _ (e3 _ _ pr2) rD, pe.free n3, f5 _ _ h3 fD⟩)⟩
          | j + 2, hv', _ => simp at hv'
        · obtain ⟨pe, pj⟩ := p
          obtain ⟨r2, f2, pD, pr, pr2, pf, pf2⟩ : ∃ r2 f2, H'' D = some (.lst [.ref r2, .ref f2]) ∧ H' r2 = none ∧ H'' r2 = some (.lst zs) ∧ H' f2 = none ∧ H'' f2 = some (.lst ys') := by
            rcases pj with ⟨h, _⟩ | ⟨h, _⟩ | ⟨_, h⟩
            · cases h
            · cases h
            · exact h
          walk_at "rd"
          refine st_tupL pD fun t2 H3 n3 e3 h3 => ?_
          walk_at "rd"
          exact fin (.ref t2) [r2, f2] H3 (pe.trans e3) (.two h3 (e3 _ _ pr2) (ir.ex (pe.trans e3)) (e3 _ _ pf2) (jf.ex (pe.trans e3)) n1' n2) (fun a ha => by
            simp only [List.mem_cons, List.not_mem_nil, or_false] at ha
            rcases ha with rfl | rfl
            · exact pr
            · exact pf) y3
    · obtain ⟨y2, y3, ys, G', rfl, e, hk, hyl, hI, hN, hkG⟩ := p
      rw [hi.length, List.take_length] at hI
      walk_at "rd"
      exact q kl ys G' H' e n1 hk hI hN hkG
/-! ### _law_kinds -/
theorem sc__law_kinds : FnScope [] [] (defScope s__law_kinds) := ⟨rfl, rfl, rfl, by decide +kernel, rfl, by decide +kernel, by decide +kernel⟩
def kindsAll : List Str := ["set", "set", "add", "say", "say", "start", "start", "wait", "clean", "drop"]
def sp_law_kinds : Sp := fun vs H Q _ => vs = [] ∧ ∀ k H', H k = none → Ex H H' → H' k = some (.lst (kindsAll.map V.str)) → Q (.ref k) H'
theorem cal_law_kinds {P w base K mg c} (T : Txt K mg c) : Cal CX0 P w K mg base 1 "_law_kinds" sp_law_kinds := by
  obtain ⟨f, fd, F, m⟩ := T.F__law_kinds
  refine cal_of F m (fun _ _ _ _ _ _ us hl => match us, hl with | [], _ => rfl) sc__law_kinds (fun vs H Q E h => ?_) (fun cdv A outer s H vs Q E hr h => ?_)
  · obtain ⟨rfl, _⟩ := h
    rfl
  · obtain ⟨rfl, q⟩ := h
    refine ⟨_, (pss_one (ps_ret (pe_lst (pa_cons pe_str (pa_cons pe_str (pa_cons pe_str (pa_cons pe_str (pa_cons pe_str (pa_cons pe_str (pa_cons pe_str (pa_cons pe_str (pa_cons pe_str (pa_cons pe_str pa_nil))))))))))))), ?_⟩
    walk_at "rd"
    refine st_newL (by simp) fun k H1 nk e1 hk => ?_
    exact q k H1 nk e1 hk
/-! ### the law -/
theorem sc_law : FnScope ["_law_script", "_law_box", "_law_boards", "_law_turn", "_law_paces", "_law_told_here", "_law_k", "_law_kept_here", "_law_one", "_law_memory", "_law_orders", "_law_program", "_law_anew", "_law_order_here"] ["_law_script"] (defScope s_law) := ⟨rfl, rfl, rfl, by decide +kernel, rfl, by decide +kernel, by decide +kernel⟩
def sp_law (K : PySem.W.Frag) : Sp := fun vs H Q _ => ∃ (a : Addr) (ns : List Int), vs = [.ref a] ∧ SqL K H a (ns.map V.int) ∧ ns.length ≤ 63 ∧ ∀ H', Q (.bl true) H'
theorem ok_law {P w base K mg c f fd} (T : Txt K mg c) (F : Fun K "law" "law" s_law f fd) : FnOk P w K mg base CX0 12 f fd ["_law_script"] (sp_law K) := by
  have c__law_begun := cal_law_begun (P := P) (w := w) (base := base) T
  have c__law_kinds := cal_law_kinds (P := P) (w := w) (base := base) T
  have c__law_board := cal_law_board (P := P) (w := w) (base := base) T
  have c__law_pace := cal_law_pace (P := P) (w := w) (base := base) T
  have c__law_told := cal_law_told (P := P) (w := w) (base := base) T
  have c__law_kept := cal_law_kept (P := P) (w := w) (base := base) T
  have c__law_spoil := cal_law_spoil (P := P) (w := w) (base := base) T
  refine F.ok sc_law (fun vs H Q E h => ?_) (fun cdv A outer s H vs Q E hr h => ?_)
  · obtain ⟨a, ns, rfl, _⟩ := h
    rfl
  · obtain ⟨a, ns, rfl, hS, hlen, q⟩ := h
    refine ⟨_, (pss_cons (ps_set (i := 1) sc_law.nd rfl (.inr rfl) (pe_c c__law_begun hr (by decide) (by rfl) (pa_cons (pv 0) pa_nil)))
      (pss_cons (ps_set (i := 2) sc_law.nd rfl (.inr rfl) (pe_lc (own := [("_law_turn", 3)]) (g := (gName 3)) (tt := tYes) (te := (tCall sp_law_board [] L2.E0 (tCons (tVar 1) (tCons (tC (.int 3)) (tCons (tC (.int 8)) (tCons (tCall sp_law_kinds [] L2.E0 tNil) tNil)))))) rfl sc_law.nd (pi_range1 rfl T.range (pa_cons pe_int pa_nil)) (blkOk_by (N := ["_law_script", "_law_box", "_law_boards", "_law_turn", "_law_paces", "_law_told_here", "_law_k", "_law_kept_here", "_law_one", "_law_memory", "_law_orders", "_law_program", "_law_anew", "_law_order_here"]) (sc := defScope s_law) (own := [("_law_turn", 3)]) (by decide +kernel)) (fun _ _ _ _ _ => (pg_name (i := 3) sc_law.nd rfl (.inl rfl))) (fun _ _ _ _ _ => pts_nil) (fun _ _ _ _ _ => (pe_c c__law_board hr (by decide) (by rfl) (pa_cons (pv 1) (pa_cons pe_int (pa_cons pe_int (pa_cons (pe_c0 c__law_kinds hr (by decide) (by rfl)) pa_nil))))))))
      (pss_cons (ps_set (i := 4) sc_law.nd rfl (.inr rfl) (pe_lc (own := [("_law_turn", 3)]) (g := (gName 3)) (tt := tYes) (te := (tCall sp_law_pace [] L2.E0 (tCons (tVar 1) tNil))) rfl sc_law.nd (pi_range1 rfl T.range (pa_cons pe_int pa_nil)) (blkOk_by (N := ["_law_script", "_law_box", "_law_boards", "_law_turn", "_law_paces", "_law_told_here", "_law_k", "_law_kept_here", "_law_one", "_law_memory", "_law_orders", "_law_program", "_law_anew", "_law_order_here"]) (sc := defScope s_law) (own := [("_law_turn", 3)]) (by decide +kernel)) (fun _ _ _ _ _ => (pg_name (i := 3) sc_law.nd rfl (.inl rfl))) (fun _ _ _ _ _ => pts_nil) (fun _ _ _ _ _ => (pe_c c__law_pace hr (by decide) (by rfl) (pa_cons (pv 1) pa_nil)))))
      (pss_cons (ps_setLc (i := 5) (own := [("_law_k", 6)]) (g := (gName 6)) (tt := tYes) (te := (tCall sp_law_told [] L2.E0 (tCons (tOp (rIxL K) (tVar 2) (tVar 6)) (tCons (tOp (rIxL K) (tVar 4) (tVar 6)) tNil)))) rfl sc_law.nd rfl rfl (sw_true rfl rfl rfl (by decide +kernel)) (pi_range1 rfl T.range (pa_cons pe_int pa_nil)) (blkOk_by (N := ["_law_script", "_law_box", "_law_boards", "_law_turn", "_law_paces", "_law_told_here", "_law_k", "_law_kept_here", "_law_one", "_law_memory", "_law_orders", "_law_program", "_law_anew", "_law_order_here"]) (sc := defScope s_law) (own := [("_law_k", 6)]) (by decide +kernel)) (fun _ _ _ _ _ => (pg_name (i := 6) sc_law.nd rfl (.inl rfl))) (fun _ _ _ _ _ => pts_nil) (fun _ _ _ _ _ => (pe_c c__law_told hr (by decide) (by rfl) (pa_cons (pe_ix ix_list (pv 2) (pv 6) (fun _ _ => rfl)) (pa_cons (pe_ix ix_list (pv 4) (pv 6) (fun _ _ => rfl)) pa_nil)))))
      (pss_cons (ps_setLc (i := 7) (own := [("_law_one", 8)]) (g := (gName 8)) (tt := tYes) (te := (tCall sp_law_kept [] L2.E0 (tCons (tVar 8) tNil))) rfl sc_law.nd rfl rfl (sw_true rfl rfl rfl (by decide +kernel)) (pi_list (pv 5)) (blkOk_by (N := ["_law_script", "_law_box", "_law_boards", "_law_turn", "_law_paces", "_law_told_here", "_law_k", "_law_kept_here", "_law_one", "_law_memory", "_law_orders", "_law_program", "_law_anew", "_law_order_here"]) (sc := defScope s_law) (own := [("_law_one", 8)]) (by decide +kernel)) (fun _ _ _ _ _ => (pg_name (i := 8) sc_law.nd rfl (.inl rfl))) (fun _ _ _ _ _ => pts_nil) (fun _ _ _ _ _ => (pe_c c__law_kept hr (by decide) (by rfl) (pa_cons (pv 8) pa_nil))))
      (pss_cons (ps_for PassesOwn.never rfl (pi_list (pe_lst (pa_cons pe_int (pa_cons pe_int (pa_cons pe_int pa_nil))))) (pg_name (i := 6) sc_law.nd rfl (.inl rfl))
      (pss_cons (ps_expr (pe_c c__law_spoil hr (by decide) (by rfl) (pa_cons (pe_ix ix_list (pv 5) (pv 6) (fun _ _ => rfl)) pa_nil)))
      (pss_cons (ps_asg (pe_c c__law_told hr (by decide) (by rfl) (pa_cons (pe_ix ix_list (pv 2) (pv 6) (fun _ _ => rfl)) (pa_cons (pe_callTy c_list (by rfl) T.list (by decide +kernel) (pa_cons (pe_ix ix_list (pv 4) (pv 6) (fun _ _ => rfl)) pa_nil)) pa_nil))) (pg_sub (pv 5) (pv 6) set_list))
      (pss_one (ps_if (pt_cmpR (op_neD hr.units) (pe_ix ix_list (pv 5) (pv 6) (fun _ _ => rfl)) (pe_ix ix_list (pv 7) (pv 6) (fun _ _ => rfl)) (nomark _)) (pss_one (ps_ret pe_bl)) pss_nil)))))
      (pss_cons (ps_asg (pe_ix ix_list (pv 2) pe_int (fun _ _ => rfl)) (pg_tup (n := 3) rfl (pgs_cons (pg_name (i := 9) sc_law.nd rfl (.inl rfl)) (pgs_cons (pg_name (i := 10) sc_law.nd rfl (.inl rfl)) (pgs_cons (pg_name (i := 11) sc_law.nd rfl (.inl rfl)) pgs_nil)))))
      (pss_cons (ps_set (i := 12) sc_law.nd rfl (.inl rfl) (pe_tup (pa_cons (pe_callTy c_tuple (by rfl) T.tuple (by decide +kernel) (pa_cons (pe_callTy c_list (by rfl) T.list (by decide +kernel) (pa_cons (pv 9) pa_nil)) pa_nil)) (pa_cons (pe_callTy c_tuple (by rfl) T.tuple (by decide +kernel) (pa_cons (pe_lc (own := [("_law_order_here", 13)]) (g := (gName 13)) (tt := tYes) (te := (tCB (rTupOf K) (tCons (tCB (rListOf K) (tCons (tVar 13) tNil)) tNil))) rfl sc_law.nd (pi_tup (pv 10)) (blkOk_by (N := ["_law_script", "_law_box", "_law_boards", "_law_turn", "_law_paces", "_law_told_here", "_law_k", "_law_kept_here", "_law_one", "_law_memory", "_law_orders", "_law_program", "_law_anew", "_law_order_here"]) (sc := defScope s_law) (own := [("_law_order_here", 13)]) (by decide +kernel)) (fun _ _ _ _ _ => (pg_name (i := 13) sc_law.nd rfl (.inl rfl))) (fun _ _ _ _ _ => pts_nil) (fun _ _ _ _ _ => (pe_callTy c_tuple (by rfl) T.tuple (by decide +kernel) (pa_cons (pe_callTy c_list (by rfl) T.list (by decide +kernel) (pa_cons (pv 13) pa_nil)) pa_nil)))) pa_nil)) (pa_cons (pe_callTy c_tuple (by rfl) T.tuple (by decide +kernel) (pa_cons (pe_callTy c_list (by rfl) T.list (by decide +kernel) (pa_cons (pv 11) pa_nil)) pa_nil)) pa_nil)))))
      (pss_one (ps_ret (pe_cmpR (op_eqD hr.units) (pe_c c__law_told hr (by decide) (by rfl) (pa_cons (pv 12) (pa_cons (pe_ix ix_list (pv 4) pe_int (fun _ _ => rfl)) pa_nil))) (pe_ix ix_list (pv 7) pe_int (fun _ _ => rfl)) (nomark _)))))))))))), ?_⟩
    walk_at "rd"
    refine ⟨a, ns, rfl, hS, fun b l H1 e1 nb nl hB => ?_⟩
    walk_at "rd"
    refine st_lcRange (n := 2) (by decide) fun bl H2 nbl e2 hbl => ?_
    have nblb : bl ∉ [b, l] := hB.new nbl
    refine ⟨fun i H' => ∃ (bds : List Bd) (xs : List V), bds.length = i ∧ (∀ bd ∈ bds, Good bd ∧ bd.prog.length ≤ 8) ∧ Dr b l H1 H' ∧ H' bl = some (.lst xs) ∧ ImL H' (bds.map fun bd => pyB bd.raw) xs,
      ⟨[], [], rfl, by simp, (Dr.start hB).ex e2, hbl, iml_nil⟩, fun i H3 hi hp => ?_, fun H3 hp => ?_⟩
    · obtain ⟨bds, xs, h1, h2, h3, h5, h6⟩ := hp
      show gName _ _ _ _ _
      walk_at "rd"
      refine ⟨rfl, ?_⟩
      walk_at "rd"
      refine ⟨rfl, fun kl H4 nk e4 hk => ?_⟩
      walk_at "rd"
      have nkb := h3.2.2.new nk
      simp only [List.mem_cons, List.not_mem_nil, or_false, not_or] at nkb
      refine ⟨b, l, kl, 3, 8, kindsAll, rfl, h3.2.2.ex e4, hk, nkb.1, nkb.2, by decide, by decide, by decide, by decide, by decide, by decide, fun bd v H5 d5 hDr hv => ?_⟩
      have h5' : H5 bl = some (.lst xs) := d5.1 bl _ (e4 _ _ h5) nblb
      refine st_lcPut h5' (by rw [h6.length, List.length_map]; omega) fun H6 f6 k6 h7 => ?_
      refine ⟨bds ++ [bd], xs ++ [v], by simp [h1], fun z hz => ?_, Dr.put hB ((h3.ex e4).trans d5) nbl f6 k6, h7, ?_⟩
      · rcases List.mem_append.mp hz with hz | hz
        · exact h2 z hz
        · rw [List.mem_singleton.mp hz]
          exact ⟨hDr.good, hDr.deeds⟩
      · rw [List.map_append]
        exact (((h6.ex e4).kp d5.2.1).kp k6).append (iml_cons (hv.kp k6) iml_nil)
    obtain ⟨bds, vbs, hb1, hbg, hb3, hbl3, hbi⟩ := hp
    walk_at "rd"
    have hB3 := hb3.2.2
    refine st_lcRange (n := 2) (by decide) fun pl H4 npl e4 hpl => ?_
    have nplb : pl ∉ [b, l] := hB3.new npl
    refine ⟨fun i H' => ∃ ps : List (Addr × List Bool), ps.length = i ∧ Dr b l H3 H' ∧ H' pl = some (.lst (ps.map fun p => .ref p.1)) ∧ ∀ p ∈ ps, H' p.1 = some (.lst (p.2.map V.bl)) ∧ p.2.length ≤ 100 ∧ p.1 ∉ [b, l] ∧ p.1 ≠ pl,
      ⟨[], rfl, (Dr.start hB3).ex e4, hpl, by simp⟩, fun i H5 hi hp => ?_, fun H5 hp => ?_⟩
    · obtain ⟨ps, h1, h3, h5, h6⟩ := hp
      show gName _ _ _ _ _
      walk_at "rd"
      refine ⟨rfl, ?_⟩
      walk_at "rd"
      refine ⟨b, l, rfl, h3.2.2, fun pp pace H6 d6 np hpp hpl' => ?_⟩
      have h5' : H6 pl = some (.lst (ps.map fun p => .ref p.1)) := d6.1 pl _ h5 nplb
      have nppl : pp ≠ pl := fun z => by
        rw [z, h5] at np
        cases np
      have nppb := h3.2.2.new np
      refine st_lcPut h5' (by rw [List.length_map]; omega) fun H7 f7 k7 h7 => ?_
      refine ⟨ps ++ [(pp, pace)], by simp [h1], Dr.put hB3 (h3.trans d6) npl f7 k7, by rw [h7, List.map_append]; rfl, fun p hp => ?_⟩
      rcases List.mem_append.mp hp with hp | hp
      · obtain ⟨a1, a2, a3, a4⟩ := h6 p hp
        exact ⟨f7 _ _ (d6.1 _ _ a1 a3) (by simp; exact a4), a2, a3, a4⟩
      · rw [List.mem_singleton.mp hp]
        exact ⟨f7 _ _ hpp (by simp; exact nppl), hpl', nppb, nppl⟩
    obtain ⟨ps, hp1, hp3, hpl5, hps⟩ := hp
    have hbl5 : H5 bl = some (.lst vbs) := hp3.1 bl _ hbl3 nblb
    have hbi5 : ImL H5 (bds.map fun bd => pyB bd.raw) vbs := hbi.kp hp3.2.1
    obtain ⟨b0, b1, rfl⟩ : ∃ b0 b1, bds = [b0, b1] := by
      match bds, hb1 with
      | [b0, b1], _ => exact ⟨b0, b1, rfl⟩
    obtain ⟨p0, p1, rfl⟩ : ∃ p0 p1, ps = [p0, p1] := by
      match ps, hp1 with
      | [p0, p1], _ => exact ⟨p0, p1, rfl⟩
    clear hb3 hp3 hB hB3 hp1 hb1 hbi hbl3 hpl npl nplb hbl nbl nblb
    -- by their numbers
    have hD : ∀ k : Nat, k < 2 → ∃ (bd : Bd) (v : V) (pa : Addr) (pc : List Bool), Good bd ∧ bd.prog.length ≤ 8 ∧ vbs[k]? = some v ∧ Im H5 (pyB bd.raw) v ∧ [p0, p1][k]? = some (pa, pc) ∧ H5 pa = some (.lst (pc.map V.bl)) ∧ pc.length ≤ 100 ∧ [toldD b0 p0.2, toldD b1 p1.2][k]? = some (toldD bd pc) := fun k hk => by
      obtain ⟨v0, r0, rfl, i0, hbi5⟩ := hbi5.cons_inv
      obtain ⟨v1, r1, rfl, i1, hbi5⟩ := hbi5.cons_inv
      cases hbi5.nil_inv
      have g0 := hbg b0 List.mem_cons_self
      have g1 := hbg b1 (List.mem_cons_of_mem _ List.mem_cons_self)
      have q0 := hps p0 List.mem_cons_self
      have q1 := hps p1 (List.mem_cons_of_mem _ List.mem_cons_self)
      match k, hk with
      | 0, _ => exact ⟨b0, v0, p0.1, p0.2, g0.1, g0.2, rfl, i0, rfl, q0.1, q0.2.1, rfl⟩
      | 1, _ => exact ⟨b1, v1, p1.1, p1.2, g1.1, g1.2, rfl, i1, rfl, q1.1, q1.2.1, rfl⟩
      | k + 2, hk => omega
    have hSh : ∀ (k : Nat) (ds : List PyData), [toldD b0 p0.2, toldD b1 p1.2][k]? = some ds → Sh 6 (.list ds) ∧ ∀ d ∈ ds, ∀ es, d = .tuple es → es.length ≤ 50000 := fun k ds h => by
      have g0 := hbg b0 List.mem_cons_self
      have g1 := hbg b1 (List.mem_cons_of_mem _ List.mem_cons_self)
      match k, h with
      | 0, h => cases Option.some.inj h; exact ⟨al_sh (al_told g0.1 (by omega) _), told_tups g0.1 _⟩
      | 1, h => cases Option.some.inj h; exact ⟨al_sh (al_told g1.1 (by omega) _), told_tups g1.1 _⟩
      | k + 2, h => simp at h
    generalize hDs : [toldD b0 p0.2, toldD b1 p1.2] = Ds at *
    have hDl : Ds.length = 2 := by rw [← hDs]; rfl
    walk_at "rd"
    -- told
    refine st_lcRange (n := 2) (by decide) fun tl H6 ntl e6 htl => ?_
    refine ⟨fun i H' => Ex H5 H' ∧ ∃ ts : List TG2, ts.length = i ∧ H' tl = some (.lst (ts.map fun t => .ref t.1)) ∧ (∀ (j : Nat) t ds, ts[j]? = some t → Ds[j]? = some ds → TS H' t.1 ds t.2) ∧ (∀ t ∈ ts, ∀ c ∈ allOf t, H5 c = none ∧ c ≠ tl) ∧ (∀ (j k : Nat) t u, ts[j]? = some t → ts[k]? = some u → j ≠ k → ∀ c ∈ allOf t, c ∉ allOf u),
      ⟨e6, [], rfl, htl, by simp, by simp, by simp⟩, fun i H7 hi hp => ?_, fun H7 hp => ?_⟩
    · obtain ⟨e7, ts, h1, h2, h3, h4, h5⟩ := hp
      obtain ⟨bd, v, pa, pc, g, g8, hv, him, hpk, hpa, hpc, hdk⟩ := hD i hi
      show gName _ _ _ _ _
      walk_at "rd"
      refine ⟨rfl, ?_⟩
      walk_at "rd"
      refine st_ixL (e7 _ _ hbl5) (atI_nat (j := i) hv) ?_
      walk_at "rd"
      refine st_ixL (e7 _ _ hpl5) (atI_nat (j := i) (map_at (f := fun p : Addr × List Bool => V.ref p.1) hpk)) ?_
      walk_at "rd"
      refine ⟨v, bd, pa, pc, rfl, him.ex e7, g, g8, e7 _ _ hpa, by omega, fun t xs G H8 e8 nt ht hI hG htG => ?_⟩
      have new7 : ∀ c ∈ t :: G, H7 c = none := fun c hc => by
        rcases List.mem_cons.mp hc with rfl | hc
        · exact nt
        · exact hG c hc
      have ntl7 : ∀ c ∈ t :: G, c ≠ tl := fun c hc z => by
        have := new7 c hc
        rw [z, h2] at this
        cases this
      refine st_lcPut (e8 _ _ h2) (by rw [List.length_map]; omega) fun H9 f9 k9 h9 => ?_
      have dsome : ∀ j : Nat, j < i → ∃ ds, Ds[j]? = some ds := fun j hj => ⟨Ds[j]'(by omega), List.getElem?_eq_getElem (by omega)⟩
      have oldSome : ∀ (j : Nat) (u : TG2), ts[j]? = some u → ∀ c ∈ allOf u, H7 c ≠ none := fun j u hu => by
        have hj : j < i := by
          have := (List.getElem?_eq_some_iff.mp hu).1
          omega
        obtain ⟨ds, hds⟩ := dsome j hj
        exact (h3 j u ds hu hds).some
      refine ⟨Fr.ex (e7.trans e8) (fun c hc => by rw [List.mem_singleton.mp hc]; exact ntl) f9, ts ++ [(t, G)], by simp [h1], by rw [h9, List.map_append]; rfl, fun j u ds hu hds => ?_, fun u hu c hc => ?_, fun j k u u' hu hu' hjk c hc => ?_⟩
      · by_cases hj : j < ts.length
        · rw [List.getElem?_append_left hj] at hu
          exact ((h3 j u ds hu hds).ex' e8).fr f9 k9 fun c hc z => (h4 u (List.mem_of_getElem? hu) c hc).2 (List.mem_singleton.mp z)
        · have hj2 : j < 2 := by
            have := (List.getElem?_eq_some_iff.mp hds).1
            omega
          rw [List.getElem?_append_right (by omega)] at hu
          have hji : j = i := by
            have := (List.getElem?_eq_some_iff.mp hu).1
            simp at this
            omega
          subst hji
          rw [show j - ts.length = 0 by omega] at hu
          cases (Option.some.inj hu)
          rw [hdk] at hds
          cases (Option.some.inj hds)
          exact (TS.mk ⟨xs, ht, hI⟩ htG).fr f9 k9 fun c hc z => ntl7 c hc (List.mem_singleton.mp z)
      · rcases List.mem_append.mp hu with hu | hu
        · exact h4 u hu c hc
        · rw [List.mem_singleton.mp hu] at hc
          exact ⟨e7.free (new7 c hc), ntl7 c hc⟩
      · by_cases hj : j < ts.length
        · rw [List.getElem?_append_left hj] at hu
          by_cases hk : k < ts.length
          · rw [List.getElem?_append_left hk] at hu'
            exact h5 j k u u' hu hu' hjk c hc
          · rw [List.getElem?_append_right (by omega)] at hu'
            have : u' = (t, G) := by
              have := List.mem_of_getElem? hu'
              exact List.mem_singleton.mp this
            subst this
            intro z
            exact oldSome j u hu c hc (new7 c z)
        · rw [List.getElem?_append_right (by omega)] at hu
          have hu0 : u = (t, G) := List.mem_singleton.mp (List.mem_of_getElem? hu)
          have hj0 := (List.getElem?_eq_some_iff.mp hu).1
          simp at hj0
          subst hu0
          by_cases hk : k < ts.length
          · rw [List.getElem?_append_left hk] at hu'
            intro z
            exact oldSome k u' hu' c z (new7 c hc)
          · rw [List.getElem?_append_right (by omega)] at hu'
            have hk0 := (List.getElem?_eq_some_iff.mp hu').1
            simp at hk0
            omega
    obtain ⟨e7, ts, ht1, ht2, ht3, ht4, ht5⟩ := hp
    walk_at "rd"
    -- kept
    refine st_lcList (SqL.of ht2) fun kl H8 nkl e8 hkl => ?_
    refine ⟨fun i H' => Ex H7 H' ∧ ∃ ks : List TG2, ks.length = i ∧ H' kl = some (.lst (ks.map fun t => .ref t.1)) ∧ (∀ (j : Nat) t ds, ks[j]? = some t → Ds[j]? = some ds → TS H' t.1 ds t.2) ∧ (∀ t ∈ ks, ∀ c ∈ allOf t, H7 c = none ∧ c ≠ kl),
      ⟨e8, [], rfl, hkl, by simp, by simp⟩, fun i H9 hp => SqL.of (hp.1 _ _ ht2), fun i v H9 hv hp => ?_, fun H9 hp => ?_⟩
    · obtain ⟨e9, ks, h1, h2, h3, h4⟩ := hp
      obtain ⟨tg, htg, rfl⟩ := map_at' hv
      have hi : i < 2 := by
        have := (List.getElem?_eq_some_iff.mp htg).1
        omega
      obtain ⟨ds, hds⟩ : ∃ ds, Ds[i]? = some ds := ⟨Ds[i]'(by omega), List.getElem?_eq_getElem (by omega)⟩
      obtain ⟨xs, hx, hI⟩ := ((ht3 i tg ds htg hds).ex' e9).ex
      have hx1000 : xs.length ≤ 1000 := by
        rw [hI.length]
        rw [← hDs] at hds
        match i, hds with
        | 0, h => cases Option.some.inj h; simp [toldD]
        | 1, h => cases Option.some.inj h; simp [toldD]
        | k + 2, h => simp at h
      refine ⟨rfl, ?_⟩
      with_reducible refine st_yes ?_
      with_reducible refine st_T ?_
      walk_at "rd"
      refine ⟨tg.1, xs, ds, tg.2, rfl, hx, hI, hx1000, (hSh i ds hds).2, fun k ys G' H10 e10 nk hk hI' hG' hkG => ?_⟩
      have new9 : ∀ c ∈ k :: G', H9 c = none := fun c hc => by
        rcases List.mem_cons.mp hc with rfl | hc
        · exact nk
        · exact hG' c hc
      have nkl9 : ∀ c ∈ k :: G', c ≠ kl := fun c hc z => by
        have := new9 c hc
        rw [z, h2] at this
        cases this
      refine st_lcPut (e10 _ _ h2) (by rw [List.length_map]; omega) fun H11 f11 k11 h11 => ?_
      refine ⟨Fr.ex (e9.trans e10) (fun c hc => by rw [List.mem_singleton.mp hc]; exact nkl) f11, ks ++ [(k, G')], by simp [h1], by rw [h11, List.map_append]; rfl, fun j u ds' hu hds' => ?_, fun u hu c hc => ?_⟩
      · by_cases hj : j < ks.length
        · rw [List.getElem?_append_left hj] at hu
          exact ((h3 j u ds' hu hds').ex' e10).fr f11 k11 fun c hc z => (h4 u (List.mem_of_getElem? hu) c hc).2 (List.mem_singleton.mp z)
        · rw [List.getElem?_append_right (by omega)] at hu
          have hji : j = i := by
            have := (List.getElem?_eq_some_iff.mp hu).1
            simp at this
            omega
          subst hji
          have hu0 : u = (k, G') := List.mem_singleton.mp (List.mem_of_getElem? hu)
          subst hu0
          rw [hds] at hds'
          cases (Option.some.inj hds')
          exact (TS.mk ⟨ys, hk, hI'⟩ hkG).fr f11 k11 fun c hc z => nkl9 c hc (List.mem_singleton.mp z)
      · rcases List.mem_append.mp hu with hu | hu
        · exact h4 u hu c hc
        · rw [List.mem_singleton.mp hu] at hc
          exact ⟨e9.free (new9 c hc), nkl9 c hc⟩
    obtain ⟨e9, ks, hk1, hk2, hk3, hk4⟩ := hp
    rw [List.length_map, ht1] at hk1
    have E9 := e7.trans e9
    have hbl9 := E9 _ _ hbl5
    have hpl9 := E9 _ _ hpl5
    have htl9 := e9 _ _ ht2
    -- what is to stay
    obtain ⟨Keep, hKeep⟩ : ∃ Keep : List Addr, ∀ c, c ∈ Keep ↔ (c = bl ∨ c = pl ∨ c = kl ∨ c = p0.1 ∨ c = p1.1 ∨ ∃ t ∈ ks, c ∈ allOf t) := ⟨[bl, pl, kl, p0.1, p1.1] ++ ks.flatMap allOf, fun c => by
      simp only [List.cons_append, List.nil_append, List.mem_cons, List.mem_flatMap]⟩
    have q0 := hps p0 List.mem_cons_self
    have q1 := hps p1 (List.mem_cons_of_mem _ List.mem_cons_self)
    have dsome : ∀ j : Nat, j < 2 → ∃ ds, Ds[j]? = some ds := fun j hj => ⟨Ds[j]'(by omega), List.getElem?_eq_getElem (by omega)⟩
    have ksome : ∀ t ∈ ks, ∀ c ∈ allOf t, H9 c ≠ none := fun t ht => by
      obtain ⟨j, hj⟩ := List.getElem?_of_mem ht
      have : j < 2 := by
        have := (List.getElem?_eq_some_iff.mp hj).1
        omega
      obtain ⟨ds, hds⟩ := dsome j this
      exact (hk3 j t ds hj hds).some
    have keepSome : ∀ c ∈ Keep, H9 c ≠ none := fun c hc => by
      rcases (hKeep c).mp hc with rfl | rfl | rfl | rfl | rfl | ⟨t, ht, hc⟩
      · rw [hbl9]; simp
      · rw [hpl9]; simp
      · rw [hk2]; simp
      · rw [E9 _ _ q0.1]; simp
      · rw [E9 _ _ q1.1]; simp
      · exact ksome t ht c hc
    have tlKeep : tl ∉ Keep := fun hc => by
      rcases (hKeep tl).mp hc with z | z | z | z | z | ⟨t, ht, hc⟩
      · rw [z, hbl5] at ntl; cases ntl
      · rw [z, hpl5] at ntl; cases ntl
      · rw [← z, ht2] at nkl; cases nkl
      · rw [z, q0.1] at ntl; cases ntl
      · rw [z, q1.1] at ntl; cases ntl
      · have := (hk4 t ht tl hc).1
        rw [ht2] at this
        cases this
    have tsKeep : ∀ t ∈ ts, ∀ c ∈ allOf t, c ∉ Keep := fun t ht c hc hK => by
      have h5n := (ht4 t ht c hc).1
      have h7s : H7 c ≠ none := by
        obtain ⟨j, hj⟩ := List.getElem?_of_mem ht
        have : j < 2 := by
          have := (List.getElem?_eq_some_iff.mp hj).1
          omega
        obtain ⟨ds, hds⟩ := dsome j this
        exact (ht3 j t ds hj hds).some c hc
      rcases (hKeep c).mp hK with rfl | rfl | rfl | rfl | rfl | ⟨u, hu, hcu⟩
      · rw [hbl5] at h5n; cases h5n
      · rw [hpl5] at h5n; cases h5n
      · exact h7s nkl
      · rw [q0.1] at h5n; cases h5n
      · rw [q1.1] at h5n; cases h5n
      · exact h7s (hk4 u hu c hcu).1
    walk_at "rd"
    refine st_newL (by simp) fun il H10 nil e10 hil => ?_
    have KO : ∀ (c : Addr), c ∈ Keep → H10 c = H9 c := fun c hc => by
      cases h : H9 c with
      | none => exact absurd h (keepSome c hc)
      | some o => exact e10 _ _ h
    have ilKeep : il ∉ Keep := fun hc => keepSome il hc nil
    have iltl : il ≠ tl := fun z => by
      rw [z, htl9] at nil
      cases nil
    refine st_walkL hil (fun i σ' H' => ∃ y6 y8, σ' = [some (.ref a), some (.ref b), some (.ref bl), none, some (.ref pl), some (.ref tl), y6, some (.ref kl), y8, none, none, none, none, none] ∧ Kp H10 H' ∧ (∀ c ∈ Keep, H' c = H9 c) ∧ H' il = H10 il ∧
      ∃ us : List TG2, us.length = 2 ∧ H' tl = some (.lst (us.map fun t => .ref t.1)) ∧ (∀ u ∈ us, ∃ ds, TS H' u.1 ds u.2 ∧ ds.length ≤ 1000) ∧ (∀ u ∈ us, ∀ c ∈ allOf u, c ∉ Keep ∧ c ≠ tl ∧ c ≠ il) ∧ (∀ (j k : Nat) t u, us[j]? = some t → us[k]? = some u → j ≠ k → ∀ c ∈ allOf t, c ∉ allOf u))
      ⟨_, _, rfl, Kp.refl _, KO, rfl, ts, ht1, e10 _ _ htl9, ?_, ?_, ht5⟩ (fun i σ' H' p => ?_) (fun i v σ' H' hv p => ?_) (fun σ' H' p => ?_)
    · intro u hu
      obtain ⟨j, hj⟩ := List.getElem?_of_mem hu
      have hj2 : j < 2 := by
        have := (List.getElem?_eq_some_iff.mp hj).1
        omega
      obtain ⟨ds, hds⟩ := dsome j hj2
      refine ⟨ds, ((ht3 j u ds hj hds).ex' e9).ex' e10, ?_⟩
      rw [← hDs] at hds
      match j, hds with
      | 0, h => cases Option.some.inj h; simp [toldD]
      | 1, h => cases Option.some.inj h; simp [toldD]
      | k + 2, h => simp at h
    · intro u hu c hc
      refine ⟨tsKeep u hu c hc, (ht4 u hu c hc).2, fun z => ?_⟩
      subst z
      obtain ⟨j, hj⟩ := List.getElem?_of_mem hu
      have hj2 : j < 2 := by
        have := (List.getElem?_eq_some_iff.mp hj).1
        omega
      obtain ⟨ds, hds⟩ := dsome j hj2
      exact ((ht3 j u ds hj hds).ex' e9).some c hc nil
    · obtain ⟨_, _, _, _, _, h, _⟩ := p
      rw [h]
      exact hil
    · obtain ⟨y6, y8, rfl, kp, hK, hIl, us, u1, u2, u3, u4, u5⟩ := p
      obtain ⟨k, hk, rfl⟩ : ∃ k : Nat, k < 2 ∧ v = .int (k : Int) := by
        match i, hv with
        | 0, hv => exact ⟨0, by omega, (Option.some.inj hv).symm⟩
        | 1, hv => exact ⟨1, by omega, (Option.some.inj hv).symm⟩
        | 2, hv => exact ⟨0, by omega, (Option.some.inj hv).symm⟩
        | i + 3, hv => simp at hv
      obtain ⟨bd, vb, pa, pc, g, g8, hvb, him, hpk, hpa, hpc, hdk⟩ := hD k hk
      obtain ⟨uk, huk⟩ : ∃ u, us[k]? = some u := ⟨us[k]'(by omega), List.getElem?_eq_getElem (by omega)⟩
      obtain ⟨kk, hkk⟩ : ∃ u, ks[k]? = some u := ⟨ks[k]'(by omega), List.getElem?_eq_getElem (by omega)⟩
      obtain ⟨ds0, S0, hds0⟩ := u3 uk (List.mem_of_getElem? huk)
      obtain ⟨xs0, hx0, hI0⟩ := S0.ex
      have hpaK : pa ∈ Keep := (hKeep pa).mpr (by
        match k, hpk with
        | 0, h => cases Option.some.inj h; exact .inr (.inr (.inr (.inl rfl)))
        | 1, h => cases Option.some.inj h; exact .inr (.inr (.inr (.inr (.inl rfl))))
        | k + 2, h => simp at h)
      have hblK : bl ∈ Keep := (hKeep bl).mpr (.inl rfl)
      have hplK : pl ∈ Keep := (hKeep pl).mpr (.inr (.inl rfl))
      have hklK : kl ∈ Keep := (hKeep kl).mpr (.inr (.inr (.inl rfl)))
      have hkkK : ∀ c ∈ allOf kk, c ∈ Keep := fun c hc => (hKeep c).mpr (.inr (.inr (.inr (.inr (.inr ⟨kk, List.mem_of_getElem? hkk, hc⟩)))))
      walk_at "rd"
      refine st_ixL u2 (atI_nat (j := k) (map_at (f := fun t : TG2 => V.ref t.1) huk)) ?_
      walk_at "rd"
      refine ⟨uk.1, xs0, ds0, uk.2, rfl, hx0, hI0, S0.out, by rw [hI0.length]; exact hds0, fun H11 f11 k11 => ?_⟩
      have out : ∀ c ∈ uk.2, c ∉ Keep ∧ c ≠ tl ∧ c ≠ il := fun c hc => u4 uk (List.mem_of_getElem? huk) c (List.mem_cons_of_mem _ hc)
      have hK11 : ∀ c ∈ Keep, H11 c = H9 c := fun c hc => by
        cases h : H' c with
        | none =>
          rw [hK c hc] at h
          exact absurd h (keepSome c hc)
        | some o =>
          rw [f11 c o h fun z => (out c z).1 hc, ← h]
          exact hK c hc
      have htl11 : H11 tl = some (.lst (us.map fun t => .ref t.1)) := f11 _ _ u2 fun z => (out tl z).2.1 rfl
      have hil11 : H11 il = H10 il := by
        rw [hil]
        refine f11 _ _ (hIl.trans hil) fun z => (out il z).2.2 rfl
      walk_at "rd"
      refine st_ixL ((hK11 bl hblK).trans hbl9) (atI_nat (j := k) hvb) ?_
      walk_at "rd"
      refine st_ixL ((hK11 pl hplK).trans hpl9) (atI_nat (j := k) (map_at (f := fun p : Addr × List Bool => V.ref p.1) hpk)) ?_
      walk_at "rd"
      refine st_listL ((hK11 pa hpaK).trans (E9 _ _ hpa)) fun hpn H12 n12 e12 h12 => ?_
      walk_at "rd"
      have K11 : Kp H5 H11 := ((E9.kp.trans e10.kp).trans kp).trans k11
      refine ⟨vb, bd, hpn, pc, rfl, (him.kp K11).ex e12, g, g8, h12, by omega, fun t xs G H13 e13 nt ht hI hG htG => ?_⟩
      have E13 := e12.trans e13
      have new11 : ∀ c ∈ t :: G, H11 c = none := fun c hc => by
        refine e12.free ?_
        rcases List.mem_cons.mp hc with rfl | hc
        · exact nt
        · exact hG c hc
      walk_at "rd"
      refine st_setI (k := k) (E13 _ _ htl11) (by rw [List.length_map]; omega) fun H14 f14 k14 h14 => ?_
      have ntl11 : ∀ c ∈ t :: G, c ≠ tl := fun c hc z => by
        have := new11 c hc
        rw [z, htl11] at this
        cases this
      have hK14 : ∀ c ∈ Keep, H14 c = H9 c := fun c hc => by
        cases h : H9 c with
        | none => exact absurd h (keepSome c hc)
        | some o => exact f14 _ _ (E13 _ _ ((hK11 c hc).trans h)) fun z => tlKeep (by rw [List.mem_singleton.mp z] at hc; exact hc)
      have hset : (us.map fun t : TG2 => V.ref t.1).set k (.ref t) = (us.set k (t, G)).map fun t : TG2 => V.ref t.1 := by rw [List.map_set]
      rw [hset] at h14
      have SN : TS H14 t (toldD bd pc) G := (TS.mk ⟨xs, ht, hI⟩ htG).fr f14 k14 fun c hc z => ntl11 c hc (List.mem_singleton.mp z)
      have hself : (us.set k (t, G))[k]? = some (t, G) := by
        rw [List.getElem?_set_self (by omega)]
      have SK : TS H14 kk.1 (toldD bd pc) kk.2 := by
        have S9 := hk3 k kk (toldD bd pc) hkk hdk
        have KP : Kp H9 H14 := (((e10.kp.trans kp).trans k11).trans E13.kp).trans k14
        obtain ⟨xs, x1, x2⟩ := S9.ex
        have fr : Fr [] H9 H9 := Fr.refl _ _
        refine ⟨⟨xs, (hK14 _ (hkkK _ List.mem_cons_self)).trans x1, ?_⟩, S9.out⟩
        refine x2.keepAt KP fun c hc => hK14 c (hkkK c (List.mem_cons_of_mem _ hc))
      walk_at "rd"
      refine st_ixL h14 (atI_nat (j := k) (map_at (f := fun t : TG2 => V.ref t.1) hself)) ?_
      walk_at "rd"
      refine st_ixL ((hK14 kl hklK).trans hk2) (atI_nat (j := k) (map_at (f := fun t : TG2 => V.ref t.1) hkk)) ?_
      walk_at "rd"
      refine st_neTold SN SK (hSh k _ hdk).1 ?_
      walk_at "rd"
      have stay : ∀ (j : Nat) u, us[j]? = some u → j ≠ k → (∃ ds, TS H14 u.1 ds u.2 ∧ ds.length ≤ 1000) ∧ (∀ c ∈ allOf u, H11 c ≠ none) := fun j u hu hjk => by
        obtain ⟨ds, S, hl⟩ := u3 u (List.mem_of_getElem? hu)
        have S11 := S.fr f11 k11 fun c hc z => u5 j k u uk hu huk hjk c hc (List.mem_cons_of_mem _ z)
        exact ⟨⟨ds, (S11.ex' E13).fr f14 k14 fun c hc z => (u4 u (List.mem_of_getElem? hu) c hc).2.1 (List.mem_singleton.mp z), hl⟩, S11.some⟩
      refine ⟨_, _, rfl, (((kp.trans k11).trans E13.kp).trans k14), hK14, ?_, us.set k (t, G), by rw [List.length_set]; exact u1, h14, fun u hu => ?_, fun u hu c hc => ?_, fun j j' u u' hu hu' hjj c hc => ?_⟩
      · rw [← hil11, hil11, hil]
        exact f14 _ _ (E13 _ _ (hil11.trans hil)) fun z => iltl (List.mem_singleton.mp z)
      · obtain ⟨j, hj⟩ := List.getElem?_of_mem hu
        by_cases hjk : j = k
        · subst hjk
          rw [hself] at hj
          cases (Option.some.inj hj)
          exact ⟨_, SN, by simp [toldD]⟩
        · rw [List.getElem?_set_ne (fun z => hjk z.symm)] at hj
          exact (stay j u hj hjk).1
      · obtain ⟨j, hj⟩ := List.getElem?_of_mem hu
        by_cases hjk : j = k
        · subst hjk
          rw [hself] at hj
          cases (Option.some.inj hj)
          refine ⟨fun z => ?_, ntl11 c hc, fun z => ?_⟩
          · have := new11 c hc
            rw [hK11 c z] at this
            exact keepSome c z this
          · have := new11 c hc
            rw [z, hil11, hil] at this
            cases this
        · rw [List.getElem?_set_ne (fun z => hjk z.symm)] at hj
          exact u4 u (List.mem_of_getElem? hj) c hc
      · by_cases hjk : j = k
        · subst hjk
          rw [hself] at hu
          cases (Option.some.inj hu)
          rw [List.getElem?_set_ne hjj] at hu'
          intro z
          exact (stay j' u' hu' (fun z => hjj z.symm)).2 c z (new11 c hc)
        · rw [List.getElem?_set_ne (fun z => hjk z.symm)] at hu
          by_cases hjk' : j' = k
          · subst hjk'
            rw [hself] at hu'
            cases (Option.some.inj hu')
            intro z
            exact (stay j u hu hjk).2 c hc (new11 c z)
          · rw [List.getElem?_set_ne (fun z => hjk' z.symm)] at hu'
            exact u5 j j' u u' hu hu' hjj c hc
    · obtain ⟨y6, y8, rfl, kp, hK, hIl, us, u1, u2, u3, u4, u5⟩ := p
      obtain ⟨bd, vb, pa, pc, g, g8, hvb, him, hpk, hpa, hpc, hdk⟩ := hD 0 (by decide)
      obtain ⟨kk, hkk⟩ : ∃ u, ks[0]? = some u := ⟨ks[0]'(by omega), List.getElem?_eq_getElem (by omega)⟩
      have hpaK : pa ∈ Keep := (hKeep pa).mpr (by
        cases Option.some.inj hpk
        exact .inr (.inr (.inr (.inl rfl))))
      have hblK : bl ∈ Keep := (hKeep bl).mpr (.inl rfl)
      have hplK : pl ∈ Keep := (hKeep pl).mpr (.inr (.inl rfl))
      have hklK : kl ∈ Keep := (hKeep kl).mpr (.inr (.inr (.inl rfl)))
      have hkkK : ∀ c ∈ allOf kk, c ∈ Keep := fun c hc => (hKeep c).mpr (.inr (.inr (.inr (.inr (.inr ⟨kk, List.mem_of_getElem? hkk, hc⟩)))))
      have K' : Kp H5 H' := (E9.kp.trans e10.kp).trans kp
      have him' := him.kp K'
      walk_at "rd"
      refine st_ixL ((hK bl hblK).trans hbl9) (atI_nat (j := 0) hvb) ?_
      refine st_gtup him' (Kp.refl _) rfl fun xs hxs => ?_
      obtain ⟨vm, xs, rfl, hm, hxs⟩ := hxs.cons_inv
      obtain ⟨vo, xs, rfl, hos, hxs⟩ := hxs.cons_inv
      obtain ⟨vp, xs, rfl, hpr, hxs⟩ := hxs.cons_inv
      cases hxs.nil_inv
      walk_at "rd"
      refine st_listT hm (Kp.refl _) fun l1 ms G1 n1 d1 i1 g1 => ?_
      walk_at "rd"
      refine st_tupL g1 fun t1 G2 n2 d2 g2 => ?_
      walk_at "rd"
      have hm2 : Im G2 (pyMem bd.raw.mem) (.ref t1) := im_tup g2 (i1.ex d2)
      have D2 := d1.trans d2
      refine st_lcTup (hos.ex D2) (Kp.refl _) fun ol G3 n3 d3 g3 => ?_
      refine ⟨fun j G => ∃ ys, Ex G2 G ∧ G ol = some (.lst ys) ∧ ImL G ((bd.raw.ords.take j).map pyOrd) ys, ⟨[], d3, g3, by simpa using iml_nil⟩, fun j G p => p.choose_spec.1.kp, fun j d v' G hd hv' p => ?_, fun G p => ?_⟩
      · obtain ⟨ys, p1, p2, p3⟩ := p
        obtain ⟨o, ho, rfl⟩ := map_at' hd
        show gName _ _ _ _ _
        walk_at "rd"
        refine ⟨rfl, ?_⟩
        walk_at "rd"
        refine st_listT hv' (Kp.refl _) fun l4 os G4 n4 d4 i4 g4 => ?_
        walk_at "rd"
        refine st_tupL g4 fun t5 G5 n5 d5 g5 => ?_
        have h4o := g.ords
        have hjl : j < bd.raw.ords.length := (List.getElem?_eq_some_iff.mp ho).1
        have hol : bd.raw.ords.length ≤ 4 := by
          show (bd.ords.map Ord.raw).length ≤ 4
          rw [List.length_map]
          exact h4o
        refine st_lcPut ((d4.trans d5) _ _ p2) (by rw [p3.length, List.length_map, List.length_take]; omega) fun G6 f6 k6 g6 => ?_
        refine ⟨ys ++ [.ref t5], Fr.ex ((p1.trans d4).trans d5) (fun c hc => by rw [List.mem_singleton.mp hc]; exact n3) f6, g6, ?_⟩
        rw [List.take_add_one, ho, List.map_append]
        exact ((p3.ex (d4.trans d5)).kp k6).append (iml_cons ((im_tup g5 (i4.ex d5)).kp k6) iml_nil)
      · obtain ⟨ys, p1, p2, p3⟩ := p
        rw [List.length_map, List.take_length] at p3
        walk_at "rd"
        refine st_tupL p2 fun t7 G7 n7 d7 g7 => ?_
        walk_at "rd"
        have D7 := (D2.trans p1).trans d7
        refine st_listT (hpr.ex D7) (Kp.refl _) fun l8 ms8 G8 n8 d8 i8 g8' => ?_
        walk_at "rd"
        refine st_tupL g8' fun t9 G9 n9 d9 g9 => ?_
        walk_at "rd"
        refine st_newT (by simp) fun ta GA na da ga => ?_
        walk_at "rd"
        have DA := (D7.trans d8).trans (d9.trans da)
        have hanew : Im GA (pyB bd.raw) (.ref ta) := im_tup ga (iml_cons (hm2.ex ((p1.trans d7).trans ((d8.trans d9).trans da))) (iml_cons (im_tup ((d8.trans (d9.trans da)) _ _ g7) (p3.ex (d7.trans (d8.trans (d9.trans da))))) (iml_cons (im_tup (da _ _ g9) (i8.ex (d9.trans da))) iml_nil)))
        refine st_ixL (DA _ _ ((hK pl hplK).trans hpl9)) (atI_nat (j := 0) (map_at (f := fun p : Addr × List Bool => V.ref p.1) hpk)) ?_
        walk_at "rd"
        refine ⟨_, bd, pa, pc, rfl, hanew, g, g8, DA _ _ ((hK pa hpaK).trans (E9 _ _ hpa)), by omega, fun t xs G GB eB nt ht hI hG htG => ?_⟩
        have EB := DA.trans eB
        walk_at "rd"
        refine st_ixL (EB _ _ ((hK kl hklK).trans hk2)) (atI_nat (j := 0) (map_at (f := fun t : TG2 => V.ref t.1) hkk)) ?_
        have SK : TS GB kk.1 (toldD bd pc) kk.2 := by
          have S9 := hk3 0 kk (toldD bd pc) hkk hdk
          obtain ⟨xs, x1, x2⟩ := S9.ex
          have S' : TS H' kk.1 (toldD bd pc) kk.2 := ⟨⟨xs, (hK _ (hkkK _ List.mem_cons_self)).trans x1, x2.keepAt (e10.kp.trans kp) fun c hc => hK c (hkkK c (List.mem_cons_of_mem _ hc))⟩, S9.out⟩
          exact S'.ex' EB
        refine st_eqTold (TS.mk ⟨xs, ht, hI⟩ htG) SK (hSh 0 _ hdk).1 ?_
        exact q GB
end BC
namespace BC
open PySem PySem.Spec PyProof.Rows L2
theorem all_mk {l : PySem.W.OpenLaw} {w : World} {K : PySem.W.Frag} {h : Heap} {mg : Str → Option Value} {fa : Addr} (X : K.In h) (G : h.Ns mainGlobals mg) (hfa : mg "law" = some (.ref fa))
    {C_Machine : Addr}
    {C_Plain : Addr}
    {C_Judge : Addr}
    {t_WIDE : Tok}
    {t_MOST_LINES : Tok}
    {t_MOST_DIGIT : Tok}
    {t_MOST_ORDERS : Tok}
    {t_MOST_CELLS : Tok}
    {t_MOST_DEEDS : Tok}
    {t_MOST_STARTS : Tok}
    {t_MOST_FENCES : Tok}
    {a_FENCES : Addr} {od_FENCES : Option Addr} {ar_FENCES : Array Value} {nn_FENCES : Nat} {sl_FENCES : Array (Option Value)}
    {f_is_from : Addr} {od_is_from an_is_from : Option Addr} {sl_is_from : Array (Option Value)} {oc_is_from kV_is_from dc_is_from pm_is_from cd_is_from ct_is_from : Value}
    {f_lines_in : Addr} {od_lines_in an_lines_in : Option Addr} {sl_lines_in : Array (Option Value)} {oc_lines_in kV_lines_in dc_lines_in pm_lines_in cd_lines_in ct_lines_in : Value}
    {f_memory_fault : Addr} {od_memory_fault an_memory_fault : Option Addr} {sl_memory_fault : Array (Option Value)} {oc_memory_fault kV_memory_fault dc_memory_fault pm_memory_fault cd_memory_fault ct_memory_fault : Value}
    {f_is_order : Addr} {od_is_order an_is_order : Option Addr} {sl_is_order : Array (Option Value)} {oc_is_order kV_is_order dc_is_order pm_is_order cd_is_order ct_is_order : Value}
    {f_is_deed : Addr} {od_is_deed an_is_deed : Option Addr} {sl_is_deed : Array (Option Value)} {oc_is_deed kV_is_deed dc_is_deed pm_is_deed cd_is_deed ct_is_deed : Value}
    {f_check_board : Addr} {od_check_board an_check_board : Option Addr} {sl_check_board : Array (Option Value)} {oc_check_board kV_check_board dc_check_board pm_check_board cd_check_board ct_check_board : Value}
    {f_moves_of : Addr} {od_moves_of an_moves_of : Option Addr} {sl_moves_of : Array (Option Value)} {oc_moves_of kV_moves_of dc_moves_of pm_moves_of cd_moves_of ct_moves_of : Value}
    {f_Machine___init__ : Addr} {od_Machine___init__ an_Machine___init__ : Option Addr} {sl_Machine___init__ : Array (Option Value)} {oc_Machine___init__ kV_Machine___init__ dc_Machine___init__ pm_Machine___init__ cd_Machine___init__ ct_Machine___init__ : Value}
    {f_Machine_copied : Addr} {od_Machine_copied an_Machine_copied : Option Addr} {sl_Machine_copied : Array (Option Value)} {oc_Machine_copied kV_Machine_copied dc_Machine_copied pm_Machine_copied cd_Machine_copied ct_Machine_copied : Value}
    {f_Machine_note : Addr} {od_Machine_note an_Machine_note : Option Addr} {sl_Machine_note : Array (Option Value)} {oc_Machine_note kV_Machine_note dc_Machine_note pm_Machine_note cd_Machine_note ct_Machine_note : Value}
    {f_Machine_take : Addr} {od_Machine_take an_Machine_take : Option Addr} {sl_Machine_take : Array (Option Value)} {oc_Machine_take kV_Machine_take dc_Machine_take pm_Machine_take cd_Machine_take ct_Machine_take : Value}
    {f_Machine_read : Addr} {od_Machine_read an_Machine_read : Option Addr} {sl_Machine_read : Array (Option Value)} {oc_Machine_read kV_Machine_read dc_Machine_read pm_Machine_read cd_Machine_read ct_Machine_read : Value}
    {f_Machine_write : Addr} {od_Machine_write an_Machine_write : Option Addr} {sl_Machine_write : Array (Option Value)} {oc_Machine_write kV_Machine_write dc_Machine_write pm_Machine_write cd_Machine_write ct_Machine_write : Value}
    {f_Machine_clean : Addr} {od_Machine_clean an_Machine_clean : Option Addr} {sl_Machine_clean : Array (Option Value)} {oc_Machine_clean kV_Machine_clean dc_Machine_clean pm_Machine_clean cd_Machine_clean ct_Machine_clean : Value}
    {f_Machine_drop : Addr} {od_Machine_drop an_Machine_drop : Option Addr} {sl_Machine_drop : Array (Option Value)} {oc_Machine_drop kV_Machine_drop dc_Machine_drop pm_Machine_drop cd_Machine_drop ct_Machine_drop : Value}
    {f_Machine_process : Addr} {od_Machine_process an_Machine_process : Option Addr} {sl_Machine_process : Array (Option Value)} {oc_Machine_process kV_Machine_process dc_Machine_process pm_Machine_process cd_Machine_process ct_Machine_process : Value}
    {f_Machine_may_rest : Addr} {od_Machine_may_rest an_Machine_may_rest : Option Addr} {sl_Machine_may_rest : Array (Option Value)} {oc_Machine_may_rest kV_Machine_may_rest dc_Machine_may_rest pm_Machine_may_rest cd_Machine_may_rest ct_Machine_may_rest : Value}
    {f_Machine_carry : Addr} {od_Machine_carry an_Machine_carry : Option Addr} {sl_Machine_carry : Array (Option Value)} {oc_Machine_carry kV_Machine_carry dc_Machine_carry pm_Machine_carry cd_Machine_carry ct_Machine_carry : Value}
    {f_Machine_is_over : Addr} {od_Machine_is_over an_Machine_is_over : Option Addr} {sl_Machine_is_over : Array (Option Value)} {oc_Machine_is_over kV_Machine_is_over dc_Machine_is_over pm_Machine_is_over cd_Machine_is_over ct_Machine_is_over : Value}
    {f_Machine_finish : Addr} {od_Machine_finish an_Machine_finish : Option Addr} {sl_Machine_finish : Array (Option Value)} {oc_Machine_finish kV_Machine_finish dc_Machine_finish pm_Machine_finish cd_Machine_finish ct_Machine_finish : Value}
    {f_Machine_key : Addr} {od_Machine_key an_Machine_key : Option Addr} {sl_Machine_key : Array (Option Value)} {oc_Machine_key kV_Machine_key dc_Machine_key pm_Machine_key cd_Machine_key ct_Machine_key : Value}
    {f_gone : Addr} {od_gone an_gone : Option Addr} {sl_gone : Array (Option Value)} {oc_gone kV_gone dc_gone pm_gone cd_gone ct_gone : Value}
    {f_story : Addr} {od_story an_story : Option Addr} {sl_story : Array (Option Value)} {oc_story kV_story dc_story pm_story cd_story ct_story : Value}
    {f_ended : Addr} {od_ended an_ended : Option Addr} {sl_ended : Array (Option Value)} {oc_ended kV_ended dc_ended pm_ended cd_ended ct_ended : Value}
    {f_Plain___init__ : Addr} {od_Plain___init__ an_Plain___init__ : Option Addr} {sl_Plain___init__ : Array (Option Value)} {oc_Plain___init__ kV_Plain___init__ dc_Plain___init__ pm_Plain___init__ cd_Plain___init__ ct_Plain___init__ : Value}
    {f_Plain_look : Addr} {od_Plain_look an_Plain_look : Option Addr} {sl_Plain_look : Array (Option Value)} {oc_Plain_look kV_Plain_look dc_Plain_look pm_Plain_look cd_Plain_look ct_Plain_look : Value}
    {f_Plain_does : Addr} {od_Plain_does an_Plain_does : Option Addr} {sl_Plain_does : Array (Option Value)} {oc_Plain_does kV_Plain_does dc_Plain_does pm_Plain_does cd_Plain_does ct_Plain_does : Value}
    {f_plain_end : Addr} {od_plain_end an_plain_end : Option Addr} {sl_plain_end : Array (Option Value)} {oc_plain_end kV_plain_end dc_plain_end pm_plain_end cd_plain_end ct_plain_end : Value}
    {f_sights : Addr} {od_sights an_sights : Option Addr} {sl_sights : Array (Option Value)} {oc_sights kV_sights dc_sights pm_sights cd_sights ct_sights : Value}
    {f_amiss : Addr} {od_amiss an_amiss : Option Addr} {sl_amiss : Array (Option Value)} {oc_amiss kV_amiss dc_amiss pm_amiss cd_amiss ct_amiss : Value}
    {f_Judge___init__ : Addr} {od_Judge___init__ an_Judge___init__ : Option Addr} {sl_Judge___init__ : Array (Option Value)} {oc_Judge___init__ kV_Judge___init__ dc_Judge___init__ pm_Judge___init__ cd_Judge___init__ ct_Judge___init__ : Value}
    {f_Judge_is_amiss : Addr} {od_Judge_is_amiss an_Judge_is_amiss : Option Addr} {sl_Judge_is_amiss : Array (Option Value)} {oc_Judge_is_amiss kV_Judge_is_amiss dc_Judge_is_amiss pm_Judge_is_amiss cd_Judge_is_amiss ct_Judge_is_amiss : Value}
    {f_Judge_torn : Addr} {od_Judge_torn an_Judge_torn : Option Addr} {sl_Judge_torn : Array (Option Value)} {oc_Judge_torn kV_Judge_torn dc_Judge_torn pm_Judge_torn cd_Judge_torn ct_Judge_torn : Value}
    {f_Judge_onward : Addr} {od_Judge_onward an_Judge_onward : Option Addr} {sl_Judge_onward : Array (Option Value)} {oc_Judge_onward kV_Judge_onward dc_Judge_onward pm_Judge_onward cd_Judge_onward ct_Judge_onward : Value}
    {f_judged : Addr} {od_judged an_judged : Option Addr} {sl_judged : Array (Option Value)} {oc_judged kV_judged dc_judged pm_judged cd_judged ct_judged : Value}
    {f_check_fences : Addr} {od_check_fences an_check_fences : Option Addr} {sl_check_fences : Array (Option Value)} {oc_check_fences kV_check_fences dc_check_fences pm_check_fences cd_check_fences ct_check_fences : Value}
    {f_put_in : Addr} {od_put_in an_put_in : Option Addr} {sl_put_in : Array (Option Value)} {oc_put_in kV_put_in dc_put_in pm_put_in cd_put_in ct_put_in : Value}
    {f_fenced : Addr} {od_fenced an_fenced : Option Addr} {sl_fenced : Array (Option Value)} {oc_fenced kV_fenced dc_fenced pm_fenced cd_fenced ct_fenced : Value}
    {f_fully : Addr} {od_fully an_fully : Option Addr} {sl_fully : Array (Option Value)} {oc_fully kV_fully dc_fully pm_fully cd_fully ct_fully : Value}
    {f_number_text : Addr} {od_number_text an_number_text : Option Addr} {sl_number_text : Array (Option Value)} {oc_number_text kV_number_text dc_number_text pm_number_text cd_number_text ct_number_text : Value}
    {f_written : Addr} {od_written an_written : Option Addr} {sl_written : Array (Option Value)} {oc_written kV_written dc_written pm_written cd_written ct_written : Value}
    {f__law_begun : Addr} {od__law_begun an__law_begun : Option Addr} {sl__law_begun : Array (Option Value)} {oc__law_begun kV__law_begun dc__law_begun pm__law_begun cd__law_begun ct__law_begun : Value}
    {f__law_take : Addr} {od__law_take an__law_take : Option Addr} {sl__law_take : Array (Option Value)} {oc__law_take kV__law_take dc__law_take pm__law_take cd__law_take ct__law_take : Value}
    {f__law_order : Addr} {od__law_order an__law_order : Option Addr} {sl__law_order : Array (Option Value)} {oc__law_order kV__law_order dc__law_order pm__law_order cd__law_order ct__law_order : Value}
    {f__law_deed : Addr} {od__law_deed an__law_deed : Option Addr} {sl__law_deed : Array (Option Value)} {oc__law_deed kV__law_deed dc__law_deed pm__law_deed cd__law_deed ct__law_deed : Value}
    {f__law_board : Addr} {od__law_board an__law_board : Option Addr} {sl__law_board : Array (Option Value)} {oc__law_board kV__law_board dc__law_board pm__law_board cd__law_board ct__law_board : Value}
    {f__law_pace : Addr} {od__law_pace an__law_pace : Option Addr} {sl__law_pace : Array (Option Value)} {oc__law_pace kV__law_pace dc__law_pace pm__law_pace cd__law_pace ct__law_pace : Value}
    {f__law_told : Addr} {od__law_told an__law_told : Option Addr} {sl__law_told : Array (Option Value)} {oc__law_told kV__law_told dc__law_told pm__law_told cd__law_told ct__law_told : Value}
    {f__law_spoil : Addr} {od__law_spoil an__law_spoil : Option Addr} {sl__law_spoil : Array (Option Value)} {oc__law_spoil kV__law_spoil dc__law_spoil pm__law_spoil cd__law_spoil ct__law_spoil : Value}
    {f__law_kept : Addr} {od__law_kept an__law_kept : Option Addr} {sl__law_kept : Array (Option Value)} {oc__law_kept kV__law_kept dc__law_kept pm__law_kept cd__law_kept ct__law_kept : Value}
    {f__law_kinds : Addr} {od__law_kinds an__law_kinds : Option Addr} {sl__law_kinds : Array (Option Value)} {oc__law_kinds kV__law_kinds dc__law_kinds pm__law_kinds cd__law_kinds ct__law_kinds : Value}
    {f_law : Addr} {od_law an_law : Option Addr} {sl_law : Array (Option Value)} {oc_law kV_law dc_law pm_law cd_law ct_law : Value}
    (aC_Machine : PySem.W.nsIn K mainGlobals "Machine" = some (some (.ref C_Machine)))
    (aC_Plain : PySem.W.nsIn K mainGlobals "Plain" = some (some (.ref C_Plain)))
    (aC_Judge : PySem.W.nsIn K mainGlobals "Judge" = some (some (.ref C_Judge)))
    (z_len : PySem.W.nsIn K mainGlobals "len" = some none)
    (z_range : PySem.W.nsIn K mainGlobals "range" = some none)
    (z_min : PySem.W.nsIn K mainGlobals "min" = some none)
    (z_int : PySem.W.nsIn K mainGlobals "int" = some none)
    (z_list : PySem.W.nsIn K mainGlobals "list" = some none)
    (z_tuple : PySem.W.nsIn K mainGlobals "tuple" = some none)
    (z_sorted : PySem.W.nsIn K mainGlobals "sorted" = some none)
    (z_enumerate : PySem.W.nsIn K mainGlobals "enumerate" = some none)
    (z_isinstance : PySem.W.nsIn K mainGlobals "isinstance" = some none)
    (z_str : PySem.W.nsIn K mainGlobals "str" = some none)
    (z_ValueError : PySem.W.nsIn K mainGlobals "ValueError" = some none)
    (v_WIDE : PySem.W.nsIn K mainGlobals "WIDE" = some (some (.int 4 t_WIDE)))
    (v_MOST_LINES : PySem.W.nsIn K mainGlobals "MOST_LINES" = some (some (.int 4 t_MOST_LINES)))
    (v_MOST_DIGIT : PySem.W.nsIn K mainGlobals "MOST_DIGIT" = some (some (.int 9 t_MOST_DIGIT)))
    (v_MOST_ORDERS : PySem.W.nsIn K mainGlobals "MOST_ORDERS" = some (some (.int 4 t_MOST_ORDERS)))
    (v_MOST_CELLS : PySem.W.nsIn K mainGlobals "MOST_CELLS" = some (some (.int 8 t_MOST_CELLS)))
    (v_MOST_DEEDS : PySem.W.nsIn K mainGlobals "MOST_DEEDS" = some (some (.int 60 t_MOST_DEEDS)))
    (v_MOST_STARTS : PySem.W.nsIn K mainGlobals "MOST_STARTS" = some (some (.int 3 t_MOST_STARTS)))
    (v_MOST_FENCES : PySem.W.nsIn K mainGlobals "MOST_FENCES" = some (some (.int 30 t_MOST_FENCES)))
    (v_FENCES : PySem.W.nsIn K mainGlobals "FENCES" = some (some (.ref a_FENCES)))
    (l_FENCES : K.lookup a_FENCES = some ⟨.type "tuple", od_FENCES, .seq ar_FENCES nn_FENCES, sl_FENCES⟩)
    (w_FENCES : L2.Vals [.str "wait", .str "clean", .str "drop"] ar_FENCES.toList)
    (a_is_from : PySem.W.nsIn K mainGlobals "is_from" = some (some (.ref f_is_from)))
    (l_is_from : K.lookup f_is_from = some ⟨oc_is_from, od_is_from, .func (PySem.W.fnOf "is_from" "is_from" (defArgs s_is_from) (defBody s_is_from) (defScope s_is_from) .none kV_is_from dc_is_from pm_is_from an_is_from cd_is_from ct_is_from), sl_is_from⟩)
    (c_is_from : PySem.W.codeIn K cd_is_from "is_from" = true)
    (k_is_from : PySem.W.keepIn K (.ref f_is_from) = true)
    (a_lines_in : PySem.W.nsIn K mainGlobals "lines_in" = some (some (.ref f_lines_in)))
    (l_lines_in : K.lookup f_lines_in = some ⟨oc_lines_in, od_lines_in, .func (PySem.W.fnOf "lines_in" "lines_in" (defArgs s_lines_in) (defBody s_lines_in) (defScope s_lines_in) .none kV_lines_in dc_lines_in pm_lines_in an_lines_in cd_lines_in ct_lines_in), sl_lines_in⟩)
    (c_lines_in : PySem.W.codeIn K cd_lines_in "lines_in" = true)
    (k_lines_in : PySem.W.keepIn K (.ref f_lines_in) = true)
    (a_memory_fault : PySem.W.nsIn K mainGlobals "memory_fault" = some (some (.ref f_memory_fault)))
    (l_memory_fault : K.lookup f_memory_fault = some ⟨oc_memory_fault, od_memory_fault, .func (PySem.W.fnOf "memory_fault" "memory_fault" (defArgs s_memory_fault) (defBody s_memory_fault) (defScope s_memory_fault) .none kV_memory_fault dc_memory_fault pm_memory_fault an_memory_fault cd_memory_fault ct_memory_fault), sl_memory_fault⟩)
    (c_memory_fault : PySem.W.codeIn K cd_memory_fault "memory_fault" = true)
    (k_memory_fault : PySem.W.keepIn K (.ref f_memory_fault) = true)
    (a_is_order : PySem.W.nsIn K mainGlobals "is_order" = some (some (.ref f_is_order)))
    (l_is_order : K.lookup f_is_order = some ⟨oc_is_order, od_is_order, .func (PySem.W.fnOf "is_order" "is_order" (defArgs s_is_order) (defBody s_is_order) (defScope s_is_order) .none kV_is_order dc_is_order pm_is_order an_is_order cd_is_order ct_is_order), sl_is_order⟩)
    (c_is_order : PySem.W.codeIn K cd_is_order "is_order" = true)
    (k_is_order : PySem.W.keepIn K (.ref f_is_order) = true)
    (a_is_deed : PySem.W.nsIn K mainGlobals "is_deed" = some (some (.ref f_is_deed)))
    (l_is_deed : K.lookup f_is_deed = some ⟨oc_is_deed, od_is_deed, .func (PySem.W.fnOf "is_deed" "is_deed" (defArgs s_is_deed) (defBody s_is_deed) (defScope s_is_deed) .none kV_is_deed dc_is_deed pm_is_deed an_is_deed cd_is_deed ct_is_deed), sl_is_deed⟩)
    (c_is_deed : PySem.W.codeIn K cd_is_deed "is_deed" = true)
    (k_is_deed : PySem.W.keepIn K (.ref f_is_deed) = true)
    (a_check_board : PySem.W.nsIn K mainGlobals "check_board" = some (some (.ref f_check_board)))
    (l_check_board : K.lookup f_check_board = some ⟨oc_check_board, od_check_board, .func (PySem.W.fnOf "check_board" "check_board" (defArgs s_check_board) (defBody s_check_board) (defScope s_check_board) .none kV_check_board dc_check_board pm_check_board an_check_board cd_check_board ct_check_board), sl_check_board⟩)
    (c_check_board : PySem.W.codeIn K cd_check_board "check_board" = true)
    (k_check_board : PySem.W.keepIn K (.ref f_check_board) = true)
    (a_moves_of : PySem.W.nsIn K mainGlobals "moves_of" = some (some (.ref f_moves_of)))
    (l_moves_of : K.lookup f_moves_of = some ⟨oc_moves_of, od_moves_of, .func (PySem.W.fnOf "moves_of" "moves_of" (defArgs s_moves_of) (defBody s_moves_of) (defScope s_moves_of) .none kV_moves_of dc_moves_of pm_moves_of an_moves_of cd_moves_of ct_moves_of), sl_moves_of⟩)
    (c_moves_of : PySem.W.codeIn K cd_moves_of "moves_of" = true)
    (k_moves_of : PySem.W.keepIn K (.ref f_moves_of) = true)
    (a_Machine___init__ : PySem.W.findIn K (.ref C_Machine) "__init__" = some (some (.ref f_Machine___init__)))
    (i_Machine___init__ : PySem.W.isFn K (.ref f_Machine___init__) = true)
    (l_Machine___init__ : K.lookup f_Machine___init__ = some ⟨oc_Machine___init__, od_Machine___init__, .func (PySem.W.fnOf "__init__" "Machine.__init__" (defArgs s_Machine___init__) (defBody s_Machine___init__) (defScope s_Machine___init__) .none kV_Machine___init__ dc_Machine___init__ pm_Machine___init__ an_Machine___init__ cd_Machine___init__ ct_Machine___init__), sl_Machine___init__⟩)
    (c_Machine___init__ : PySem.W.codeIn K cd_Machine___init__ "Machine.__init__" = true)
    (k_Machine___init__ : PySem.W.keepIn K (.ref f_Machine___init__) = true)
    (a_Machine_copied : PySem.W.findIn K (.ref C_Machine) "copied" = some (some (.ref f_Machine_copied)))
    (i_Machine_copied : PySem.W.isFn K (.ref f_Machine_copied) = true)
    (l_Machine_copied : K.lookup f_Machine_copied = some ⟨oc_Machine_copied, od_Machine_copied, .func (PySem.W.fnOf "copied" "Machine.copied" (defArgs s_Machine_copied) (defBody s_Machine_copied) (defScope s_Machine_copied) .none kV_Machine_copied dc_Machine_copied pm_Machine_copied an_Machine_copied cd_Machine_copied ct_Machine_copied), sl_Machine_copied⟩)
    (c_Machine_copied : PySem.W.codeIn K cd_Machine_copied "Machine.copied" = true)
    (k_Machine_copied : PySem.W.keepIn K (.ref f_Machine_copied) = true)
    (a_Machine_note : PySem.W.findIn K (.ref C_Machine) "note" = some (some (.ref f_Machine_note)))
    (i_Machine_note : PySem.W.isFn K (.ref f_Machine_note) = true)
    (l_Machine_note : K.lookup f_Machine_note = some ⟨oc_Machine_note, od_Machine_note, .func (PySem.W.fnOf "note" "Machine.note" (defArgs s_Machine_note) (defBody s_Machine_note) (defScope s_Machine_note) .none kV_Machine_note dc_Machine_note pm_Machine_note an_Machine_note cd_Machine_note ct_Machine_note), sl_Machine_note⟩)
    (c_Machine_note : PySem.W.codeIn K cd_Machine_note "Machine.note" = true)
    (k_Machine_note : PySem.W.keepIn K (.ref f_Machine_note) = true)
    (a_Machine_take : PySem.W.findIn K (.ref C_Machine) "take" = some (some (.ref f_Machine_take)))
    (i_Machine_take : PySem.W.isFn K (.ref f_Machine_take) = true)
    (l_Machine_take : K.lookup f_Machine_take = some ⟨oc_Machine_take, od_Machine_take, .func (PySem.W.fnOf "take" "Machine.take" (defArgs s_Machine_take) (defBody s_Machine_take) (defScope s_Machine_take) .none kV_Machine_take dc_Machine_take pm_Machine_take an_Machine_take cd_Machine_take ct_Machine_take), sl_Machine_take⟩)
    (c_Machine_take : PySem.W.codeIn K cd_Machine_take "Machine.take" = true)
    (k_Machine_take : PySem.W.keepIn K (.ref f_Machine_take) = true)
    (a_Machine_read : PySem.W.findIn K (.ref C_Machine) "read" = some (some (.ref f_Machine_read)))
    (i_Machine_read : PySem.W.isFn K (.ref f_Machine_read) = true)
    (l_Machine_read : K.lookup f_Machine_read = some ⟨oc_Machine_read, od_Machine_read, .func (PySem.W.fnOf "read" "Machine.read" (defArgs s_Machine_read) (defBody s_Machine_read) (defScope s_Machine_read) .none kV_Machine_read dc_Machine_read pm_Machine_read an_Machine_read cd_Machine_read ct_Machine_read), sl_Machine_read⟩)
    (c_Machine_read : PySem.W.codeIn K cd_Machine_read "Machine.read" = true)
    (k_Machine_read : PySem.W.keepIn K (.ref f_Machine_read) = true)
    (a_Machine_write : PySem.W.findIn K (.ref C_Machine) "write" = some (some (.ref f_Machine_write)))
    (i_Machine_write : PySem.W.isFn K (.ref f_Machine_write) = true)
    (l_Machine_write : K.lookup f_Machine_write = some ⟨oc_Machine_write, od_Machine_write, .func (PySem.W.fnOf "write" "Machine.write" (defArgs s_Machine_write) (defBody s_Machine_write) (defScope s_Machine_write) .none kV_Machine_write dc_Machine_write pm_Machine_write an_Machine_write cd_Machine_write ct_Machine_write), sl_Machine_write⟩)
    (c_Machine_write : PySem.W.codeIn K cd_Machine_write "Machine.write" = true)
    (k_Machine_write : PySem.W.keepIn K (.ref f_Machine_write) = true)
    (a_Machine_clean : PySem.W.findIn K (.ref C_Machine) "clean" = some (some (.ref f_Machine_clean)))
    (i_Machine_clean : PySem.W.isFn K (.ref f_Machine_clean) = true)
    (l_Machine_clean : K.lookup f_Machine_clean = some ⟨oc_Machine_clean, od_Machine_clean, .func (PySem.W.fnOf "clean" "Machine.clean" (defArgs s_Machine_clean) (defBody s_Machine_clean) (defScope s_Machine_clean) .none kV_Machine_clean dc_Machine_clean pm_Machine_clean an_Machine_clean cd_Machine_clean ct_Machine_clean), sl_Machine_clean⟩)
    (c_Machine_clean : PySem.W.codeIn K cd_Machine_clean "Machine.clean" = true)
    (k_Machine_clean : PySem.W.keepIn K (.ref f_Machine_clean) = true)
    (a_Machine_drop : PySem.W.findIn K (.ref C_Machine) "drop" = some (some (.ref f_Machine_drop)))
    (i_Machine_drop : PySem.W.isFn K (.ref f_Machine_drop) = true)
    (l_Machine_drop : K.lookup f_Machine_drop = some ⟨oc_Machine_drop, od_Machine_drop, .func (PySem.W.fnOf "drop" "Machine.drop" (defArgs s_Machine_drop) (defBody s_Machine_drop) (defScope s_Machine_drop) .none kV_Machine_drop dc_Machine_drop pm_Machine_drop an_Machine_drop cd_Machine_drop ct_Machine_drop), sl_Machine_drop⟩)
    (c_Machine_drop : PySem.W.codeIn K cd_Machine_drop "Machine.drop" = true)
    (k_Machine_drop : PySem.W.keepIn K (.ref f_Machine_drop) = true)
    (a_Machine_process : PySem.W.findIn K (.ref C_Machine) "process" = some (some (.ref f_Machine_process)))
    (i_Machine_process : PySem.W.isFn K (.ref f_Machine_process) = true)
    (l_Machine_process : K.lookup f_Machine_process = some ⟨oc_Machine_process, od_Machine_process, .func (PySem.W.fnOf "process" "Machine.process" (defArgs s_Machine_process) (defBody s_Machine_process) (defScope s_Machine_process) .none kV_Machine_process dc_Machine_process pm_Machine_process an_Machine_process cd_Machine_process ct_Machine_process), sl_Machine_process⟩)
    (c_Machine_process : PySem.W.codeIn K cd_Machine_process "Machine.process" = true)
    (k_Machine_process : PySem.W.keepIn K (.ref f_Machine_process) = true)
    (a_Machine_may_rest : PySem.W.findIn K (.ref C_Machine) "may_rest" = some (some (.ref f_Machine_may_rest)))
    (i_Machine_may_rest : PySem.W.isFn K (.ref f_Machine_may_rest) = true)
    (l_Machine_may_rest : K.lookup f_Machine_may_rest = some ⟨oc_Machine_may_rest, od_Machine_may_rest, .func (PySem.W.fnOf "may_rest" "Machine.may_rest" (defArgs s_Machine_may_rest) (defBody s_Machine_may_rest) (defScope s_Machine_may_rest) .none kV_Machine_may_rest dc_Machine_may_rest pm_Machine_may_rest an_Machine_may_rest cd_Machine_may_rest ct_Machine_may_rest), sl_Machine_may_rest⟩)
    (c_Machine_may_rest : PySem.W.codeIn K cd_Machine_may_rest "Machine.may_rest" = true)
    (k_Machine_may_rest : PySem.W.keepIn K (.ref f_Machine_may_rest) = true)
    (a_Machine_carry : PySem.W.findIn K (.ref C_Machine) "carry" = some (some (.ref f_Machine_carry)))
    (i_Machine_carry : PySem.W.isFn K (.ref f_Machine_carry) = true)
    (l_Machine_carry : K.lookup f_Machine_carry = some ⟨oc_Machine_carry, od_Machine_carry, .func (PySem.W.fnOf "carry" "Machine.carry" (defArgs s_Machine_carry) (defBody s_Machine_carry) (defScope s_Machine_carry) .none kV_Machine_carry dc_Machine_carry pm_Machine_carry an_Machine_carry cd_Machine_carry ct_Machine_carry), sl_Machine_carry⟩)
    (c_Machine_carry : PySem.W.codeIn K cd_Machine_carry "Machine.carry" = true)
    (k_Machine_carry : PySem.W.keepIn K (.ref f_Machine_carry) = true)
    (a_Machine_is_over : PySem.W.findIn K (.ref C_Machine) "is_over" = some (some (.ref f_Machine_is_over)))
    (i_Machine_is_over : PySem.W.isFn K (.ref f_Machine_is_over) = true)
    (l_Machine_is_over : K.lookup f_Machine_is_over = some ⟨oc_Machine_is_over, od_Machine_is_over, .func (PySem.W.fnOf "is_over" "Machine.is_over" (defArgs s_Machine_is_over) (defBody s_Machine_is_over) (defScope s_Machine_is_over) .none kV_Machine_is_over dc_Machine_is_over pm_Machine_is_over an_Machine_is_over cd_Machine_is_over ct_Machine_is_over), sl_Machine_is_over⟩)
    (c_Machine_is_over : PySem.W.codeIn K cd_Machine_is_over "Machine.is_over" = true)
    (k_Machine_is_over : PySem.W.keepIn K (.ref f_Machine_is_over) = true)
    (a_Machine_finish : PySem.W.findIn K (.ref C_Machine) "finish" = some (some (.ref f_Machine_finish)))
    (i_Machine_finish : PySem.W.isFn K (.ref f_Machine_finish) = true)
    (l_Machine_finish : K.lookup f_Machine_finish = some ⟨oc_Machine_finish, od_Machine_finish, .func (PySem.W.fnOf "finish" "Machine.finish" (defArgs s_Machine_finish) (defBody s_Machine_finish) (defScope s_Machine_finish) .none kV_Machine_finish dc_Machine_finish pm_Machine_finish an_Machine_finish cd_Machine_finish ct_Machine_finish), sl_Machine_finish⟩)
    (c_Machine_finish : PySem.W.codeIn K cd_Machine_finish "Machine.finish" = true)
    (k_Machine_finish : PySem.W.keepIn K (.ref f_Machine_finish) = true)
    (a_Machine_key : PySem.W.findIn K (.ref C_Machine) "key" = some (some (.ref f_Machine_key)))
    (i_Machine_key : PySem.W.isFn K (.ref f_Machine_key) = true)
    (l_Machine_key : K.lookup f_Machine_key = some ⟨oc_Machine_key, od_Machine_key, .func (PySem.W.fnOf "key" "Machine.key" (defArgs s_Machine_key) (defBody s_Machine_key) (defScope s_Machine_key) .none kV_Machine_key dc_Machine_key pm_Machine_key an_Machine_key cd_Machine_key ct_Machine_key), sl_Machine_key⟩)
    (c_Machine_key : PySem.W.codeIn K cd_Machine_key "Machine.key" = true)
    (k_Machine_key : PySem.W.keepIn K (.ref f_Machine_key) = true)
    (a_gone : PySem.W.nsIn K mainGlobals "gone" = some (some (.ref f_gone)))
    (l_gone : K.lookup f_gone = some ⟨oc_gone, od_gone, .func (PySem.W.fnOf "gone" "gone" (defArgs s_gone) (defBody s_gone) (defScope s_gone) .none kV_gone dc_gone pm_gone an_gone cd_gone ct_gone), sl_gone⟩)
    (c_gone : PySem.W.codeIn K cd_gone "gone" = true)
    (k_gone : PySem.W.keepIn K (.ref f_gone) = true)
    (a_story : PySem.W.nsIn K mainGlobals "story" = some (some (.ref f_story)))
    (l_story : K.lookup f_story = some ⟨oc_story, od_story, .func (PySem.W.fnOf "story" "story" (defArgs s_story) (defBody s_story) (defScope s_story) .none kV_story dc_story pm_story an_story cd_story ct_story), sl_story⟩)
    (c_story : PySem.W.codeIn K cd_story "story" = true)
    (k_story : PySem.W.keepIn K (.ref f_story) = true)
    (a_ended : PySem.W.nsIn K mainGlobals "ended" = some (some (.ref f_ended)))
    (l_ended : K.lookup f_ended = some ⟨oc_ended, od_ended, .func (PySem.W.fnOf "ended" "ended" (defArgs s_ended) (defBody s_ended) (defScope s_ended) .none kV_ended dc_ended pm_ended an_ended cd_ended ct_ended), sl_ended⟩)
    (c_ended : PySem.W.codeIn K cd_ended "ended" = true)
    (k_ended : PySem.W.keepIn K (.ref f_ended) = true)
    (a_Plain___init__ : PySem.W.findIn K (.ref C_Plain) "__init__" = some (some (.ref f_Plain___init__)))
    (i_Plain___init__ : PySem.W.isFn K (.ref f_Plain___init__) = true)
    (l_Plain___init__ : K.lookup f_Plain___init__ = some ⟨oc_Plain___init__, od_Plain___init__, .func (PySem.W.fnOf "__init__" "Plain.__init__" (defArgs s_Plain___init__) (defBody s_Plain___init__) (defScope s_Plain___init__) .none kV_Plain___init__ dc_Plain___init__ pm_Plain___init__ an_Plain___init__ cd_Plain___init__ ct_Plain___init__), sl_Plain___init__⟩)
    (c_Plain___init__ : PySem.W.codeIn K cd_Plain___init__ "Plain.__init__" = true)
    (k_Plain___init__ : PySem.W.keepIn K (.ref f_Plain___init__) = true)
    (a_Plain_look : PySem.W.findIn K (.ref C_Plain) "look" = some (some (.ref f_Plain_look)))
    (i_Plain_look : PySem.W.isFn K (.ref f_Plain_look) = true)
    (l_Plain_look : K.lookup f_Plain_look = some ⟨oc_Plain_look, od_Plain_look, .func (PySem.W.fnOf "look" "Plain.look" (defArgs s_Plain_look) (defBody s_Plain_look) (defScope s_Plain_look) .none kV_Plain_look dc_Plain_look pm_Plain_look an_Plain_look cd_Plain_look ct_Plain_look), sl_Plain_look⟩)
    (c_Plain_look : PySem.W.codeIn K cd_Plain_look "Plain.look" = true)
    (k_Plain_look : PySem.W.keepIn K (.ref f_Plain_look) = true)
    (a_Plain_does : PySem.W.findIn K (.ref C_Plain) "does" = some (some (.ref f_Plain_does)))
    (i_Plain_does : PySem.W.isFn K (.ref f_Plain_does) = true)
    (l_Plain_does : K.lookup f_Plain_does = some ⟨oc_Plain_does, od_Plain_does, .func (PySem.W.fnOf "does" "Plain.does" (defArgs s_Plain_does) (defBody s_Plain_does) (defScope s_Plain_does) .none kV_Plain_does dc_Plain_does pm_Plain_does an_Plain_does cd_Plain_does ct_Plain_does), sl_Plain_does⟩)
    (c_Plain_does : PySem.W.codeIn K cd_Plain_does "Plain.does" = true)
    (k_Plain_does : PySem.W.keepIn K (.ref f_Plain_does) = true)
    (a_plain_end : PySem.W.nsIn K mainGlobals "plain_end" = some (some (.ref f_plain_end)))
    (l_plain_end : K.lookup f_plain_end = some ⟨oc_plain_end, od_plain_end, .func (PySem.W.fnOf "plain_end" "plain_end" (defArgs s_plain_end) (defBody s_plain_end) (defScope s_plain_end) .none kV_plain_end dc_plain_end pm_plain_end an_plain_end cd_plain_end ct_plain_end), sl_plain_end⟩)
    (c_plain_end : PySem.W.codeIn K cd_plain_end "plain_end" = true)
    (k_plain_end : PySem.W.keepIn K (.ref f_plain_end) = true)
    (a_sights : PySem.W.nsIn K mainGlobals "sights" = some (some (.ref f_sights)))
    (l_sights : K.lookup f_sights = some ⟨oc_sights, od_sights, .func (PySem.W.fnOf "sights" "sights" (defArgs s_sights) (defBody s_sights) (defScope s_sights) .none kV_sights dc_sights pm_sights an_sights cd_sights ct_sights), sl_sights⟩)
    (c_sights : PySem.W.codeIn K cd_sights "sights" = true)
    (k_sights : PySem.W.keepIn K (.ref f_sights) = true)
    (a_amiss : PySem.W.nsIn K mainGlobals "amiss" = some (some (.ref f_amiss)))
    (l_amiss : K.lookup f_amiss = some ⟨oc_amiss, od_amiss, .func (PySem.W.fnOf "amiss" "amiss" (defArgs s_amiss) (defBody s_amiss) (defScope s_amiss) .none kV_amiss dc_amiss pm_amiss an_amiss cd_amiss ct_amiss), sl_amiss⟩)
    (c_amiss : PySem.W.codeIn K cd_amiss "amiss" = true)
    (k_amiss : PySem.W.keepIn K (.ref f_amiss) = true)
    (a_Judge___init__ : PySem.W.findIn K (.ref C_Judge) "__init__" = some (some (.ref f_Judge___init__)))
    (i_Judge___init__ : PySem.W.isFn K (.ref f_Judge___init__) = true)
    (l_Judge___init__ : K.lookup f_Judge___init__ = some ⟨oc_Judge___init__, od_Judge___init__, .func (PySem.W.fnOf "__init__" "Judge.__init__" (defArgs s_Judge___init__) (defBody s_Judge___init__) (defScope s_Judge___init__) .none kV_Judge___init__ dc_Judge___init__ pm_Judge___init__ an_Judge___init__ cd_Judge___init__ ct_Judge___init__), sl_Judge___init__⟩)
    (c_Judge___init__ : PySem.W.codeIn K cd_Judge___init__ "Judge.__init__" = true)
    (k_Judge___init__ : PySem.W.keepIn K (.ref f_Judge___init__) = true)
    (a_Judge_is_amiss : PySem.W.findIn K (.ref C_Judge) "is_amiss" = some (some (.ref f_Judge_is_amiss)))
    (i_Judge_is_amiss : PySem.W.isFn K (.ref f_Judge_is_amiss) = true)
    (l_Judge_is_amiss : K.lookup f_Judge_is_amiss = some ⟨oc_Judge_is_amiss, od_Judge_is_amiss, .func (PySem.W.fnOf "is_amiss" "Judge.is_amiss" (defArgs s_Judge_is_amiss) (defBody s_Judge_is_amiss) (defScope s_Judge_is_amiss) .none kV_Judge_is_amiss dc_Judge_is_amiss pm_Judge_is_amiss an_Judge_is_amiss cd_Judge_is_amiss ct_Judge_is_amiss), sl_Judge_is_amiss⟩)
    (c_Judge_is_amiss : PySem.W.codeIn K cd_Judge_is_amiss "Judge.is_amiss" = true)
    (k_Judge_is_amiss : PySem.W.keepIn K (.ref f_Judge_is_amiss) = true)
    (a_Judge_torn : PySem.W.findIn K (.ref C_Judge) "torn" = some (some (.ref f_Judge_torn)))
    (i_Judge_torn : PySem.W.isFn K (.ref f_Judge_torn) = true)
    (l_Judge_torn : K.lookup f_Judge_torn = some ⟨oc_Judge_torn, od_Judge_torn, .func (PySem.W.fnOf "torn" "Judge.torn" (defArgs s_Judge_torn) (defBody s_Judge_torn) (defScope s_Judge_torn) .none kV_Judge_torn dc_Judge_torn pm_Judge_torn an_Judge_torn cd_Judge_torn ct_Judge_torn), sl_Judge_torn⟩)
    (c_Judge_torn : PySem.W.codeIn K cd_Judge_torn "Judge.torn" = true)
    (k_Judge_torn : PySem.W.keepIn K (.ref f_Judge_torn) = true)
    (a_Judge_onward : PySem.W.findIn K (.ref C_Judge) "onward" = some (some (.ref f_Judge_onward)))
    (i_Judge_onward : PySem.W.isFn K (.ref f_Judge_onward) = true)
    (l_Judge_onward : K.lookup f_Judge_onward = some ⟨oc_Judge_onward, od_Judge_onward, .func (PySem.W.fnOf "onward" "Judge.onward" (defArgs s_Judge_onward) (defBody s_Judge_onward) (defScope s_Judge_onward) .none kV_Judge_onward dc_Judge_onward pm_Judge_onward an_Judge_onward cd_Judge_onward ct_Judge_onward), sl_Judge_onward⟩)
    (c_Judge_onward : PySem.W.codeIn K cd_Judge_onward "Judge.onward" = true)
    (k_Judge_onward : PySem.W.keepIn K (.ref f_Judge_onward) = true)
    (a_judged : PySem.W.nsIn K mainGlobals "judged" = some (some (.ref f_judged)))
    (l_judged : K.lookup f_judged = some ⟨oc_judged, od_judged, .func (PySem.W.fnOf "judged" "judged" (defArgs s_judged) (defBody s_judged) (defScope s_judged) .none kV_judged dc_judged pm_judged an_judged cd_judged ct_judged), sl_judged⟩)
    (c_judged : PySem.W.codeIn K cd_judged "judged" = true)
    (k_judged : PySem.W.keepIn K (.ref f_judged) = true)
    (a_check_fences : PySem.W.nsIn K mainGlobals "check_fences" = some (some (.ref f_check_fences)))
    (l_check_fences : K.lookup f_check_fences = some ⟨oc_check_fences, od_check_fences, .func (PySem.W.fnOf "check_fences" "check_fences" (defArgs s_check_fences) (defBody s_check_fences) (defScope s_check_fences) .none kV_check_fences dc_check_fences pm_check_fences an_check_fences cd_check_fences ct_check_fences), sl_check_fences⟩)
    (c_check_fences : PySem.W.codeIn K cd_check_fences "check_fences" = true)
    (k_check_fences : PySem.W.keepIn K (.ref f_check_fences) = true)
    (a_put_in : PySem.W.nsIn K mainGlobals "put_in" = some (some (.ref f_put_in)))
    (l_put_in : K.lookup f_put_in = some ⟨oc_put_in, od_put_in, .func (PySem.W.fnOf "put_in" "put_in" (defArgs s_put_in) (defBody s_put_in) (defScope s_put_in) .none kV_put_in dc_put_in pm_put_in an_put_in cd_put_in ct_put_in), sl_put_in⟩)
    (c_put_in : PySem.W.codeIn K cd_put_in "put_in" = true)
    (k_put_in : PySem.W.keepIn K (.ref f_put_in) = true)
    (a_fenced : PySem.W.nsIn K mainGlobals "fenced" = some (some (.ref f_fenced)))
    (l_fenced : K.lookup f_fenced = some ⟨oc_fenced, od_fenced, .func (PySem.W.fnOf "fenced" "fenced" (defArgs s_fenced) (defBody s_fenced) (defScope s_fenced) .none kV_fenced dc_fenced pm_fenced an_fenced cd_fenced ct_fenced), sl_fenced⟩)
    (c_fenced : PySem.W.codeIn K cd_fenced "fenced" = true)
    (k_fenced : PySem.W.keepIn K (.ref f_fenced) = true)
    (a_fully : PySem.W.nsIn K mainGlobals "fully" = some (some (.ref f_fully)))
    (l_fully : K.lookup f_fully = some ⟨oc_fully, od_fully, .func (PySem.W.fnOf "fully" "fully" (defArgs s_fully) (defBody s_fully) (defScope s_fully) .none kV_fully dc_fully pm_fully an_fully cd_fully ct_fully), sl_fully⟩)
    (c_fully : PySem.W.codeIn K cd_fully "fully" = true)
    (k_fully : PySem.W.keepIn K (.ref f_fully) = true)
    (a_number_text : PySem.W.nsIn K mainGlobals "number_text" = some (some (.ref f_number_text)))
    (l_number_text : K.lookup f_number_text = some ⟨oc_number_text, od_number_text, .func (PySem.W.fnOf "number_text" "number_text" (defArgs s_number_text) (defBody s_number_text) (defScope s_number_text) .none kV_number_text dc_number_text pm_number_text an_number_text cd_number_text ct_number_text), sl_number_text⟩)
    (c_number_text : PySem.W.codeIn K cd_number_text "number_text" = true)
    (k_number_text : PySem.W.keepIn K (.ref f_number_text) = true)
    (a_written : PySem.W.nsIn K mainGlobals "written" = some (some (.ref f_written)))
    (l_written : K.lookup f_written = some ⟨oc_written, od_written, .func (PySem.W.fnOf "written" "written" (defArgs s_written) (defBody s_written) (defScope s_written) .none kV_written dc_written pm_written an_written cd_written ct_written), sl_written⟩)
    (c_written : PySem.W.codeIn K cd_written "written" = true)
    (k_written : PySem.W.keepIn K (.ref f_written) = true)
    (a__law_begun : PySem.W.nsIn K mainGlobals "_law_begun" = some (some (.ref f__law_begun)))
    (l__law_begun : K.lookup f__law_begun = some ⟨oc__law_begun, od__law_begun, .func (PySem.W.fnOf "_law_begun" "_law_begun" (defArgs s__law_begun) (defBody s__law_begun) (defScope s__law_begun) .none kV__law_begun dc__law_begun pm__law_begun an__law_begun cd__law_begun ct__law_begun), sl__law_begun⟩)
    (c__law_begun : PySem.W.codeIn K cd__law_begun "_law_begun" = true)
    (k__law_begun : PySem.W.keepIn K (.ref f__law_begun) = true)
    (a__law_take : PySem.W.nsIn K mainGlobals "_law_take" = some (some (.ref f__law_take)))
    (l__law_take : K.lookup f__law_take = some ⟨oc__law_take, od__law_take, .func (PySem.W.fnOf "_law_take" "_law_take" (defArgs s__law_take) (defBody s__law_take) (defScope s__law_take) .none kV__law_take dc__law_take pm__law_take an__law_take cd__law_take ct__law_take), sl__law_take⟩)
    (c__law_take : PySem.W.codeIn K cd__law_take "_law_take" = true)
    (k__law_take : PySem.W.keepIn K (.ref f__law_take) = true)
    (a__law_order : PySem.W.nsIn K mainGlobals "_law_order" = some (some (.ref f__law_order)))
    (l__law_order : K.lookup f__law_order = some ⟨oc__law_order, od__law_order, .func (PySem.W.fnOf "_law_order" "_law_order" (defArgs s__law_order) (defBody s__law_order) (defScope s__law_order) .none kV__law_order dc__law_order pm__law_order an__law_order cd__law_order ct__law_order), sl__law_order⟩)
    (c__law_order : PySem.W.codeIn K cd__law_order "_law_order" = true)
    (k__law_order : PySem.W.keepIn K (.ref f__law_order) = true)
    (a__law_deed : PySem.W.nsIn K mainGlobals "_law_deed" = some (some (.ref f__law_deed)))
    (l__law_deed : K.lookup f__law_deed = some ⟨oc__law_deed, od__law_deed, .func (PySem.W.fnOf "_law_deed" "_law_deed" (defArgs s__law_deed) (defBody s__law_deed) (defScope s__law_deed) .none kV__law_deed dc__law_deed pm__law_deed an__law_deed cd__law_deed ct__law_deed), sl__law_deed⟩)
    (c__law_deed : PySem.W.codeIn K cd__law_deed "_law_deed" = true)
    (k__law_deed : PySem.W.keepIn K (.ref f__law_deed) = true)
    (a__law_board : PySem.W.nsIn K mainGlobals "_law_board" = some (some (.ref f__law_board)))
    (l__law_board : K.lookup f__law_board = some ⟨oc__law_board, od__law_board, .func (PySem.W.fnOf "_law_board" "_law_board" (defArgs s__law_board) (defBody s__law_board) (defScope s__law_board) .none kV__law_board dc__law_board pm__law_board an__law_board cd__law_board ct__law_board), sl__law_board⟩)
    (c__law_board : PySem.W.codeIn K cd__law_board "_law_board" = true)
    (k__law_board : PySem.W.keepIn K (.ref f__law_board) = true)
    (a__law_pace : PySem.W.nsIn K mainGlobals "_law_pace" = some (some (.ref f__law_pace)))
    (l__law_pace : K.lookup f__law_pace = some ⟨oc__law_pace, od__law_pace, .func (PySem.W.fnOf "_law_pace" "_law_pace" (defArgs s__law_pace) (defBody s__law_pace) (defScope s__law_pace) .none kV__law_pace dc__law_pace pm__law_pace an__law_pace cd__law_pace ct__law_pace), sl__law_pace⟩)
    (c__law_pace : PySem.W.codeIn K cd__law_pace "_law_pace" = true)
    (k__law_pace : PySem.W.keepIn K (.ref f__law_pace) = true)
    (a__law_told : PySem.W.nsIn K mainGlobals "_law_told" = some (some (.ref f__law_told)))
    (l__law_told : K.lookup f__law_told = some ⟨oc__law_told, od__law_told, .func (PySem.W.fnOf "_law_told" "_law_told" (defArgs s__law_told) (defBody s__law_told) (defScope s__law_told) .none kV__law_told dc__law_told pm__law_told an__law_told cd__law_told ct__law_told), sl__law_told⟩)
    (c__law_told : PySem.W.codeIn K cd__law_told "_law_told" = true)
    (k__law_told : PySem.W.keepIn K (.ref f__law_told) = true)
    (a__law_spoil : PySem.W.nsIn K mainGlobals "_law_spoil" = some (some (.ref f__law_spoil)))
    (l__law_spoil : K.lookup f__law_spoil = some ⟨oc__law_spoil, od__law_spoil, .func (PySem.W.fnOf "_law_spoil" "_law_spoil" (defArgs s__law_spoil) (defBody s__law_spoil) (defScope s__law_spoil) .none kV__law_spoil dc__law_spoil pm__law_spoil an__law_spoil cd__law_spoil ct__law_spoil), sl__law_spoil⟩)
    (c__law_spoil : PySem.W.codeIn K cd__law_spoil "_law_spoil" = true)
    (k__law_spoil : PySem.W.keepIn K (.ref f__law_spoil) = true)
    (a__law_kept : PySem.W.nsIn K mainGlobals "_law_kept" = some (some (.ref f__law_kept)))
    (l__law_kept : K.lookup f__law_kept = some ⟨oc__law_kept, od__law_kept, .func (PySem.W.fnOf "_law_kept" "_law_kept" (defArgs s__law_kept) (defBody s__law_kept) (defScope s__law_kept) .none kV__law_kept dc__law_kept pm__law_kept an__law_kept cd__law_kept ct__law_kept), sl__law_kept⟩)
    (c__law_kept : PySem.W.codeIn K cd__law_kept "_law_kept" = true)
    (k__law_kept : PySem.W.keepIn K (.ref f__law_kept) = true)
    (a__law_kinds : PySem.W.nsIn K mainGlobals "_law_kinds" = some (some (.ref f__law_kinds)))
    (l__law_kinds : K.lookup f__law_kinds = some ⟨oc__law_kinds, od__law_kinds, .func (PySem.W.fnOf "_law_kinds" "_law_kinds" (defArgs s__law_kinds) (defBody s__law_kinds) (defScope s__law_kinds) .none kV__law_kinds dc__law_kinds pm__law_kinds an__law_kinds cd__law_kinds ct__law_kinds), sl__law_kinds⟩)
    (c__law_kinds : PySem.W.codeIn K cd__law_kinds "_law_kinds" = true)
    (k__law_kinds : PySem.W.keepIn K (.ref f__law_kinds) = true)
    (a_law : PySem.W.nsIn K mainGlobals "law" = some (some (.ref f_law)))
    (l_law : K.lookup f_law = some ⟨oc_law, od_law, .func (PySem.W.fnOf "law" "law" (defArgs s_law) (defBody s_law) (defScope s_law) .none kV_law dc_law pm_law an_law cd_law ct_law), sl_law⟩)
    (c_law : PySem.W.codeIn K cd_law "law" = true)
    (k_law : PySem.W.keepIn K (.ref f_law) = true)
    (pg_Machine : PySem.W.plainGet K C_Machine Str.empty = true)
    (hd_Machine : PySem.W.hasDictIn K C_Machine = true)
    (po_Machine : PySem.W.plainOver K C_Machine = true)
    (sa_Machine : PySem.W.findIn K (.ref C_Machine) "__setattr__" = some (some (.builtin "object.__setattr__")))
    (m_Machine : PySem.W.makesIn K C_Machine = true)
    (kc_Machine : PySem.W.keepIn K (.ref C_Machine) = true)
    (n_Machine_memory : PySem.W.findIn K (.ref C_Machine) "memory" = some none)
    (n_Machine_orders : PySem.W.findIn K (.ref C_Machine) "orders" = some none)
    (n_Machine_program : PySem.W.findIn K (.ref C_Machine) "program" = some none)
    (n_Machine_held : PySem.W.findIn K (.ref C_Machine) "held" = some none)
    (n_Machine_left : PySem.W.findIn K (.ref C_Machine) "left" = some none)
    (n_Machine_at : PySem.W.findIn K (.ref C_Machine) "at" = some none)
    (n_Machine_beats : PySem.W.findIn K (.ref C_Machine) "beats" = some none)
    (n_Machine_rows : PySem.W.findIn K (.ref C_Machine) "rows" = some none)
    (n_Machine_idle : PySem.W.findIn K (.ref C_Machine) "idle" = some none)
    (n_Machine_many_reads : PySem.W.findIn K (.ref C_Machine) "many_reads" = some none)
    (n_Machine_many_fetches : PySem.W.findIn K (.ref C_Machine) "many_fetches" = some none)
    (pg_Plain : PySem.W.plainGet K C_Plain Str.empty = true)
    (hd_Plain : PySem.W.hasDictIn K C_Plain = true)
    (po_Plain : PySem.W.plainOver K C_Plain = true)
    (sa_Plain : PySem.W.findIn K (.ref C_Plain) "__setattr__" = some (some (.builtin "object.__setattr__")))
    (m_Plain : PySem.W.makesIn K C_Plain = true)
    (kc_Plain : PySem.W.keepIn K (.ref C_Plain) = true)
    (n_Plain_memory : PySem.W.findIn K (.ref C_Plain) "memory" = some none)
    (n_Plain_reads : PySem.W.findIn K (.ref C_Plain) "reads" = some none)
    (n_Plain_fetches : PySem.W.findIn K (.ref C_Plain) "fetches" = some none)
    (n_Plain_said : PySem.W.findIn K (.ref C_Plain) "said" = some none)
    (pg_Judge : PySem.W.plainGet K C_Judge Str.empty = true)
    (hd_Judge : PySem.W.hasDictIn K C_Judge = true)
    (po_Judge : PySem.W.plainOver K C_Judge = true)
    (sa_Judge : PySem.W.findIn K (.ref C_Judge) "__setattr__" = some (some (.builtin "object.__setattr__")))
    (m_Judge : PySem.W.makesIn K C_Judge = true)
    (kc_Judge : PySem.W.keepIn K (.ref C_Judge) = true)
    (n_Judge_board : PySem.W.findIn K (.ref C_Judge) "board" = some none)
    (n_Judge_aim : PySem.W.findIn K (.ref C_Judge) "aim" = some none)
    (n_Judge_met : PySem.W.findIn K (.ref C_Judge) "met" = some none)
    : ∃ fd : FuncData, (∀ (s : Shared) (v : Value), BindsTo s fd ⟨[v], []⟩ [("_law_script", v)]) ∧ ∀ base : Heap, K.In base → base.Ns mainGlobals mg → FnOk l.prog w K mg base CX0 12 fa fd ["_law_script"] (sp_law K) := by
  have e := hfa.symm.trans (PySem.W.mg_of X G a_law)
  cases e
  have T : Txt K mg ⟨C_Machine, C_Plain, C_Judge⟩ := {
    len := PySem.W.mg_none_of X G z_len,
    range := PySem.W.mg_none_of X G z_range,
    min := PySem.W.mg_none_of X G z_min,
    int := PySem.W.mg_none_of X G z_int,
    list := PySem.W.mg_none_of X G z_list,
    tuple := PySem.W.mg_none_of X G z_tuple,
    sorted := PySem.W.mg_none_of X G z_sorted,
    enumerate := PySem.W.mg_none_of X G z_enumerate,
    isinstance := PySem.W.mg_none_of X G z_isinstance,
    str := PySem.W.mg_none_of X G z_str,
    ValueError := PySem.W.mg_none_of X G z_ValueError,
    g_WIDE := ⟨_, PySem.W.mg_of X G v_WIDE, _, rfl⟩,
    g_MOST_LINES := ⟨_, PySem.W.mg_of X G v_MOST_LINES, _, rfl⟩,
    g_MOST_DIGIT := ⟨_, PySem.W.mg_of X G v_MOST_DIGIT, _, rfl⟩,
    g_MOST_ORDERS := ⟨_, PySem.W.mg_of X G v_MOST_ORDERS, _, rfl⟩,
    g_MOST_CELLS := ⟨_, PySem.W.mg_of X G v_MOST_CELLS, _, rfl⟩,
    g_MOST_DEEDS := ⟨_, PySem.W.mg_of X G v_MOST_DEEDS, _, rfl⟩,
    g_MOST_STARTS := ⟨_, PySem.W.mg_of X G v_MOST_STARTS, _, rfl⟩,
    g_MOST_FENCES := ⟨_, PySem.W.mg_of X G v_MOST_FENCES, _, rfl⟩,
    g_FENCES := ⟨a_FENCES, ⟨_, PySem.W.mg_of X G v_FENCES, rfl⟩, fun H => .inr ⟨_, ar_FENCES, nn_FENCES, l_FENCES, rfl, rfl, by have := w_FENCES.length; simp at this; rw [← this]; decide, w_FENCES⟩⟩,
    F_is_from := ⟨_, _, fun_mk (st := s_is_from) l_is_from c_is_from k_is_from, PySem.W.mg_of X G a_is_from⟩,
    F_lines_in := ⟨_, _, fun_mk (st := s_lines_in) l_lines_in c_lines_in k_lines_in, PySem.W.mg_of X G a_lines_in⟩,
    F_memory_fault := ⟨_, _, fun_mk (st := s_memory_fault) l_memory_fault c_memory_fault k_memory_fault, PySem.W.mg_of X G a_memory_fault⟩,
    F_is_order := ⟨_, _, fun_mk (st := s_is_order) l_is_order c_is_order k_is_order, PySem.W.mg_of X G a_is_order⟩,
    F_is_deed := ⟨_, _, fun_mk (st := s_is_deed) l_is_deed c_is_deed k_is_deed, PySem.W.mg_of X G a_is_deed⟩,
    F_check_board := ⟨_, _, fun_mk (st := s_check_board) l_check_board c_check_board k_check_board, PySem.W.mg_of X G a_check_board⟩,
    F_moves_of := ⟨_, _, fun_mk (st := s_moves_of) l_moves_of c_moves_of k_moves_of, PySem.W.mg_of X G a_moves_of⟩,
    F_Machine___init__ := ⟨_, _, fun_mk (st := s_Machine___init__) l_Machine___init__ c_Machine___init__ k_Machine___init__, ⟨m_Machine, a_Machine___init__, i_Machine___init__, kc_Machine⟩⟩,
    F_Machine_copied := ⟨_, _, fun_mk (st := s_Machine_copied) l_Machine_copied c_Machine_copied k_Machine_copied, ⟨a_Machine_copied, i_Machine_copied, k_Machine_copied⟩⟩,
    F_Machine_note := ⟨_, _, fun_mk (st := s_Machine_note) l_Machine_note c_Machine_note k_Machine_note, ⟨a_Machine_note, i_Machine_note, k_Machine_note⟩⟩,
    F_Machine_take := ⟨_, _, fun_mk (st := s_Machine_take) l_Machine_take c_Machine_take k_Machine_take, ⟨a_Machine_take, i_Machine_take, k_Machine_take⟩⟩,
    F_Machine_read := ⟨_, _, fun_mk (st := s_Machine_read) l_Machine_read c_Machine_read k_Machine_read, ⟨a_Machine_read, i_Machine_read, k_Machine_read⟩⟩,
    F_Machine_write := ⟨_, _, fun_mk (st := s_Machine_write) l_Machine_write c_Machine_write k_Machine_write, ⟨a_Machine_write, i_Machine_write, k_Machine_write⟩⟩,
    F_Machine_clean := ⟨_, _, fun_mk (st := s_Machine_clean) l_Machine_clean c_Machine_clean k_Machine_clean, ⟨a_Machine_clean, i_Machine_clean, k_Machine_clean⟩⟩,
    F_Machine_drop := ⟨_, _, fun_mk (st := s_Machine_drop) l_Machine_drop c_Machine_drop k_Machine_drop, ⟨a_Machine_drop, i_Machine_drop, k_Machine_drop⟩⟩,
    F_Machine_process := ⟨_, _, fun_mk (st := s_Machine_process) l_Machine_process c_Machine_process k_Machine_process, ⟨a_Machine_process, i_Machine_process, k_Machine_process⟩⟩,
    F_Machine_may_rest := ⟨_, _, fun_mk (st := s_Machine_may_rest) l_Machine_may_rest c_Machine_may_rest k_Machine_may_rest, ⟨a_Machine_may_rest, i_Machine_may_rest, k_Machine_may_rest⟩⟩,
    F_Machine_carry := ⟨_, _, fun_mk (st := s_Machine_carry) l_Machine_carry c_Machine_carry k_Machine_carry, ⟨a_Machine_carry, i_Machine_carry, k_Machine_carry⟩⟩,
    F_Machine_is_over := ⟨_, _, fun_mk (st := s_Machine_is_over) l_Machine_is_over c_Machine_is_over k_Machine_is_over, ⟨a_Machine_is_over, i_Machine_is_over, k_Machine_is_over⟩⟩,
    F_Machine_finish := ⟨_, _, fun_mk (st := s_Machine_finish) l_Machine_finish c_Machine_finish k_Machine_finish, ⟨a_Machine_finish, i_Machine_finish, k_Machine_finish⟩⟩,
    F_Machine_key := ⟨_, _, fun_mk (st := s_Machine_key) l_Machine_key c_Machine_key k_Machine_key, ⟨a_Machine_key, i_Machine_key, k_Machine_key⟩⟩,
    F_gone := ⟨_, _, fun_mk (st := s_gone) l_gone c_gone k_gone, PySem.W.mg_of X G a_gone⟩,
    F_story := ⟨_, _, fun_mk (st := s_story) l_story c_story k_story, PySem.W.mg_of X G a_story⟩,
    F_ended := ⟨_, _, fun_mk (st := s_ended) l_ended c_ended k_ended, PySem.W.mg_of X G a_ended⟩,
    F_Plain___init__ := ⟨_, _, fun_mk (st := s_Plain___init__) l_Plain___init__ c_Plain___init__ k_Plain___init__, ⟨m_Plain, a_Plain___init__, i_Plain___init__, kc_Plain⟩⟩,
    F_Plain_look := ⟨_, _, fun_mk (st := s_Plain_look) l_Plain_look c_Plain_look k_Plain_look, ⟨a_Plain_look, i_Plain_look, k_Plain_look⟩⟩,
    F_Plain_does := ⟨_, _, fun_mk (st := s_Plain_does) l_Plain_does c_Plain_does k_Plain_does, ⟨a_Plain_does, i_Plain_does, k_Plain_does⟩⟩,
    F_plain_end := ⟨_, _, fun_mk (st := s_plain_end) l_plain_end c_plain_end k_plain_end, PySem.W.mg_of X G a_plain_end⟩,
    F_sights := ⟨_, _, fun_mk (st := s_sights) l_sights c_sights k_sights, PySem.W.mg_of X G a_sights⟩,
    F_amiss := ⟨_, _, fun_mk (st := s_amiss) l_amiss c_amiss k_amiss, PySem.W.mg_of X G a_amiss⟩,
    F_Judge___init__ := ⟨_, _, fun_mk (st := s_Judge___init__) l_Judge___init__ c_Judge___init__ k_Judge___init__, ⟨m_Judge, a_Judge___init__, i_Judge___init__, kc_Judge⟩⟩,
    F_Judge_is_amiss := ⟨_, _, fun_mk (st := s_Judge_is_amiss) l_Judge_is_amiss c_Judge_is_amiss k_Judge_is_amiss, ⟨a_Judge_is_amiss, i_Judge_is_amiss, k_Judge_is_amiss⟩⟩,
    F_Judge_torn := ⟨_, _, fun_mk (st := s_Judge_torn) l_Judge_torn c_Judge_torn k_Judge_torn, ⟨a_Judge_torn, i_Judge_torn, k_Judge_torn⟩⟩,
    F_Judge_onward := ⟨_, _, fun_mk (st := s_Judge_onward) l_Judge_onward c_Judge_onward k_Judge_onward, ⟨a_Judge_onward, i_Judge_onward, k_Judge_onward⟩⟩,
    F_judged := ⟨_, _, fun_mk (st := s_judged) l_judged c_judged k_judged, PySem.W.mg_of X G a_judged⟩,
    F_check_fences := ⟨_, _, fun_mk (st := s_check_fences) l_check_fences c_check_fences k_check_fences, PySem.W.mg_of X G a_check_fences⟩,
    F_put_in := ⟨_, _, fun_mk (st := s_put_in) l_put_in c_put_in k_put_in, PySem.W.mg_of X G a_put_in⟩,
    F_fenced := ⟨_, _, fun_mk (st := s_fenced) l_fenced c_fenced k_fenced, PySem.W.mg_of X G a_fenced⟩,
    F_fully := ⟨_, _, fun_mk (st := s_fully) l_fully c_fully k_fully, PySem.W.mg_of X G a_fully⟩,
    F_number_text := ⟨_, _, fun_mk (st := s_number_text) l_number_text c_number_text k_number_text, PySem.W.mg_of X G a_number_text⟩,
    F_written := ⟨_, _, fun_mk (st := s_written) l_written c_written k_written, PySem.W.mg_of X G a_written⟩,
    F__law_begun := ⟨_, _, fun_mk (st := s__law_begun) l__law_begun c__law_begun k__law_begun, PySem.W.mg_of X G a__law_begun⟩,
    F__law_take := ⟨_, _, fun_mk (st := s__law_take) l__law_take c__law_take k__law_take, PySem.W.mg_of X G a__law_take⟩,
    F__law_order := ⟨_, _, fun_mk (st := s__law_order) l__law_order c__law_order k__law_order, PySem.W.mg_of X G a__law_order⟩,
    F__law_deed := ⟨_, _, fun_mk (st := s__law_deed) l__law_deed c__law_deed k__law_deed, PySem.W.mg_of X G a__law_deed⟩,
    F__law_board := ⟨_, _, fun_mk (st := s__law_board) l__law_board c__law_board k__law_board, PySem.W.mg_of X G a__law_board⟩,
    F__law_pace := ⟨_, _, fun_mk (st := s__law_pace) l__law_pace c__law_pace k__law_pace, PySem.W.mg_of X G a__law_pace⟩,
    F__law_told := ⟨_, _, fun_mk (st := s__law_told) l__law_told c__law_told k__law_told, PySem.W.mg_of X G a__law_told⟩,
    F__law_spoil := ⟨_, _, fun_mk (st := s__law_spoil) l__law_spoil c__law_spoil k__law_spoil, PySem.W.mg_of X G a__law_spoil⟩,
    F__law_kept := ⟨_, _, fun_mk (st := s__law_kept) l__law_kept c__law_kept k__law_kept, PySem.W.mg_of X G a__law_kept⟩,
    F__law_kinds := ⟨_, _, fun_mk (st := s__law_kinds) l__law_kinds c__law_kinds k__law_kinds, PySem.W.mg_of X G a__law_kinds⟩,
    F_law := ⟨_, _, fun_mk (st := s_law) l_law c_law k_law, PySem.W.mg_of X G a_law⟩,
    mg_Machine := PySem.W.mg_of X G aC_Machine,
    cl_Machine := ⟨pg_Machine, hd_Machine, po_Machine, sa_Machine⟩,
    na_Machine_memory := n_Machine_memory,
    na_Machine_orders := n_Machine_orders,
    na_Machine_program := n_Machine_program,
    na_Machine_held := n_Machine_held,
    na_Machine_left := n_Machine_left,
    na_Machine_at := n_Machine_at,
    na_Machine_beats := n_Machine_beats,
    na_Machine_rows := n_Machine_rows,
    na_Machine_idle := n_Machine_idle,
    na_Machine_many_reads := n_Machine_many_reads,
    na_Machine_many_fetches := n_Machine_many_fetches,
    mg_Plain := PySem.W.mg_of X G aC_Plain,
    cl_Plain := ⟨pg_Plain, hd_Plain, po_Plain, sa_Plain⟩,
    na_Plain_memory := n_Plain_memory,
    na_Plain_reads := n_Plain_reads,
    na_Plain_fetches := n_Plain_fetches,
    na_Plain_said := n_Plain_said,
    mg_Judge := PySem.W.mg_of X G aC_Judge,
    cl_Judge := ⟨pg_Judge, hd_Judge, po_Judge, sa_Judge⟩,
    na_Judge_board := n_Judge_board,
    na_Judge_aim := n_Judge_aim,
    na_Judge_met := n_Judge_met }
  refine ⟨PySem.W.fnOf "law" "law" (defArgs s_law) (defBody s_law) (defScope s_law) .none kV_law dc_law pm_law an_law cd_law ct_law, fun s v => .of_eq rfl, fun base _ _ => ok_law T (fun_mk (st := s_law) l_law c_law k_law)⟩
end BC
open PySem PySem.W PyProof.Rows
set_option maxRecDepth 100000 in
set_option maxHeartbeats 0 in
theorem PySem.Challenge.cw_blockcarrier_k16_asked_again_holds : PySem.Challenge.rw_blockcarrier_k16_asked_again.Holds := by
  w_on; o_law; k_head; (case hw => w_witness2)
  k_fill
  refine L2.walk_of (l := PySem.Challenge.rw_blockcarrier_k16_asked_again) (n := 63) (k := 12) (x := "_law_script") (CX := fun _ => L2.CX0) (sp := fun w => BC.sp_law _) rfl (by decide) rfl ⟨rfl, by decide, by decide⟩ (fun w h Y => PySem.W.kIn_of Y) ?F (fun _ _ a ns hl _ hS => ⟨a, ns, rfl, hS, hl, fun _ => rfl⟩) (fun _ _ _ _ _ h => h)
  case F =>
    intro w mg fa h KX G hmg
    refine' BC.all_mk KX G hmg ?aC_Machine ?aC_Plain ?aC_Judge ?z_len ?z_range ?z_min ?z_int ?z_list ?z_tuple ?z_sorted ?z_enumerate ?z_isinstance ?z_str ?z_ValueError ?v_WIDE ?v_MOST_LINES ?v_MOST_DIGIT ?v_MOST_ORDERS ?v_MOST_CELLS ?v_MOST_DEEDS ?v_MOST_STARTS ?v_MOST_FENCES ?v_FENCES ?l_FENCES ?w_FENCES ?a_is_from ?l_is_from ?c_is_from ?k_is_from ?a_lines_in ?l_lines_in ?c_lines_in ?k_lines_in ?a_memory_fault ?l_memory_fault ?c_memory_fault ?k_memory_fault ?a_is_order ?l_is_order ?c_is_order ?k_is_order ?a_is_deed ?l_is_deed ?c_is_deed ?k_is_deed ?a_check_board ?l_check_board ?c_check_board ?k_check_board ?a_moves_of ?l_moves_of ?c_moves_of ?k_moves_of ?a_Machine___init__ ?i_Machine___init__ ?l_Machine___init__ ?c_Machine___init__ ?k_Machine___init__ ?a_Machine_copied ?i_Machine_copied ?l_Machine_copied ?c_Machine_copied ?k_Machine_copied ?a_Machine_note ?i_Machine_note ?l_Machine_note ?c_Machine_note ?k_Machine_note ?a_Machine_take ?i_Machine_take ?l_Machine_take ?c_Machine_take ?k_Machine_take ?a_Machine_read ?i_Machine_read ?l_Machine_read ?c_Machine_read ?k_Machine_read ?a_Machine_write ?i_Machine_write ?l_Machine_write ?c_Machine_write ?k_Machine_write ?a_Machine_clean ?i_Machine_clean ?l_Machine_clean ?c_Machine_clean ?k_Machine_clean ?a_Machine_drop ?i_Machine_drop ?l_Machine_drop ?c_Machine_drop ?k_Machine_drop ?a_Machine_process ?i_Machine_process ?l_Machine_process ?c_Machine_process ?k_Machine_process ?a_Machine_may_rest ?i_Machine_may_rest ?l_Machine_may_rest ?c_Machine_may_rest ?k_Machine_may_rest ?a_Machine_carry ?i_Machine_carry ?l_Machine_carry ?c_Machine_carry ?k_Machine_carry ?a_Machine_is_over ?i_Machine_is_over ?l_Machine_is_over ?c_Machine_is_over ?k_Machine_is_over ?a_Machine_finish ?i_Machine_finish ?l_Machine_finish ?c_Machine_finish ?k_Machine_finish ?a_Machine_key ?i_Machine_key ?l_Machine_key ?c_Machine_key ?k_Machine_key ?a_gone ?l_gone ?c_gone ?k_gone ?a_story ?l_story ?c_story ?k_story ?a_ended ?l_ended ?c_ended ?k_ended ?a_Plain___init__ ?i_Plain___init__ ?l_Plain___init__ ?c_Plain___init__ ?k_Plain___init__ ?a_Plain_look ?i_Plain_look ?l_Plain_look ?c_Plain_look ?k_Plain_look ?a_Plain_does ?i_Plain_does ?l_Plain_does ?c_Plain_does ?k_Plain_does ?a_plain_end ?l_plain_end ?c_plain_end ?k_plain_end ?a_sights ?l_sights ?c_sights ?k_sights ?a_amiss ?l_amiss ?c_amiss ?k_amiss ?a_Judge___init__ ?i_Judge___init__ ?l_Judge___init__ ?c_Judge___init__ ?k_Judge___init__ ?a_Judge_is_amiss ?i_Judge_is_amiss ?l_Judge_is_amiss ?c_Judge_is_amiss ?k_Judge_is_amiss ?a_Judge_torn ?i_Judge_torn ?l_Judge_torn ?c_Judge_torn ?k_Judge_torn ?a_Judge_onward ?i_Judge_onward ?l_Judge_onward ?c_Judge_onward ?k_Judge_onward ?a_judged ?l_judged ?c_judged ?k_judged ?a_check_fences ?l_check_fences ?c_check_fences ?k_check_fences ?a_put_in ?l_put_in ?c_put_in ?k_put_in ?a_fenced ?l_fenced ?c_fenced ?k_fenced ?a_fully ?l_fully ?c_fully ?k_fully ?a_number_text ?l_number_text ?c_number_text ?k_number_text ?a_written ?l_written ?c_written ?k_written ?a__law_begun ?l__law_begun ?c__law_begun ?k__law_begun ?a__law_take ?l__law_take ?c__law_take ?k__law_take ?a__law_order ?l__law_order ?c__law_order ?k__law_order ?a__law_deed ?l__law_deed ?c__law_deed ?k__law_deed ?a__law_board ?l__law_board ?c__law_board ?k__law_board ?a__law_pace ?l__law_pace ?c__law_pace ?k__law_pace ?a__law_told ?l__law_told ?c__law_told ?k__law_told ?a__law_spoil ?l__law_spoil ?c__law_spoil ?k__law_spoil ?a__law_kept ?l__law_kept ?c__law_kept ?k__law_kept ?a__law_kinds ?l__law_kinds ?c__law_kinds ?k__law_kinds ?a_law ?l_law ?c_law ?k_law ?pg_Machine ?hd_Machine ?po_Machine ?sa_Machine ?m_Machine ?kc_Machine ?n_Machine_memory ?n_Machine_orders ?n_Machine_program ?n_Machine_held ?n_Machine_left ?n_Machine_at ?n_Machine_beats ?n_Machine_rows ?n_Machine_idle ?n_Machine_many_reads ?n_Machine_many_fetches ?pg_Plain ?hd_Plain ?po_Plain ?sa_Plain ?m_Plain ?kc_Plain ?n_Plain_memory ?n_Plain_reads ?n_Plain_fetches ?n_Plain_said ?pg_Judge ?hd_Judge ?po_Judge ?sa_Judge ?m_Judge ?kc_Judge ?n_Judge_board ?n_Judge_aim ?n_Judge_met
    (case aC_Machine => k_is)
    (case aC_Plain => k_is)
    (case aC_Judge => k_is)
    (case z_len => k_is)
    (case z_range => k_is)
    (case z_min => k_is)
    (case z_int => k_is)
    (case z_list => k_is)
    (case z_tuple => k_is)
    (case z_sorted => k_is)
    (case z_enumerate => k_is)
    (case z_isinstance => k_is)
    (case z_str => k_is)
    (case z_ValueError => k_is)
    (case v_WIDE => k_is)
    (case v_MOST_LINES => k_is)
    (case v_MOST_DIGIT => k_is)
    (case v_MOST_ORDERS => k_is)
    (case v_MOST_CELLS => k_is)
    (case v_MOST_DEEDS => k_is)
    (case v_MOST_STARTS => k_is)
    (case v_MOST_FENCES => k_is)
    (case v_FENCES => k_is)
    (case l_FENCES => k_is)
    (case w_FENCES => exact .cons ⟨_, rfl⟩ (.cons ⟨_, rfl⟩ (.cons ⟨_, rfl⟩ (.nil))))
    (case a_is_from => k_is)
    (case l_is_from => k_is)
    (case c_is_from => k_is)
    (case k_is_from => k_is)
    (case a_lines_in => k_is)
    (case l_lines_in => k_is)
    (case c_lines_in => k_is)
    (case k_lines_in => k_is)
    (case a_memory_fault => k_is)
    (case l_memory_fault => k_is)
    (case c_memory_fault => k_is)
    (case k_memory_fault => k_is)
    (case a_is_order => k_is)
    (case l_is_order => k_is)
    (case c_is_order => k_is)
    (case k_is_order => k_is)
    (case a_is_deed => k_is)
    (case l_is_deed => k_is)
    (case c_is_deed => k_is)
    (case k_is_deed => k_is)
    (case a_check_board => k_is)
    (case l_check_board => k_is)
    (case c_check_board => k_is)
    (case k_check_board => k_is)
    (case a_moves_of => k_is)
    (case l_moves_of => k_is)
    (case c_moves_of => k_is)
    (case k_moves_of => k_is)
    (case a_Machine___init__ => k_is)
    (case i_Machine___init__ => k_is)
    (case l_Machine___init__ => k_is)
    (case c_Machine___init__ => k_is)
    (case k_Machine___init__ => k_is)
    (case a_Machine_copied => k_is)
    (case i_Machine_copied => k_is)
    (case l_Machine_copied => k_is)
    (case c_Machine_copied => k_is)
    (case k_Machine_copied => k_is)
    (case a_Machine_note => k_is)
    (case i_Machine_note => k_is)
    (case l_Machine_note => k_is)
    (case c_Machine_note => k_is)
    (case k_Machine_note => k_is)
    (case a_Machine_take => k_is)
    (case i_Machine_take => k_is)
    (case l_Machine_take => k_is)
    (case c_Machine_take => k_is)
    (case k_Machine_take => k_is)
    (case a_Machine_read => k_is)
    (case i_Machine_read => k_is)
    (case l_Machine_read => k_is)
    (case c_Machine_read => k_is)
    (case k_Machine_read => k_is)
    (case a_Machine_write => k_is)
    (case i_Machine_write => k_is)
    (case l_Machine_write => k_is)
    (case c_Machine_write => k_is)
    (case k_Machine_write => k_is)
    (case a_Machine_clean => k_is)
    (case i_Machine_clean => k_is)
    (case l_Machine_clean => k_is)
    (case c_Machine_clean => k_is)
    (case k_Machine_clean => k_is)
    (case a_Machine_drop => k_is)
    (case i_Machine_drop => k_is)
    (case l_Machine_drop => k_is)
    (case c_Machine_drop => k_is)
    (case k_Machine_drop => k_is)
    (case a_Machine_process => k_is)
    (case i_Machine_process => k_is)
    (case l_Machine_process => k_is)
    (case c_Machine_process => k_is)
    (case k_Machine_process => k_is)
    (case a_Machine_may_rest => k_is)
    (case i_Machine_may_rest => k_is)
    (case l_Machine_may_rest => k_is)
    (case c_Machine_may_rest => k_is)
    (case k_Machine_may_rest => k_is)
    (case a_Machine_carry => k_is)
    (case i_Machine_carry => k_is)
    (case l_Machine_carry => k_is)
    (case c_Machine_carry => k_is)
    (case k_Machine_carry => k_is)
    (case a_Machine_is_over => k_is)
    (case i_Machine_is_over => k_is)
    (case l_Machine_is_over => k_is)
    (case c_Machine_is_over => k_is)
    (case k_Machine_is_over => k_is)
    (case a_Machine_finish => k_is)
    (case i_Machine_finish => k_is)
    (case l_Machine_finish => k_is)
    (case c_Machine_finish => k_is)
    (case k_Machine_finish => k_is)
    (case a_Machine_key => k_is)
    (case i_Machine_key => k_is)
    (case l_Machine_key => k_is)
    (case c_Machine_key => k_is)
    (case k_Machine_key => k_is)
    (case a_gone => k_is)
    (case l_gone => k_is)
    (case c_gone => k_is)
    (case k_gone => k_is)
    (case a_story => k_is)
    (case l_story => k_is)
    (case c_story => k_is)
    (case k_story => k_is)
    (case a_ended => k_is)
    (case l_ended => k_is)
    (case c_ended => k_is)
    (case k_ended => k_is)
    (case a_Plain___init__ => k_is)
    (case i_Plain___init__ => k_is)
    (case l_Plain___init__ => k_is)
    (case c_Plain___init__ => k_is)
    (case k_Plain___init__ => k_is)
    (case a_Plain_look => k_is)
    (case i_Plain_look => k_is)
    (case l_Plain_look => k_is)
    (case c_Plain_look => k_is)
    (case k_Plain_look => k_is)
    (case a_Plain_does => k_is)
    (case i_Plain_does => k_is)
    (case l_Plain_does => k_is)
    (case c_Plain_does => k_is)
    (case k_Plain_does => k_is)
    (case a_plain_end => k_is)
    (case l_plain_end => k_is)
    (case c_plain_end => k_is)
    (case k_plain_end => k_is)
    (case a_sights => k_is)
    (case l_sights => k_is)
    (case c_sights => k_is)
    (case k_sights => k_is)
    (case a_amiss => k_is)
    (case l_amiss => k_is)
    (case c_amiss => k_is)
    (case k_amiss => k_is)
    (case a_Judge___init__ => k_is)
    (case i_Judge___init__ => k_is)
    (case l_Judge___init__ => k_is)
    (case c_Judge___init__ => k_is)
    (case k_Judge___init__ => k_is)
    (case a_Judge_is_amiss => k_is)
    (case i_Judge_is_amiss => k_is)
    (case l_Judge_is_amiss => k_is)
    (case c_Judge_is_amiss => k_is)
    (case k_Judge_is_amiss => k_is)
    (case a_Judge_torn => k_is)
    (case i_Judge_torn => k_is)
    (case l_Judge_torn => k_is)
    (case c_Judge_torn => k_is)
    (case k_Judge_torn => k_is)
    (case a_Judge_onward => k_is)
    (case i_Judge_onward => k_is)
    (case l_Judge_onward => k_is)
    (case c_Judge_onward => k_is)
    (case k_Judge_onward => k_is)
    (case a_judged => k_is)
    (case l_judged => k_is)
    (case c_judged => k_is)
    (case k_judged => k_is)
    (case a_check_fences => k_is)
    (case l_check_fences => k_is)
    (case c_check_fences => k_is)
    (case k_check_fences => k_is)
    (case a_put_in => k_is)
    (case l_put_in => k_is)
    (case c_put_in => k_is)
    (case k_put_in => k_is)
    (case a_fenced => k_is)
    (case l_fenced => k_is)
    (case c_fenced => k_is)
    (case k_fenced => k_is)
    (case a_fully => k_is)
    (case l_fully => k_is)
    (case c_fully => k_is)
    (case k_fully => k_is)
    (case a_number_text => k_is)
    (case l_number_text => k_is)
    (case c_number_text => k_is)
    (case k_number_text => k_is)
    (case a_written => k_is)
    (case l_written => k_is)
    (case c_written => k_is)
    (case k_written => k_is)
    (case a__law_begun => k_is)
    (case l__law_begun => k_is)
    (case c__law_begun => k_is)
    (case k__law_begun => k_is)
    (case a__law_take => k_is)
    (case l__law_take => k_is)
    (case c__law_take => k_is)
    (case k__law_take => k_is)
    (case a__law_order => k_is)
    (case l__law_order => k_is)
    (case c__law_order => k_is)
    (case k__law_order => k_is)
    (case a__law_deed => k_is)
    (case l__law_deed => k_is)
    (case c__law_deed => k_is)
    (case k__law_deed => k_is)
    (case a__law_board => k_is)
    (case l__law_board => k_is)
    (case c__law_board => k_is)
    (case k__law_board => k_is)
    (case a__law_pace => k_is)
    (case l__law_pace => k_is)
    (case c__law_pace => k_is)
    (case k__law_pace => k_is)
    (case a__law_told => k_is)
    (case l__law_told => k_is)
    (case c__law_told => k_is)
    (case k__law_told => k_is)
    (case a__law_spoil => k_is)
    (case l__law_spoil => k_is)
    (case c__law_spoil => k_is)
    (case k__law_spoil => k_is)
    (case a__law_kept => k_is)
    (case l__law_kept => k_is)
    (case c__law_kept => k_is)
    (case k__law_kept => k_is)
    (case a__law_kinds => k_is)
    (case l__law_kinds => k_is)
    (case c__law_kinds => k_is)
    (case k__law_kinds => k_is)
    (case a_law => k_is)
    (case l_law => k_is)
    (case c_law => k_is)
    (case k_law => k_is)
    (case pg_Machine => k_is)
    (case hd_Machine => k_is)
    (case po_Machine => k_is)
    (case sa_Machine => k_is)
    (case m_Machine => k_is)
    (case kc_Machine => k_is)
    (case n_Machine_memory => k_is)
    (case n_Machine_orders => k_is)
    (case n_Machine_program => k_is)
    (case n_Machine_held => k_is)
    (case n_Machine_left => k_is)
    (case n_Machine_at => k_is)
    (case n_Machine_beats => k_is)
    (case n_Machine_rows => k_is)
    (case n_Machine_idle => k_is)
    (case n_Machine_many_reads => k_is)
    (case n_Machine_many_fetches => k_is)
    (case pg_Plain => k_is)
    (case hd_Plain => k_is)
    (case po_Plain => k_is)
    (case sa_Plain => k_is)
    (case m_Plain => k_is)
    (case kc_Plain => k_is)
    (case n_Plain_memory => k_is)
    (case n_Plain_reads => k_is)
    (case n_Plain_fetches => k_is)
    (case n_Plain_said => k_is)
    (case pg_Judge => k_is)
    (case hd_Judge => k_is)
    (case po_Judge => k_is)
    (case sa_Judge => k_is)
    (case m_Judge => k_is)
    (case kc_Judge => k_is)
    (case n_Judge_board => k_is)
    (case n_Judge_aim => k_is)
    (case n_Judge_met => k_is)
