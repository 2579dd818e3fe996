import PyProof.Rows.All
import Wide.All
import OpenK.AllK
import Wide.FinOn
import HandS.ForMost
import HandS.Codes
import HandS.Flow
import HandS.TupAny
import HandS.TupMul
import HandS.Deep
import HandS.IsInst
import HandS.Wide
import HandS.Walk
import KE.GoesEnum
import HandS.More
import HandS.SortInts
import HandS.Text
import PySem.Challenge.RW_blockcarrier_k14_written_and_read
set_option Elab.async false
set_option linter.all false
set_option maxRecDepth 100000
set_option maxHeartbeats 4000000
/-! BC0: data that never changes (Im), what stays (Kp, Ex), steps of readings. -/
namespace BC
open PySem PySem.Spec PyProof.Rows L2

/-! ### heaps -/
/-- tuples stay -/
def Kp (H H' : Hp) : Prop := ∀ a xs, H a = some (.tup xs) → H' a = some (.tup xs)
/-- all stays -/
def Ex (H H' : Hp) : Prop := ∀ x u, H x = some u → H' x = some u
/-- all stays but what stands at F -/
def Fr (F : List Addr) (H H' : Hp) : Prop := ∀ a o, H a = some o → a ∉ F → H' a = some o
theorem Kp.refl (H : Hp) : Kp H H := fun _ _ h => h
theorem Kp.trans {H H1 H2 : Hp} (a : Kp H H1) (b : Kp H1 H2) : Kp H H2 := fun x o h => b x o (a x o h)
theorem Ex.refl (H : Hp) : Ex H H := fun _ _ z => z
theorem Ex.trans {H H1 H2 : Hp} (e : Ex H H1) (e' : Ex H1 H2) : Ex H H2 := fun x u z => e' x u (e x u z)
theorem Ex.kp {H H' : Hp} (e : Ex H H') : Kp H H' := fun a xs h => e a _ h
theorem Ex.new {H : Hp} {p : Addr} {o : HO} (h : H p = none) : Ex H (upd H p o) := fun x u z => by
  rw [upd_ne (ne_of_none z h)]
  exact z
theorem Ex.mut {H H' : Hp} {p : Addr} {o : HO} (h : H p = none) (e : Ex H H') : Ex H (upd H' p o) := fun a u ha => by
  rw [upd_ne (ne_of_none ha h)]
  exact e a u ha
theorem Ex.free {H H' : Hp} {p : Addr} (e : Ex H H') (h : H' p = none) : H p = none := by
  cases h1 : H p with
  | none => rfl
  | some o =>
    rw [e p o h1] at h
    cases h
theorem Kp.new {H H' : Hp} {p : Addr} {o : HO} (h : H' p = none) (e : Kp H H') : Kp H (upd H' p o) := e.trans (Ex.new h).kp
/-- not a tuple -/
def Nt : Option HO → Prop
  | some (.tup _) => False
  | _ => True
theorem Kp.mut {H H' : Hp} {p : Addr} {o : HO} (h : Nt (H' p)) (e : Kp H H') : Kp H (upd H' p o) := fun a xs ha => by
  have h1 := e a xs ha
  have : a ≠ p := fun z => by
    subst z
    rw [h1] at h
    exact h
  rw [upd_ne this]
  exact h1
theorem nt_of {H : Hp} {p : Addr} {o : HO} (h : H p = some o) (n : Nt (some o)) : Nt (H p) := by
  rw [h]
  exact n
theorem Fr.refl (F : List Addr) (H : Hp) : Fr F H H := fun _ _ h _ => h
theorem Fr.trans {F : List Addr} {H H1 H2 : Hp} (a : Fr F H H1) (b : Fr F H1 H2) : Fr F H H2 := fun x o h n => b x o (a x o h n) n
theorem Ex.fr {F : List Addr} {H H' : Hp} (e : Ex H H') : Fr F H H' := fun a o h _ => e a o h
theorem Fr.mut {F : List Addr} {H H' : Hp} {p : Addr} {o : HO} (h : p ∈ F) (e : Fr F H H') : Fr F H (upd H' p o) := fun a u ha n => by
  have : a ≠ p := fun z => n (z ▸ h)
  rw [upd_ne this]
  exact e a u ha n
theorem Fr.new {F : List Addr} {H H' : Hp} {p : Addr} {o : HO} (h : H' p = none) (e : Fr F H H') : Fr F H (upd H' p o) := e.trans (Ex.new h).fr
theorem Fr.mono {F G : List Addr} {H H' : Hp} (h : ∀ a ∈ F, a ∈ G) (e : Fr F H H') : Fr G H H' := fun a o ha n => e a o ha fun z => n (h a z)
/-- what was changed had not been there -/
theorem Fr.ex {F : List Addr} {H0 H H' : Hp} (e0 : Ex H0 H) (n : ∀ a ∈ F, H0 a = none) (e : Fr F H H') : Ex H0 H' := fun a o ha =>
  e a o (e0 a o ha) fun z => by
    rw [n a z] at ha
    cases ha

/-! ### data that never changes: none, bools, ints, texts, tuples -/
mutual
def Im (H : Hp) : PyData → V → Prop
  | .none, v => v = .non
  | .bool b, v => v = .bl b
  | .int i, v => v = .int i
  | .str s, v => v = .str s
  | .tuple ds, v => ∃ a xs, v = .ref a ∧ H a = some (.tup xs) ∧ ImL H ds xs
  | .list _, _ => False
  | .dict _, _ => False
def ImL (H : Hp) : List PyData → List V → Prop
  | [], xs => xs = []
  | d :: ds, xs => ∃ v vs, xs = v :: vs ∧ Im H d v ∧ ImL H ds vs
end
mutual
theorem Im.kp {H H' : Hp} (k : Kp H H') : ∀ (d : PyData) (v : V), Im H d v → Im H' d v
  | .none, _, h => by simpa only [Im] using h
  | .bool _, _, h => by simpa only [Im] using h
  | .int _, _, h => by simpa only [Im] using h
  | .str _, _, h => by simpa only [Im] using h
  | .tuple ds, v, h => by
    simp only [Im] at h ⊢
    obtain ⟨a, xs, rfl, h1, h2⟩ := h
    exact ⟨a, xs, rfl, k a xs h1, ImL.kp k ds xs h2⟩
  | .list _, _, h => by simp only [Im] at h
  | .dict _, _, h => by simp only [Im] at h
theorem ImL.kp {H H' : Hp} (k : Kp H H') : ∀ (ds : List PyData) (vs : List V), ImL H ds vs → ImL H' ds vs
  | [], _, h => by simpa only [ImL] using h
  | d :: ds, vs, h => by
    simp only [ImL] at h ⊢
    obtain ⟨x, xs, rfl, h1, h2⟩ := h
    exact ⟨x, xs, rfl, Im.kp k d x h1, ImL.kp k ds xs h2⟩
end
mutual
theorem Im.dp {K : PySem.W.Frag} {H : Hp} : ∀ (d : PyData) (v : V), Im H d v → Dp K H v d
  | .none, _, h => by simp only [Im] at h; subst h; exact .non
  | .bool _, _, h => by simp only [Im] at h; subst h; exact .bl _
  | .int _, _, h => by simp only [Im] at h; subst h; exact .int _
  | .str _, _, h => by simp only [Im] at h; subst h; exact .str _
  | .tuple ds, v, h => by
    simp only [Im] at h
    obtain ⟨a, xs, rfl, h1, h2⟩ := h
    exact .tup (SqT.of h1) (ImL.dp ds xs h2)
  | .list _, _, h => by simp only [Im] at h
  | .dict _, _, h => by simp only [Im] at h
theorem ImL.dp {K : PySem.W.Frag} {H : Hp} : ∀ (ds : List PyData) (vs : List V), ImL H ds vs → DpAll K H vs ds
  | [], _, h => by simp only [ImL] at h; subst h; exact .nil
  | d :: ds, vs, h => by
    simp only [ImL] at h
    obtain ⟨x, xs, rfl, h1, h2⟩ := h
    exact .cons (Im.dp d x h1) (ImL.dp ds xs h2)
end
section
variable {H H' : Hp} {v x : V} {vs xs : List V} {d e : PyData} {ds es : List PyData} {a : Addr} {K : PySem.W.Frag}
theorem Im.int_iff {i : Int} : Im H (.int i) v ↔ v = .int i := by simp only [Im]
theorem Im.str_iff {s : Str} : Im H (.str s) v ↔ v = .str s := by simp only [Im]
theorem Im.none_iff : Im H .none v ↔ v = .non := by simp only [Im]
theorem Im.bool_iff {b : Bool} : Im H (.bool b) v ↔ v = .bl b := by simp only [Im]
theorem im_int {i : Int} : Im H (.int i) (.int i) := by simp only [Im]
theorem im_str {s : Str} : Im H (.str s) (.str s) := by simp only [Im]
theorem im_non : Im H .none .non := by simp only [Im]
theorem im_bl {b : Bool} : Im H (.bool b) (.bl b) := by simp only [Im]
theorem im_tup (h1 : H a = some (.tup xs)) (h2 : ImL H ds xs) : Im H (.tuple ds) (.ref a) := by
  simp only [Im]
  exact ⟨a, xs, rfl, h1, h2⟩
theorem Im.tup (h : Im H (.tuple ds) v) : ∃ a xs, v = .ref a ∧ H a = some (.tup xs) ∧ ImL H ds xs := by
  simpa only [Im] using h
theorem iml_nil : ImL H [] [] := by simp only [ImL]
theorem iml_cons (h1 : Im H d v) (h2 : ImL H ds vs) : ImL H (d :: ds) (v :: vs) := by
  simp only [ImL]
  exact ⟨v, vs, rfl, h1, h2⟩
theorem ImL.cons_inv (h : ImL H (d :: ds) xs) : ∃ v vs, xs = v :: vs ∧ Im H d v ∧ ImL H ds vs := by simpa only [ImL] using h
theorem ImL.nil_inv (h : ImL H [] xs) : xs = [] := by simpa only [ImL] using h
theorem ImL.length : ∀ {ds : List PyData} {xs : List V}, ImL H ds xs → xs.length = ds.length
  | [], _, h => by rw [h.nil_inv]; rfl
  | d :: ds, _, h => by
    obtain ⟨v, vs, rfl, _, h2⟩ := h.cons_inv
    rw [List.length_cons, List.length_cons, h2.length]
theorem ImL.get : ∀ {ds : List PyData} {xs : List V} {i : Nat} {d : PyData}, ImL H ds xs → ds[i]? = some d → ∃ v, xs[i]? = some v ∧ Im H d v
  | [], _, _, _, _, e => by simp at e
  | d :: ds, _, 0, _, h, e => by
    obtain ⟨v, vs, rfl, h1, _⟩ := h.cons_inv
    simp at e
    subst e
    exact ⟨v, by simp, h1⟩
  | d :: ds, _, i + 1, _, h, e => by
    obtain ⟨v, vs, rfl, _, h2⟩ := h.cons_inv
    obtain ⟨v', g1, g2⟩ := h2.get (i := i) (by simpa using e)
    exact ⟨v', by simpa using g1, g2⟩
/-- the other way round -/
theorem ImL.get' : ∀ {ds : List PyData} {xs : List V} {i : Nat} {v : V}, ImL H ds xs → xs[i]? = some v → ∃ d, ds[i]? = some d ∧ Im H d v
  | [], _, _, _, h, e => by
    rw [h.nil_inv] at e
    simp at e
  | d :: ds, _, 0, _, h, e => by
    obtain ⟨v, vs, rfl, h1, _⟩ := h.cons_inv
    simp at e
    subst e
    exact ⟨d, by simp, h1⟩
  | d :: ds, _, i + 1, _, h, e => by
    obtain ⟨v, vs, rfl, _, h2⟩ := h.cons_inv
    obtain ⟨d', g1, g2⟩ := h2.get' (i := i) (by simpa using e)
    exact ⟨d', by simpa using g1, g2⟩
theorem ImL.append : ∀ {ds es : List PyData} {xs ys : List V}, ImL H ds xs → ImL H es ys → ImL H (ds ++ es) (xs ++ ys)
  | [], _, _, _, h, h' => by
    rw [h.nil_inv]
    exact h'
  | d :: ds, _, _, _, h, h' => by
    obtain ⟨v, vs, rfl, h1, h2⟩ := h.cons_inv
    exact iml_cons h1 (h2.append h')
theorem ImL.snoc (h : ImL H ds xs) (h1 : Im H d v) : ImL H (ds ++ [d]) (xs ++ [v]) := h.append (iml_cons h1 iml_nil)
theorem ImL.drop : ∀ {ds : List PyData} {xs : List V} (n : Nat), ImL H ds xs → ImL H (ds.drop n) (xs.drop n)
  | _, _, 0, h => h
  | [], _, _ + 1, h => by
    rw [h.nil_inv]
    exact iml_nil
  | d :: ds, _, n + 1, h => by
    obtain ⟨v, vs, rfl, h1, h2⟩ := h.cons_inv
    exact h2.drop n
theorem ImL.take : ∀ {ds : List PyData} {xs : List V} (n : Nat), ImL H ds xs → ImL H (ds.take n) (xs.take n)
  | _, _, 0, h => iml_nil
  | [], _, _ + 1, h => by
    rw [h.nil_inv]
    exact iml_nil
  | d :: ds, _, n + 1, h => by
    obtain ⟨v, vs, rfl, h1, h2⟩ := h.cons_inv
    exact iml_cons h1 (h2.take n)
theorem ImL.set : ∀ {ds : List PyData} {xs : List V} (n : Nat), ImL H ds xs → Im H d v → ImL H (ds.set n d) (xs.set n v)
  | [], _, _, h, _ => by
    rw [h.nil_inv]
    exact iml_nil
  | _ :: ds, _, 0, h, h' => by
    obtain ⟨v, vs, rfl, h1, h2⟩ := h.cons_inv
    exact iml_cons h' h2
  | _ :: ds, _, n + 1, h, h' => by
    obtain ⟨v, vs, rfl, h1, h2⟩ := h.cons_inv
    exact iml_cons h1 (h2.set n h')
theorem ImL.ints : ∀ {ns : List Int} {xs : List V}, ImL H (ns.map .int) xs ↔ xs = ns.map V.int
  | [], _ => ⟨fun h => h.nil_inv, fun h => by rw [h]; exact iml_nil⟩
  | n :: ns, xs => ⟨fun h => by
      obtain ⟨v, vs, rfl, h1, h2⟩ := h.cons_inv
      rw [Im.int_iff.mp h1, ImL.ints.mp h2]
      rfl, fun h => by rw [h]; exact iml_cons im_int (ImL.ints.mpr rfl)⟩
theorem lst_dp (h1 : H a = some (.lst xs)) (h2 : ImL H ds xs) : Dp K H (.ref a) (.list ds) := .lst (SqL.of h1) (h2.dp _ _)
theorem atI_iml {i : Int} (h : ImL H ds xs) (e : atI ds i = some d) : ∃ v, atI xs i = some v ∧ Im H d v := by
  unfold atI at e ⊢
  rw [h.length]
  cases q : ixN ds.length i with
  | none =>
    rw [q] at e
    cases e
  | some j =>
    rw [q] at e
    exact h.get e
end
end BC
/-! BC1: steps of readings. -/
namespace BC
open PySem PySem.Spec PyProof.Rows L2
open C8 (tCut pss_cut)

section
variable {K : PySem.W.Frag} {σ : L2.St} {H H0 H1 : Hp} {D : Ends} {Q : VK} {QT : Bool → Hp → Prop} {QA : List V → Hp → Prop} {t u : TS} {ta tb te tc : TE} {tA tB' : TT} {g : TG} {i j : Int} {n : Nat} {v x y : V} {vs : List V} {d e : PyData} {ds es : List PyData} {r : R2}
/-! statements -/
theorem st_seq (h : t { D with nx := u D } σ H) : tSeq t u D σ H := h
theorem st_cut (Mid : L2.St → Hp → Prop) (h : t { D with nx := Mid } σ H) (k : ∀ σ' H', Mid σ' H' → u D σ' H') : tCut t u D σ H := ⟨Mid, h, k⟩
theorem st_next (h : D.nx σ H) : tNext D σ H := h
theorem st_brk (h : D.bk σ H) : tBreak D σ H := h
theorem st_cont (h : D.ct σ H) : tCont D σ H := h
theorem st_asg (h : te σ H fun x H1 => g x σ H1 D.nx) : tAsg te g D σ H := h
theorem st_ret (h : te σ H D.rt) : tRet te D σ H := h
theorem st_retN (h : D.rt .non H) : tRetN D σ H := h
theorem st_drop (h : te σ H fun _ H1 => D.nx σ H1) : tDrop te D σ H := h
theorem st_ifS (h : tA σ H fun b H1 => if b = true then t D σ H1 else u D σ H1) : tIfS tA t u D σ H := h
theorem st_aug {m : Nat} {ti : TIp} (e : σ[m]? = some (some x)) (h : te σ H fun y H1 => ti x y H1 fun z H2 => D.nx (σ.set m (some z)) H2) : tAug m te ti D σ H := ⟨x, e, h⟩
theorem st_ip {f : Int → Int → Int} (h : Q (.int (f i j)) H) : ipI f (.int i) (.int j) H Q := ⟨i, j, rfl, rfl, h⟩
theorem st_name {m : Nat} {QS : L2.St → Hp → Prop} (h : QS (σ.set m (some v)) H) : gName m v σ H QS := h
theorem st_gnil {QS : L2.St → Hp → Prop} (h : QS σ H) : gNil [] σ H QS := ⟨rfl, h⟩
theorem st_gcons {vs : List V} {G : TG} {Gs : TGs} {QS : L2.St → Hp → Prop} (h : G v σ H fun σ' H' => Gs vs σ' H' QS) : gCons G Gs (v :: vs) σ H QS := ⟨v, vs, rfl, h⟩
/-! expressions -/
theorem st_var {m : Nat} (e : σ[m]? = some (some v)) (h : Q v H) : tVar m σ H Q := ⟨v, e, h⟩
theorem st_c (h : Q v H) : tC v σ H Q := h
theorem st_op (h : ta σ H fun x H1 => tb σ H1 fun y H2 => r x y H2 Q) : tOp r ta tb σ H Q := h
theorem st_un {f : V → Hp → VK → Prop} (h : ta σ H fun x H1 => f x H1 Q) : tUn f ta σ H Q := h
theorem st_if (h : tA σ H fun c H1 => if c = true then ta σ H1 Q else tb σ H1 Q) : tIf tA ta tb σ H Q := h
theorem st_andV (h : ta σ H fun x H1 => ∃ c, x = .bl c ∧ if c = true then tb σ H1 Q else Q (.bl false) H1) : tAndV ta tb σ H Q := h
theorem st_orV (h : ta σ H fun x H1 => ∃ c, x = .bl c ∧ if c = true then Q (.bl true) H1 else tb σ H1 Q) : tOrV ta tb σ H Q := h
theorem st_notV (h : ta σ H fun x H1 => ∃ c, x = .bl c ∧ Q (.bl (!c)) H1) : tNotV ta σ H Q := h
theorem st_test (h : te σ H fun x H1 => ∃ c, x = .bl c ∧ QT c H1) : tTest te σ H QT := h
theorem st_tB (h : te σ H fun x H1 => ∃ c, x = .bl c ∧ QT c H1) : tB te σ H QT := h
theorem st_and (h : tA σ H fun c H1 => if c = true then tB' σ H1 QT else QT false H1) : tAnd tA tB' σ H QT := h
theorem st_or (h : tA σ H fun c H1 => if c = true then QT true H1 else tB' σ H1 QT) : tOr tA tB' σ H QT := h
theorem st_not (h : tA σ H fun c H1 => QT (!c) H1) : tNot tA σ H QT := h
theorem st_yes (h : QT true H) : tYes σ H QT := h
theorem st_nil (h : QA [] H) : tNil σ H QA := h
theorem st_cons {tr : TA} (h : ta σ H fun x H1 => tr σ H1 fun xs H2 => QA (x :: xs) H2) : tCons ta tr σ H QA := h
theorem st_call {sp : Sp} {E : XK} {tr : TA} (h : tr σ H fun vs H1 => sp vs H1 Q E) : tCall sp [] E tr σ H Q := by
  show tr σ H fun vs H1 => sp (vs ++ []) H1 Q E
  simpa only [List.append_nil] using h
theorem sz_le {n : Nat} (h : n ≤ 100000) : n ≤ sizeLine := Nat.le_trans h (by decide)
theorem sz_lt {m : Nat} (h : m < 100000) : m < sizeLine := Nat.lt_of_lt_of_le h (by decide)
/-- a new tuple, a new list -/
def NewT (H : Hp) (xs : List V) (Q : VK) : Prop := xs.length ≤ sizeLine ∧ ∀ p, H p = none → Q (.ref p) (upd H p (.tup xs))
def NewL (H : Hp) (xs : List V) (Q : VK) : Prop := xs.length ≤ sizeLine ∧ ∀ p, H p = none → Q (.ref p) (upd H p (.lst xs))
theorem st_tup {tr : TA} (h : tr σ H fun xs H1 => NewT H1 xs Q) : tTup tr σ H Q := h
theorem st_lst {tr : TA} (h : tr σ H fun xs H1 => NewL H1 xs Q) : tLst tr σ H Q := h
theorem st_newT (h : vs.length ≤ 100000) (k : ∀ p H2, H p = none → Ex H H2 → H2 p = some (.tup vs) → Q (.ref p) H2) : NewT H vs Q :=
  ⟨sz_le h, fun p hp => k p _ hp (Ex.new hp) upd_same⟩
theorem st_newL (h : vs.length ≤ 100000) (k : ∀ p H2, H p = none → Ex H H2 → H2 p = some (.lst vs) → Q (.ref p) H2) : NewL H vs Q :=
  ⟨sz_le h, fun p hp => k p _ hp (Ex.new hp) upd_same⟩
theorem st_CB {f : List V → Hp → VK → Prop} {tr : TA} (h : tr σ H fun vs H1 => f vs H1 Q) : tCB f tr σ H Q := h
theorem st_bl {b : Bool} {F : Bool → Prop} (h : F b) : ∃ c, V.bl b = .bl c ∧ F c := ⟨b, rfl, h⟩
theorem st_T {A B : Prop} (h : A) : if true = true then A else B := iteT h
theorem st_F {A B : Prop} (h : B) : if false = true then A else B := iteF h
theorem st_D {p : Prop} [Decidable p] {A B : Prop} (h1 : p → A) (h2 : ¬ p → B) : if decide p = true then A else B := by
  by_cases h : p
  · rw [decide_eq_true h]; exact iteT (h1 h)
  · rw [decide_eq_false h]; exact iteF (h2 h)
theorem st_ND {p : Prop} [Decidable p] {A B : Prop} (h1 : ¬ p → A) (h2 : p → B) : if (!decide p) = true then A else B := by
  by_cases h : p
  · rw [decide_eq_true h]; exact iteF (h2 h)
  · rw [decide_eq_false h]; exact iteT (h1 h)
theorem st_B {b : Bool} {A B : Prop} (h1 : b = true → A) (h2 : b = false → B) : if b = true then A else B := by
  cases b with
  | true => exact iteT (h1 rfl)
  | false => exact iteF (h2 rfl)
theorem st_NB {b : Bool} {A B : Prop} (h1 : b = false → A) (h2 : b = true → B) : if (!b) = true then A else B := by
  cases b with
  | true => exact iteF (h2 rfl)
  | false => exact iteT (h1 rfl)
/-! operators -/
theorem st_I0 {f : Int → Int → V} (h : Q (f i j) H) : rI0 f (.int i) (.int j) H Q := ⟨i, j, rfl, rfl, h⟩
theorem st_I {C : Int → Int → Prop} {f : Int → Int → V} (c : C i j) (h : Q (f i j) H) : rI C f (.int i) (.int j) H Q := ⟨i, j, rfl, rfl, c, h⟩
theorem decV_int : decide (V.int i = V.int j) = decide (i = j) := decide_eq_decide.mpr ⟨V.int.inj, congrArg _⟩
theorem decV_str {a b : Str} : decide (V.str a = V.str b) = decide (a = b) := decide_eq_decide.mpr ⟨V.str.inj, congrArg _⟩
theorem decV_bl {a b : Bool} : decide (V.bl a = V.bl b) = decide (a = b) := decide_eq_decide.mpr ⟨V.bl.inj, congrArg _⟩
theorem st_eqI (h : Q (.bl (decide (i = j))) H) : rEq (.int i) (.int j) H Q := ⟨rfl, by rw [decV_int]; exact h⟩
theorem st_neI (h : Q (.bl (!decide (i = j))) H) : rNe (.int i) (.int j) H Q := ⟨rfl, by rw [decV_int]; exact h⟩
theorem st_eqS {a b : Str} (h : Q (.bl (decide (a = b))) H) : rEq (.str a) (.str b) H Q := ⟨rfl, by rw [decV_str]; exact h⟩
theorem st_neS {a b : Str} (h : Q (.bl (!decide (a = b))) H) : rNe (.str a) (.str b) H Q := ⟨rfl, by rw [decV_str]; exact h⟩
theorem st_eqB {a b : Bool} (h : Q (.bl (decide (a = b))) H) : rEq (.bl a) (.bl b) H Q := ⟨rfl, by rw [decV_bl]; exact h⟩
theorem st_neB {a b : Bool} (h : Q (.bl (!decide (a = b))) H) : rNe (.bl a) (.bl b) H Q := ⟨rfl, by rw [decV_bl]; exact h⟩
end
/-- is None, is not None, by names -/
def rIsN : R2 := fun x u H Q => u = .non ∧ Q (.bl (decide (x = .non))) H
def rNotN : R2 := fun x u H Q => u = .non ∧ Q (.bl (!decide (x = .non))) H
theorem o_isN {X : Cx} : OpR X (compareOp .Is) rIsN := op_isN
theorem o_notN {X : Cx} : OpR X (compareOp .IsNot) rNotN := op_notN
def rLenS (K : PySem.W.Frag) : List V → Hp → VK → Prop := fun us H Q => ∃ p zs, us = [.ref p] ∧ (SqL K H p zs ∨ SqT K H p zs) ∧ Q (.int zs.length) H
theorem c_len {X : Cx} : CallR X (.builtin "len") (rLenS X.K) := call_len_seq
def rInt1 : List V → Hp → VK → Prop := fun xs H Q => (∃ i, xs = [.int i] ∧ Q (.int i) H) ∨ ∃ k, xs = [.bl k] ∧ Q (.int (if k then 1 else 0)) H
theorem c_int {X : Cx} : CallR X (.type "int") rInt1 := call_int1
def rLenStr : List V → Hp → VK → Prop := fun xs H Q => ∃ z, xs = [.str z] ∧ z.length ≤ sizeLine ∧ Q (.int z.length) H
theorem c_lenStr {X : Cx} : CallR X (.builtin "len") rLenStr := call_len_str
def rStrI : List V → Hp → VK → Prop := fun xs H Q => ∃ i, xs = [.int i] ∧ i.natAbs.log2 < 1920 ∧ Q (.str (toString i)) H
theorem c_str {X : Cx} : CallR X (.type "str") rStrI := call_str_int
def rAddS : R2 := fun x y H Q => ∃ i j, x = .str i ∧ y = .str j ∧ i.length + j.length ≤ sizeLine ∧ Q (.str (i ++ j)) H
theorem o_addS {X : Cx} : OpR X (binaryOp .Add) rAddS := op_add_str
def rMin2 : List V → Hp → VK → Prop := fun xs H Q => ∃ i j, xs = [.int i, .int j] ∧ Q (.int (if j < i then j else i)) H
theorem c_min {X : Cx} (hc : X.calm = true) : CallR X (.builtin "min") rMin2 := call_min2 hc
def rListOf (K : PySem.W.Frag) : List V → Hp → VK → Prop := fun xs H Q => ∃ p ys, xs = [.ref p] ∧ (SqL K H p ys ∨ SqT K H p ys) ∧ ∀ l, H l = none → Q (.ref l) (upd H l (.lst ys))
theorem c_list {X : Cx} : CallR X (.type "list") (rListOf X.K) := call_list_of
def rTupOf (K : PySem.W.Frag) : List V → Hp → VK → Prop := fun xs H Q => ∃ p ys, xs = [.ref p] ∧ ((SqL K H p ys ∧ ∀ l, H l = none → Q (.ref l) (upd H l (.tup ys))) ∨ (SqT K H p ys ∧ Q (.ref p) H))
theorem c_tuple {X : Cx} : CallR X (.type "tuple") (rTupOf X.K) := call_tuple_of
section
variable {K : PySem.W.Frag} {σ : L2.St} {H H0 H1 : Hp} {D : Ends} {Q : VK} {i j : Int} {n : Nat} {v x y : V} {d e : PyData} {ds es : List PyData} {vs xs ys : List V} {a b l : Addr}
theorem st_isN (h : Q (.bl (decide (x = .non))) H) : rIsN x .non H Q := ⟨rfl, h⟩
theorem st_notN (h : Q (.bl (!decide (x = .non))) H) : rNotN x .non H Q := ⟨rfl, h⟩
theorem st_isN0 (h : Q (.bl true) H) : rIsN .non .non H Q := ⟨rfl, h⟩
theorem st_isNI (h : Q (.bl false) H) : rIsN (.int i) .non H Q := ⟨rfl, h⟩
theorem st_isNR (h : Q (.bl false) H) : rIsN (.ref a) .non H Q := ⟨rfl, h⟩
theorem st_notN0 (h : Q (.bl false) H) : rNotN .non .non H Q := ⟨rfl, h⟩
theorem st_notNI (h : Q (.bl true) H) : rNotN (.int i) .non H Q := ⟨rfl, h⟩
theorem st_notNR (h : Q (.bl true) H) : rNotN (.ref a) .non H Q := ⟨rfl, h⟩
theorem st_intB {b : Bool} (h : Q (.int (if b then 1 else 0)) H) : rInt1 [.bl b] H Q := .inr ⟨b, rfl, h⟩
theorem st_min (h : Q (.int (if j < i then j else i)) H) : rMin2 [.int i, .int j] H Q := ⟨i, j, rfl, h⟩
/-! data -/
theorem st_ixT (h : Im H0 (.tuple ds) x) (k : Kp H0 H) (e : atI ds i = some d) (q : ∀ v, Im H d v → Q v H) : rIxT K x (.int i) H Q := by
  obtain ⟨a, xs, rfl, h1, h2⟩ := (h.kp k).tup
  obtain ⟨v, e1, h3⟩ := atI_iml h2 e
  exact ⟨a, xs, i, v, rfl, rfl, SqT.of h1, e1, q v h3⟩
theorem st_ixT_int (h : Im H0 (.tuple ds) x) (k : Kp H0 H) (e : atI ds i = some (.int j)) (q : Q (.int j) H) : rIxT K x (.int i) H Q :=
  st_ixT h k e fun v hv => by rw [Im.int_iff.mp hv]; exact q
theorem st_ixT_str {s : Str} (h : Im H0 (.tuple ds) x) (k : Kp H0 H) (e : atI ds i = some (.str s)) (q : Q (.str s) H) : rIxT K x (.int i) H Q :=
  st_ixT h k e fun v hv => by rw [Im.str_iff.mp hv]; exact q
theorem st_ixL (h : H l = some (.lst xs)) (e : atI xs i = some v) (q : Q v H) : rIxL K (.ref l) (.int i) H Q := ⟨l, xs, i, v, rfl, rfl, SqL.of h, e, q⟩
theorem st_ixLI {ns : List Int} (h : H l = some (.lst (ns.map V.int))) (e : atI ns i = some j) (q : Q (.int j) H) : rIxL K (.ref l) (.int i) H Q := by
  refine st_ixL h ?_ q
  unfold atI at e ⊢
  rw [List.length_map]
  cases z : ixN ns.length i with
  | none =>
    rw [z] at e
    cases e
  | some m =>
    rw [z] at e
    show (ns.map V.int)[m]? = some (.int j)
    rw [List.getElem?_map]
    show (ns[m]?).map V.int = some (.int j)
    have e' : ns[m]? = some j := e
    rw [e']
    rfl
theorem st_lenT (h : Im H0 (.tuple ds) x) (k : Kp H0 H) (q : Q (.int ds.length) H) : rLenS K [x] H Q := by
  obtain ⟨a, xs, rfl, h1, h2⟩ := (h.kp k).tup
  exact ⟨a, xs, rfl, .inr (SqT.of h1), by rw [h2.length]; exact q⟩
theorem st_lenL (h : H l = some (.lst xs)) (q : Q (.int xs.length) H) : rLenS K [.ref l] H Q := ⟨l, xs, rfl, .inl (SqL.of h), q⟩
theorem st_gtup {Gs : TGs} {QS : L2.St → Hp → Prop} (h : Im H0 (.tuple ds) x) (k : Kp H0 H) (hn : ds.length = n) (q : ∀ xs, ImL H ds xs → Gs xs σ H QS) : gTup K n Gs x σ H QS := by
  obtain ⟨a, xs, rfl, h1, h2⟩ := (h.kp k).tup
  exact ⟨a, xs, rfl, SqT.of h1, h2.length.trans hn, q xs h2⟩
theorem st_gtup' {Gs : TGs} {QS : L2.St → Hp → Prop} (h : H a = some (.tup xs)) (hn : xs.length = n) (q : Gs xs σ H QS) : gTup K n Gs (.ref a) σ H QS := ⟨a, xs, rfl, SqT.of h, hn, q⟩
theorem st_listT (h : Im H0 (.tuple ds) x) (k : Kp H0 H) (q : ∀ l xs H2, H l = none → Ex H H2 → ImL H2 ds xs → H2 l = some (.lst xs) → Q (.ref l) H2) : rListOf K [x] H Q := by
  obtain ⟨a, xs, rfl, h1, h2⟩ := (h.kp k).tup
  exact ⟨a, xs, rfl, .inr (SqT.of h1), fun l hl => q l xs _ hl (Ex.new hl) (h2.kp (Ex.new hl).kp) upd_same⟩
theorem st_listL (h : H a = some (.lst xs)) (q : ∀ l H2, H l = none → Ex H H2 → H2 l = some (.lst xs) → Q (.ref l) H2) : rListOf K [.ref a] H Q := ⟨a, xs, rfl, .inl (SqL.of h), fun l hl => q l _ hl (Ex.new hl) upd_same⟩
theorem st_tupL (h : H a = some (.lst xs)) (q : ∀ l H2, H l = none → Ex H H2 → H2 l = some (.tup xs) → Q (.ref l) H2) : rTupOf K [.ref a] H Q := ⟨a, xs, rfl, .inl ⟨SqL.of h, fun l hl => q l _ hl (Ex.new hl) upd_same⟩⟩
theorem st_app {z : V} (h : H l = some (.lst xs)) (hz : xs.length < sizeLine) (q : ∀ H2, Fr [l] H H2 → Kp H H2 → H2 l = some (.lst (xs ++ [z])) → Q .non H2) : rAppend (.ref l) [z] H Q :=
  ⟨l, xs, z, rfl, rfl, h, hz, q _ (Fr.mut (List.mem_singleton.mpr rfl) (Fr.refl _ _)) (Kp.mut (nt_of h trivial) (Kp.refl _)) upd_same⟩
theorem st_bm {T : String} {f : V → List V → Hp → VK → Prop} {to : TE} {tr : TA} (h : to σ H fun x H1 => tyV K T x H1 ∧ tr σ H1 fun xs H2 => f x xs H2 Q) : tBM K T f to tr σ H Q := h
theorem st_bm0 {T : String} {f : V → List V → Hp → VK → Prop} {to : TE} (h : to σ H fun x H1 => tyV K T x H1 ∧ f x [] H1 Q) : tBM0 K T f to σ H Q := h
theorem tyL {A : Prop} (h : H l = some (.lst xs)) (q : A) : tyV K "list" (.ref l) H ∧ A := ⟨.inl ⟨rfl, _, SqL.of h⟩, q⟩
/-- for over a tuple -/
theorem st_forT {te : TE} {g : TG} {tb : TS} (Pv : Nat → L2.St → Hp → Prop)
    (h : te σ H fun x H1 => Im H1 (.tuple ds) x ∧ Pv 0 σ H1 ∧ ∀ m σ' H', Pv m σ' H' → Kp H1 H')
    (hs : ∀ m d v σ' H', ds[m]? = some d → Pv m σ' H' → Im H' d v → g v σ' H' fun σ2 H2 => tb { D with nx := Pv (m + 1), ct := Pv (m + 1), bk := D.nx } σ2 H2)
    (hd : ∀ σ' H', Pv ds.length σ' H' → D.nx σ' H')
    (mono : ∀ Q Q' : VK, (∀ x H1, Q x H1 → Q' x H1) → te σ H Q → te σ H Q') : tFor (iTup K te) g tb D σ H := by
  refine mono _ _ (fun x H1 ⟨hx, h0, hk⟩ => ?_) h
  obtain ⟨a, xs, rfl, h1, h2⟩ := hx.tup
  refine ⟨a, rfl, ⟨xs, SqT.of h1⟩, for_tup (K := K) (a := a) (xs := xs) Pv h0 (fun m σ' H' _ p => SqT.of (hk m σ' H' p a xs h1)) (fun m v σ' H' hv p => ?_) fun σ' H' p => hd σ' H' (h2.length ▸ p)⟩
  obtain ⟨d, e1, e2⟩ := h2.get' hv
  exact hs m d v σ' H' e1 p (e2.kp (hk m σ' H' p))
theorem st_forT0 {m0 : Nat} {g : TG} {tb : TS} (Pv : Nat → L2.St → Hp → Prop) (e : σ[m0]? = some (some x)) (h : Im H0 (.tuple ds) x) (k : Kp H0 H) (h0 : Pv 0 σ H) (hk : ∀ m σ' H', Pv m σ' H' → Kp H0 H')
    (hs : ∀ m d v σ' H', ds[m]? = some d → Pv m σ' H' → Im H' d v → g v σ' H' fun σ2 H2 => tb { D with nx := Pv (m + 1), ct := Pv (m + 1), bk := D.nx } σ2 H2)
    (hd : ∀ σ' H', Pv ds.length σ' H' → D.nx σ' H') : tFor (iTup K (tVar m0)) g tb D σ H := by
  obtain ⟨a, xs, rfl, h1, h2⟩ := h.tup
  refine ⟨_, e, a, rfl, ⟨xs, SqT.of (k a xs h1)⟩, for_tup (K := K) (a := a) (xs := xs) Pv h0 (fun m σ' H' _ p => SqT.of (hk m σ' H' p a xs h1)) (fun m v σ' H' hv p => ?_) fun σ' H' p => hd σ' H' (h2.length ▸ p)⟩
  obtain ⟨d, e1, e2⟩ := h2.get' hv
  exact hs m d v σ' H' e1 p (e2.kp (hk m σ' H' p))
/-- for over range -/
theorem st_forR {ta : TA} {g : TG} {tb : TS} {hi : Int} (Pv : Nat → L2.St → Hp → Prop) (h : ta σ H fun vs H1 => vs = [.int hi] ∧ (hi < 4611686018427387904 ∧ -4611686018427387904 ≤ hi) ∧ Pv 0 σ H1)
    (mono : ∀ Q Q' : List V → Hp → Prop, (∀ x H1, Q x H1 → Q' x H1) → ta σ H Q → ta σ H Q')
    (hs : ∀ (m : Nat) σ' H', (m : Int) < hi → Pv m σ' H' → g (.int (m : Int)) σ' H' fun σ2 H2 => tb { D with nx := Pv (m + 1), ct := Pv (m + 1), bk := D.nx } σ2 H2)
    (hd : ∀ σ' H', Pv hi.toNat σ' H' → D.nx σ' H') : tFor (iRng1 ta) g tb D σ H := by
  refine mono _ _ (fun vs H1 ⟨e, hb, p⟩ => ?_) h
  refine ⟨hi, e, by omega, by omega, for_range (lo := 0) (n := hi.toNat) Pv p (fun m σ' H' hm p => ?_) hd⟩
  have e0 : (0 : Int) + (m : Int) = (m : Int) := Int.zero_add _
  rw [e0]
  exact hs m σ' H' (by omega) p
end
/-! defs, methods, classes that keep their promises -/
/-- a def that may be called by its name -/
structure Cal (CX : CXT) (P : Program) (w : World) (K : PySem.W.Frag) (mg : Str → Option Value) (base : Heap) (k : Nat) (x : Str) (sp : Sp) : Prop where
  ex : ∃ (f : Addr) (fd : FuncData) (ps : List Str), FnOk P w K mg base CX k f fd ps sp ∧ mg x = some (.ref f) ∧ PySem.W.keepIn K (.ref f) = true ∧ Binds K fd ps []
/-- a method of a class, C its place -/
structure Met (CX : CXT) (P : Program) (w : World) (K : PySem.W.Frag) (mg : Str → Option Value) (base : Heap) (k : Nat) (C : Addr) (m : Str) (sp : Sp) : Prop where
  ex : ∃ (f : Addr) (fd : FuncData) (ps : List Str), Cls K C ∧ Meth K C m f ∧ FnOk P w K mg base CX k f fd ps sp ∧ Binds K fd ps []
/-- a class that may be called by its name -/
structure Mak (CX : CXT) (P : Program) (w : World) (K : PySem.W.Frag) (mg : Str → Option Value) (base : Heap) (k : Nat) (x : Str) (C : Addr) (sp : Sp) : Prop where
  ex : ∃ (f : Addr) (fd : FuncData) (ps : List Str), Mk K C f ∧ FnOk P w K mg base CX k f fd ps sp ∧ mg x = some (.ref C) ∧ Binds K fd ps []
section
variable {X : Cx} {k j : Nat} {C : Addr} {x m : Str} {sp : Sp} {p pos apos : Pos} {e o : Expr} {es : List Expr} {ta : TE} {t : TA}
theorem pe_c0 (c : Cal CX0 X.prog X.w X.K X.mg X.base k x sp) (hr : Room j X.A) (hk : k ≤ j) (hg : Gl X x) (hdb : (x == ("__debug__" : Str)) = false := by decide) :
    PE X (.Call (.Name x p) [] [] pos) (tCall sp [] E0 tNil) := by
  obtain ⟨f, fd, ps, F, hm, kp, b⟩ := c.ex
  exact pe_call0 F (hr.mono hk) hg hm kp b .nil pass0 hdb
theorem pe_c (c : Cal CX0 X.prog X.w X.K X.mg X.base k x sp) (hr : Room j X.A) (hk : k ≤ j) (hg : Gl X x) (ha : PA X (e :: es) t)
    (h1 : (x == ("__debug__" : Str)) = false := by decide) (h2 : starEach (e :: es) X.env = (false, eval e X.env) :: starEach es X.env := by rfl) (h3 : (backTo pos (starEach es X.env)).any (·.1) = false := by rfl) :
    PE X (.Call (.Name x p) (e :: es) [] pos) (tCall sp [] E0 t) := by
  obtain ⟨f, fd, ps, F, hm, kp, b⟩ := c.ex
  exact pe_call F (hr.mono hk) hg hm kp b .nil pass0 ha h1 h2 h3
theorem pe_mk (c : Mak CX0 X.prog X.w X.K X.mg X.base k x C sp) (hr : Room j X.A) (hk : k + 1 ≤ j) (hg : Gl X x) (ha : PA X (e :: es) t)
    (h1 : (x == ("__debug__" : Str)) = false := by decide) (h2 : starEach (e :: es) X.env = (false, eval e X.env) :: starEach es X.env := by rfl) (h3 : (backTo pos (starEach es X.env)).any (·.1) = false := by rfl) :
    PE X (.Call (.Name x p) (e :: es) [] pos) (tMake C sp [] E0 t) := by
  obtain ⟨f, fd, ps, M, F, hm, b⟩ := c.ex
  exact pe_make M F (hr.mono hk) hg hm b .nil pass0 ha h1 h2 h3
theorem pe_mt {pl : Sem Bool} (c : Met CX0 X.prog X.w X.K X.mg X.base k C m sp) (hr : Room j X.A) (hk : k ≤ j) (he : PE X o ta) (ha : PA X (e :: es) t)
    (h1 : starEach (e :: es) X.env = (false, eval e X.env) :: starEach es X.env := by rfl) (h2 : (backTo pos (starEach es X.env)).any (·.1) = false := by rfl)
    (h3 : eval (.Call (.Attribute o m apos) (e :: es) [] pos) X.env = (do
      let ov ← eval o X.env
      standAt apos.atName
      let (g, first) ← holding [ov] (getMethod ov m pl)
      callWith pos g first (backTo pos (starEach (e :: es) X.env)) (backToKw pos (keywordEach [] X.env))) := by rfl) :
    PE X (.Call (.Attribute o m apos) (e :: es) [] pos) (tMeth C m sp [] E0 ta t) := by
  obtain ⟨f, fd, ps, hc, hm, F, b⟩ := c.ex
  exact pe_meth (pl := pl) he hc hm F (hr.mono hk) b .nil pass0 ha h1 h2 h3
theorem pe_mt0 {pl : Sem Bool} (c : Met CX0 X.prog X.w X.K X.mg X.base k C m sp) (hr : Room j X.A) (hk : k ≤ j) (he : PE X o ta)
    (h3 : eval (.Call (.Attribute o m apos) [] [] pos) X.env = (do
      let ov ← eval o X.env
      standAt apos.atName
      let (g, first) ← holding [ov] (getMethod ov m pl)
      callWith pos g first (backTo pos (starEach [] X.env)) (backToKw pos (keywordEach [] X.env))) := by rfl) :
    PE X (.Call (.Attribute o m apos) [] [] pos) (tMeth C m sp [] E0 ta tNil) := by
  obtain ⟨f, fd, ps, hc, hm, F, b⟩ := c.ex
  exact pe_meth0 (pl := pl) he hc hm F (hr.mono hk) b .nil pass0 h3
theorem pe_gc {v : V} (g : Gl X x) (h : ∃ u, X.mg x = some u ∧ RelV v u) (hd : (x == ("__debug__" : Str)) = false := by decide) : PE X (.Name x pos) (tC v) := by
  obtain ⟨u, hm, r⟩ := h
  exact pe_glob g hm r hd
end
section
variable {P : Program} {w : World} {K : PySem.W.Frag} {mg : Str → Option Value} {base : Heap} {x qual m : Str} {st : Stmt} {f C : Addr} {fd : FuncData} {N ps : List Str} {k : Nat} {sp : Sp}
abbrev BindsOf (x qual : Str) (st : Stmt) (ps : List Str) : Prop := ∀ (kV doc pm : Value) (an : Option Addr) (cdv ct : Value) (us : List Value), us.length = ps.length → bindArgs (PySem.W.fnOf x qual (defArgs st) (defBody st) (defScope st) .none kV doc pm an cdv ct) ⟨us, []⟩ = pure (ps.zip us)
abbrev BodyOf (P : Program) (w : World) (K : PySem.W.Frag) (mg : Str → Option Value) (base : Heap) (qual : Str) (st : Stmt) (f : Addr) (N : List Str) (k : Nat) (sp : Sp) : Prop :=
  ∀ (cdv : Value) (A : Around) (outer : List Env) (s : Shared) (H : Hp) (vs : List V) (Q : VK) (E : XK), Room k (A.deeper (envOfC qual (defScope st) s.heap.objs.size f cdv)) → sp vs H Q E →
      ∃ t, PSs (cxOf CX0 P w K mg base N qual (defScope st) f cdv A outer s H E).nox (defBody st) t ∧ t { nx := fun _ H' => Q .non H', rt := Q } (start N vs) H
/-- a def of the module keeps its promise, by its body -/
theorem cal_of (F : Fun K x x st f fd) (hm : mg x = some (.ref f)) (b : BindsOf x x st ps) (S : FnScope N ps (defScope st)) (len : ∀ vs H Q E, sp vs H Q E → vs.length = ps.length)
    (body : BodyOf P w K mg base x st f N k sp) : Cal CX0 P w K mg base (k + 1) x sp :=
  ⟨f, fd, ps, F.ok S len body, hm, F.kp, F.binds b⟩
theorem met_of (c : Cls K C) (me : Meth K C m f) (F : Fun K m qual st f fd) (b : BindsOf m qual st ps) (S : FnScope N ps (defScope st)) (len : ∀ vs H Q E, sp vs H Q E → vs.length = ps.length)
    (body : BodyOf P w K mg base qual st f N k sp) : Met CX0 P w K mg base (k + 1) C m sp :=
  ⟨f, fd, ps, c, me, F.ok S len body, F.binds b⟩
theorem mak_of (M : Mk K C f) (hm : mg x = some (.ref C)) (F : Fun K "__init__" qual st f fd) (b : BindsOf "__init__" qual st ps) (S : FnScope N ps (defScope st)) (len : ∀ vs H Q E, sp vs H Q E → vs.length = ps.length)
    (body : BodyOf P w K mg base qual st f N k sp) : Mak CX0 P w K mg base (k + 1) x C sp :=
  ⟨f, fd, ps, M, F.ok S len body, hm, F.binds b⟩
end
/-- a module's constant -/
def HasC (mg : Str → Option Value) (x : Str) (v : V) : Prop := ∃ u, mg x = some u ∧ RelV v u
end BC
/-! BCEnum: enumerate(tuple). -/
namespace BC
open PySem PySem.Spec PyProof.Rows L2
open PySem.Sem (wp)
theorem meets_enumerate_new1 {v : Value} {o : Obj} {H : Heap → Prop} (B : Begins v o H) :
    Meets (Builtin.«enumerate.__new__» ⟨[.type "enumerate", v], []⟩) (fun _ R s => H s.heap ∧
      R (.ok (.ret (.ref (s.heap.push o).objs.size))) { s with heap := (s.heap.push o).push { cls := .type "enumerate", data := .fields #[.none, .bool false, .ref s.heap.objs.size, rawInt 0, .none, .none] } }) :=
  .of_wp fun prog w A R s h => by
    obtain ⟨hp0, g, d, tk0, os⟩ := s; obtain ⟨g1, h⟩ := h
    have hsub := sub_enumerate
    have beg : ∀ {A' : Around} {E : Value → Shared → Prop} {Q : Value → Shared → Prop}, Q (.ref hp0.objs.size) ⟨hp0.push o, g, d, tk0, os⟩ → wpAny (model prog w) A' (pyIter v) Q E ⟨hp0, g, d, tk0, os⟩ :=
      fun q => B.iter prog w _ _ ⟨hp0, g, d, tk0, os⟩ _ g1 q
    wp_walk using beg
    refine wpAny_stack_any (fun stk => wpAny_pure ?_)
    split
    · rename_i c _ _ _ _ _
      cases (c == (.type "enumerate" : Value))
      · wp_walk using beg
        exact ⟨_, rfl, h⟩
      · wp_walk using beg
        exact ⟨_, rfl, h⟩
    · wp_walk using beg
      exact ⟨_, rfl, h⟩
section
variable {prog : Program} {w : World} {A : Around} {s : Shared} {E : Value → Shared → Prop}
theorem call_enumerate_tuple {t : Addr} {items : Array Value} {Q : Value → Shared → Prop} (ht : s.heap.IsTuple t items)
    (h : ∀ h', IsEnum h' (s.heap.objs.size + 1) s.heap.objs.size 0 .none → h'.IsTupleIter s.heap.objs.size t 0 → h'.objs.size = s.heap.objs.size + 2 →
      (∀ b o, s.heap.get? b = some o → h'.get? b = some o) → Q (.ref (s.heap.objs.size + 1)) { s with heap := h' }) :
    wpAny (model prog w) A (call (.type "enumerate") [.ref t]) Q E s := by
  refine callType_new F.called_enumerate (by decide) (F.typeCall_enumerate_1 _) (F.newCall_enumerate_1 _) (fun obj => F.args_object_init_2 obj _) F.entry_enumerate_new
    (meets_enumerate_new1 (begins_tuple t items)) ⟨ht, ?_⟩
  have zE : (s.heap.push { cls := .type "tuple_iterator", data := .fields #[.ref t, .int 0 0] }).objs.size = s.heap.objs.size + 1 := Heap.size_push ..
  show _ ∧ _
  rw [zE]
  have hE : IsEnum ((s.heap.push { cls := .type "tuple_iterator", data := .fields #[.ref t, .int 0 0] }).push
      { cls := .type "enumerate", data := .fields #[.none, .bool false, .ref s.heap.objs.size, rawInt 0, .none, .none] }) (s.heap.objs.size + 1) s.heap.objs.size 0 .none := by
    have := Heap.get?_push_size (s.heap.push { cls := .type "tuple_iterator", data := .fields #[.ref t, .int 0 0] })
      (o := { cls := .type "enumerate", data := .fields #[.none, .bool false, .ref s.heap.objs.size, rawInt 0, .none, .none] }) rfl
    rw [zE] at this; exact this
  refine ⟨⟨_, hE, rfl⟩, h _ hE ⟨_, Heap.get?_push_of_some _ (Heap.get?_push_size _ rfl), rfl, rfl⟩ (by rw [Heap.size_push, zE]) fun b o x => Heap.get?_push_of_some _ (Heap.get?_push_of_some _ x)⟩
end
/-- the tuple at a, each item in a new pair -/
def ItT (K : PySem.W.Frag) (a : Addr) : It :=
  ⟨fun i H => ∃ (xs : List V) (x : V), SqT K H a xs ∧ xs[i]? = some x, fun i H v H' => ∃ T x, v = .ref T ∧ H T = none ∧ H' = upd H T (.tup [.int (i : Nat), x]) ∧ ∀ xs, SqT K H a xs → xs[i]? = some x, fun i H => ∃ xs : List V, SqT K H a xs ∧ xs.length = i⟩
theorem turn_enumT {P : Program} {w : World} {K : PySem.W.Frag} {elts : List Expr} {kk : Nat} {tpos : Pos} (a e it : Addr) :
    Turn P w K (.Tuple elts kk tpos) (ItT K a) [e, it] e (fun i h => (∃ o0, IsEnum h e it ((i : Nat) : Int) o0) ∧ h.IsTupleIter it a i ∧ e ≠ it ∧ a ≠ it ∧ a ≠ e) where
  mem := by simp
  obj := fun i h st b nb => by
    obtain ⟨⟨o0, hE⟩, ⟨o, ho, hc, hd⟩, _⟩ := st
    have e' : b = e ∨ b = it := by simpa using nb
    rcases e' with z | z
    · rw [z]; exact ⟨_, hE, fun v q => nomatch q⟩
    · rw [z]; exact ⟨o, ho, fun v q => by rw [hd] at q; cases q⟩
  keep := fun i h h' st k => let ⟨⟨o0, hE⟩, hi, hN⟩ := st; ⟨⟨o0, k e (by simp) _ hE⟩, hi.at fun o q => k it (by simp) o q, hN⟩
  item := by
    intro X gP gw gK hc i pn s σ H E I hfp st go0
    subst gP gw gK
    obtain ⟨⟨o0, hE⟩, hI, hN, hai, hae⟩ := st
    obtain ⟨xs, x, sq, at0⟩ := go0
    obtain ⟨us0, rV, p, zE⟩ := I.tuple sq
    obtain ⟨u, uAt, rU⟩ := rV.get at0
    have ltE : e < s.heap.objs.size := Heap.lt_size hE
    have ltI : it < s.heap.objs.size := by obtain ⟨_, q, _⟩ := hI; exact Heap.lt_size q
    have hlt : i < us0.toArray.size := by
      have := (List.getElem?_eq_some_iff.mp uAt).1
      simpa using this
    refine wpAny_pyNext_enum_itemD (Draws.tuple (A := X.A.in1) (I.ok.hd hc) it a hai us0.toArray) hE ⟨hI, show s.heap.IsTuple a us0.toArray from p⟩ hlt hN (by simp; exact ⟨hN, fun z => hae z.symm⟩) fun x' h' tk0 gP ho hst' newT sz0 kp0 => ?_
    obtain ⟨hI', hp0'⟩ := hst'
    have ex : x' = u := by
      have g1 : us0.toArray[i]? = some u := by simpa using uAt
      rw [g1] at gP
      exact (Option.some.inj gP).symm
    subst ex
    refine ⟨_, rfl, wpAny_letOwnedTupleGo_enum (s := { s with heap := h', toks := tk0 + 1 }) ho fun h'' hE' sB => ?_⟩
    have hT2 : h''.get? s.heap.objs.size = some { cls := .type "tuple", data := .seq #[.int i tk0, x'] } := (sB.2 _ (Nat.ne_of_gt ltE)).trans newT
    have new : ObjOk X.prog X.w (upd H s.heap.objs.size (.tup [.int (i : Nat), x])) h'' s.heap.objs.size (.tup [.int (i : Nat), x]) :=
      ⟨by show 2 ≤ sizeLine; decide, [.int i tk0, x'], .cons ⟨_, rfl⟩ (.cons rU .nil), ⟨_, hT2, rfl, _, rfl⟩⟩
    have J1 : Inv X pn σ (upd H s.heap.objs.size (.tup [.int (i : Nat), x])) { s with heap := h'', toks := tk0 + 1 } :=
      I.turnedNew (ch := [e, it]) (fun b ob nb q => (sB.2 b (fun z => nb (by simp [z]))).trans (kp0 b ob (fun z => nb (by simp [z])) (fun z => nb (by simp [z])) q)) hfp (Nat.le_refl _) new
    refine ⟨.ref s.heap.objs.size, _, J1, rfl, ⟨_, x, rfl, I.hok.fresh (Nat.le_refl _), rfl, fun ys hy => by rw [I.tuple_inj hy sq]; exact at0⟩, ⟨⟨x', ?_⟩, hI'.at fun o q => (sB.2 it (Ne.symm hN)).trans q, hN, hai, hae⟩, fun b nb => ?_⟩
    · have ee1 : ((i + 1 : Nat) : Int) = (i : Int) + 1 := by omega
      rw [ee1]; exact hE'
    · have nb' : b < s.heap.objs.size := by
        have e' : b = e ∨ b = it := by simpa using nb
        rcases e' with z | z
        · rw [z]; exact ltE
        · rw [z]; exact ltI
      rw [upd_ne (Nat.ne_of_lt nb')]
      exact (hfp b nb).1
  done := by
    intro X gP gw gK hc i pn s σ H E I hfp st go0
    subst gP gw gK
    obtain ⟨⟨o0, hE⟩, hI, hN, hai, hae⟩ := st
    obtain ⟨xs, sq, at0⟩ := go0
    obtain ⟨us0, rV, p, zE⟩ := I.tuple sq
    obtain ⟨c0, c1, c2, c3, c4, c5⟩ := hfp it (by simp)
    have hl := rV.length
    have leB : us0.toArray.size = i := by simp; omega
    subst leB
    exact wpAny_pyNext_enum_endD (Draws.tuple (A := X.A.in1) (I.ok.hd hc) it a hai us0.toArray) hE ⟨hI, show s.heap.IsTuple a us0.toArray from p⟩ fun h' ebt => ⟨rfl, I.turned (t' := s.toks) (fun b o nb q => ebt b o nb q) c0 c1 c3 c4 c5⟩
  self := fun A i s Q E st h => let ⟨⟨_, hE⟩, _⟩ := st; wpAny_pyIter_enum hE h
def iEnumT (K : PySem.W.Frag) (ta : TA) : TI := fun σ H R => ta σ H fun vs H1 => ∃ a xs, vs = [.ref a] ∧ SqT K H1 a xs ∧ R (ItT K a) H1
theorem pi_enumT {X : Cx} {e : Expr} {ta : TA} {p pos tpos : Pos} {elts : List Expr} {kk : Nat} (go0 : Gl X "enumerate") (hm : X.mg "enumerate" = none) (ha : PA X [e] ta) (hs : starEach [e] X.env = [(false, eval e X.env)] := by rfl) :
    PI X (.Tuple elts kk tpos) (.Call (.Name "enumerate" p) [e] [] pos) (iEnumT X.K ta) := by
  refine ⟨fun pn s σ H R I h => ?_⟩
  refine Call_ (ld_blt I go0 hm boot_enumerate (PyProof.Rows.callWith_type1 (thn (ha.run pos pn s σ H _ I h) fun us s1 ⟨vs, H1, J1, r1, beg⟩ => ?_) hs rfl))
  obtain ⟨a, xs, ex, sq, q⟩ := beg
  subst ex
  cases r1 with
  | cons r rr =>
    cases rr
    cases r
    obtain ⟨us0, rV, p', zE⟩ := J1.tuple sq
    have hal : a < s1.heap.objs.size := p'.lt
    refine call_enumerate_tuple (show s1.heap.IsTuple a us0.toArray from p') fun h' hE hI sz0 kp0 => wpAny_pyIter_enum hE ?_
    have J2 : Inv X pn σ H1 { s1 with heap := h' } := J1.kept (t' := s1.toks) kp0
    refine ⟨s1.heap.objs.size + 1, [s1.heap.objs.size + 1, s1.heap.objs.size], _, _, H1, rfl, J2, turn_enumT a (s1.heap.objs.size + 1) s1.heap.objs.size, ⟨⟨.none, hE⟩, hI, Nat.succ_ne_self _, Nat.ne_of_lt hal, Nat.ne_of_lt (Nat.lt_succ_of_lt hal)⟩, fun b nb => ?_, q⟩
    have e' : b = s1.heap.objs.size + 1 ∨ b = s1.heap.objs.size := by simpa using nb
    have leB : s1.heap.objs.size ≤ b := by
      rcases e' with z | z
      · rw [z]; exact Nat.le_add_right _ _
      · rw [z]; exact Nat.le_refl _
    exact J1.fpOk leB (J1.hok.fresh leB)
theorem walk_enumT {K : PySem.W.Frag} {a : Addr} {xs : List V} : Walk (ItT K a) xs.length (fun H => SqT K H a xs) (YPair (fun i => some (.int (i : Nat))) (fun i => xs[i]?)) := by
  refine ⟨fun i _ hi q => ⟨xs, xs[i], q, by simp [hi]⟩, fun _ q => ⟨xs, q, rfl⟩, fun i H v H' _ q y => ?_⟩
  obtain ⟨T, x, g1, h2, h3, h4⟩ := y
  exact ⟨T, .int (i : Nat), x, g1, h2, h3, rfl, h4 xs q⟩
/-- for i, x in enumerate(t): the pair is unpacked into two slots -/
theorem st_forET {K : PySem.W.Frag} {σ : L2.St} {H H0 : Hp} {D : Ends} {x : V} {ds : List PyData} {m0 m1 m2 : Nat} {tb : TS} (Pv : Nat → L2.St → Hp → Prop) (e : σ[m0]? = some (some x)) (h : Im H0 (.tuple ds) x) (k : Kp H0 H) (h0 : Pv 0 σ H) (kp0 : ∀ m σ' H', Pv m σ' H' → Kp H0 H')
    (hs : ∀ (m : Nat) d v σ' H' H'', ds[m]? = some d → Pv m σ' H' → Ex H' H'' → Im H'' d v → tb { D with nx := Pv (m + 1), ct := Pv (m + 1), bk := D.nx } ((σ'.set m1 (some (.int (m : Int)))).set m2 (some v)) H'')
    (hd : ∀ σ' H', Pv ds.length σ' H' → D.nx σ' H') : tFor (iEnumT K (tCons (tVar m0) tNil)) (gTup K 2 (gCons (gName m1) (gCons (gName m2) gNil))) tb D σ H := by
  obtain ⟨a, xs, rfl, g1, h2⟩ := h.tup
  refine ⟨_, e, a, xs, rfl, SqT.of (k a xs g1), for_it (walk_enumT (K := K) (a := a) (xs := xs)) Pv h0 (fun m σ' H' _ p => SqT.of (kp0 m σ' H' p a xs g1)) (fun m v σ' H' H'' hlt p y => ?_) fun σ' H' p => hd σ' H' (h2.length ▸ p)⟩
  obtain ⟨T, y1, y2, rfl, f, rfl, ee1, e2⟩ := y
  have ee1' : y1 = .int (m : Int) := (Option.some.inj ee1).symm
  subst ee1'
  obtain ⟨d, g1, g2⟩ := h2.get' e2
  refine ⟨T, [.int (m : Int), y2], rfl, SqT.of upd_same, rfl, _, [y2], rfl, y2, [], rfl, rfl, ?_⟩
  exact hs m d y2 σ' H' _ g1 p (Ex.new f) (g2.kp ((kp0 m σ' H' p).trans (Ex.new f).kp))
end BC
/-! BCData: boards as data, raw ones and good ones; more steps. -/
namespace BC
open PySem PySem.Spec PyProof.Rows L2
section
variable {K : PySem.W.Frag} {σ : L2.St} {H H0 H1 : Hp} {D : Ends} {Q : VK} {i j : Int} {n : Nat} {v x y : V} {d e : PyData} {ds es : List PyData} {vs xs ys : List V} {a b l p : Addr}
theorem st_fdiv {f : Int → Int → V} (c : 0 < j ∧ j < 1073741824) (h : Q (f i j) H) : rI CDiv f (.int i) (.int j) H Q := ⟨i, j, rfl, rfl, c, h⟩
theorem st_mod {f : Int → Int → V} (c : 0 < j) (h : Q (f i j) H) : rI (fun _ j => 0 < j) f (.int i) (.int j) H Q := ⟨i, j, rfl, rfl, c, h⟩
theorem st_mul {f : Int → Int → V} (c : (-(2 ^ 64) < i ∧ i < 2 ^ 64) ∨ (-(2 ^ 64) < j ∧ j < 2 ^ 64)) (h : Q (f i j) H) : rI CMul f (.int i) (.int j) H Q := ⟨i, j, rfl, rfl, c, h⟩
theorem st_in {neg : Bool} (h : H p = some (.tup xs)) (hx : flatV x = true) (hf : xs.all flatV = true) (q : Q (.bl (if neg then !inV x xs else inV x xs)) H) : rIn K neg x (.ref p) H Q := ⟨p, xs, rfl, .inr (SqT.of h), hx, hf, q⟩
theorem st_inL {neg : Bool} (h : H p = some (.lst xs)) (hx : flatV x = true) (hf : xs.all flatV = true) (q : Q (.bl (if neg then !inV x xs else inV x xs)) H) : rIn K neg x (.ref p) H Q := ⟨p, xs, rfl, .inl (SqL.of h), hx, hf, q⟩
theorem st_in2 {s s1 s2 : Str} (h : H p = some (.tup [.str s1, .str s2])) (q : Q (.bl (decide (s = s1 ∨ s = s2))) H) : rIn K false (.str s) (.ref p) H Q := by
  refine st_in h rfl rfl ?_
  have e : inV (.str s) [.str s1, .str s2] = decide (s = s1 ∨ s = s2) := by
    simp only [inV, List.any_cons, List.any_nil, eqV, Bool.or_false]
    rw [Bool.eq_iff_iff]
    simp only [Bool.or_eq_true, beq_iff_eq, decide_eq_true_eq]
    constructor
    · rintro (h | h)
      · exact .inl h.symm
      · exact .inr h.symm
    · rintro (h | h)
      · exact .inl h.symm
      · exact .inr h.symm
  show Q (.bl (inV (.str s) [.str s1, .str s2])) H
  rw [e]
  exact q
theorem Im.new (hp : H p = none) (h : Im H d v) {o : HO} : Im (upd H p o) d v := h.kp (Kp.new hp (Kp.refl H))
theorem ImL.new (hp : H p = none) (h : ImL H ds vs) {o : HO} : ImL (upd H p o) ds vs := h.kp (Kp.new hp (Kp.refl H))
theorem Im.ex (e : Ex H H1) (h : Im H d v) : Im H1 d v := h.kp e.kp
theorem ImL.ex (e : Ex H H1) (h : ImL H ds vs) : ImL H1 ds vs := h.kp e.kp
end

/-! ### raw boards -/
abbrev ROrd := Int × Int × Int × Option Int
abbrev RDeed := Str × List Int
structure RB where
  mem : List Int
  ords : List ROrd
  prog : List RDeed
def pyOpt : Option Int → PyData
  | none => .none
  | some i => .int i
abbrev pyOrd (o : ROrd) : PyData := .tuple [.int o.1, .int o.2.1, .int o.2.2.1, pyOpt o.2.2.2]
abbrev pyDeed (d : RDeed) : PyData := .tuple (.str d.1 :: d.2.map .int)
abbrev pyMem (m : List Int) : PyData := .tuple (m.map .int)
abbrev pyOrds (os : List ROrd) : PyData := .tuple (os.map pyOrd)
abbrev pyProg (p : List RDeed) : PyData := .tuple (p.map pyDeed)
abbrev pyB (b : RB) : PyData := .tuple [pyMem b.mem, pyOrds b.ords, pyProg b.prog]
/-- the value of an optional number -/
def vOpt : Option Int → V
  | none => .non
  | some i => .int i
theorem im_opt {H : Hp} {o : Option Int} {v : V} : Im H (pyOpt o) v ↔ v = vOpt o := by
  cases o with
  | none => exact Im.none_iff
  | some i => exact Im.int_iff
/-- an order, unpacked -/
theorem ord_inv {H : Hp} {o : ROrd} {xs : List V} (h : ImL H [.int o.1, .int o.2.1, .int o.2.2.1, pyOpt o.2.2.2] xs) : xs = [.int o.1, .int o.2.1, .int o.2.2.1, vOpt o.2.2.2] := by
  obtain ⟨v1, r1, rfl, h1, h⟩ := h.cons_inv
  obtain ⟨v2, r2, rfl, h2, h⟩ := h.cons_inv
  obtain ⟨v3, r3, rfl, h3, h⟩ := h.cons_inv
  obtain ⟨v4, r4, rfl, h4, h⟩ := h.cons_inv
  rw [h.nil_inv, Im.int_iff.mp h1, Im.int_iff.mp h2, Im.int_iff.mp h3, im_opt.mp h4]
theorem ints_at {ns : List Int} {i : Nat} {n : Int} (h : ns[i]? = some n) : (ns.map PyData.int)[i]? = some (.int n) := by
  rw [List.getElem?_map, h]
  rfl
theorem map_at {α β : Type} {f : α → β} {l : List α} {i : Nat} {x : α} (h : l[i]? = some x) : (l.map f)[i]? = some (f x) := by
  rw [List.getElem?_map, h]
  rfl
theorem map_at' {α β : Type} {f : α → β} {l : List α} {i : Nat} {y : β} (h : (l.map f)[i]? = some y) : ∃ x, l[i]? = some x ∧ y = f x := by
  rw [List.getElem?_map] at h
  cases e : l[i]? with
  | none =>
    rw [e] at h
    cases h
  | some x =>
    rw [e] at h
    exact ⟨x, rfl, (Option.some.inj h).symm⟩

/-! ### what check_board looks at -/
def digit (n : Int) : Bool := decide (0 ≤ n ∧ n ≤ 9)
/-- memory_fault -/
def memFault (m : List Int) : Option Nat :=
  if m.length % 4 ≠ 0 ∨ ¬ (1 ≤ m.length / 4 ∧ m.length / 4 ≤ 4) then some 0 else m.findIdx? fun n => !digit n
def ordOk (cells n i : Nat) (o : ROrd) : Bool :=
  decide (1 ≤ o.2.2.1 ∧ o.2.2.1 ≤ 8) && decide (0 ≤ o.1 ∧ o.1 ≤ cells - o.2.2.1) && decide (0 ≤ o.2.1 ∧ o.2.1 ≤ cells - o.2.2.1) &&
    match o.2.2.2 with
    | none => true
    | some l => decide ((i : Int) + 1 ≤ l ∧ l ≤ (n : Int) - 1)
def deedOk (cells n : Nat) (d : RDeed) : Bool :=
  if d.1 = "wait" then d.2.length == 0
  else if d.1 = "set" ∨ d.1 = "add" then
    match d.2 with
    | [x, y] => decide (0 ≤ x ∧ x ≤ (cells : Int) - 1) && decide (0 ≤ y ∧ y ≤ if d.1 = "set" then (9 : Int) else (cells : Int) - 1)
    | _ => false
  else
    match d.2 with
    | [x] => if d.1 = "say" then decide (0 ≤ x ∧ x ≤ (cells : Int) - 1) else if d.1 = "start" then decide (0 ≤ x ∧ x ≤ (n : Int) - 1) else decide (d.1 = "clean" ∨ d.1 = "drop") && decide (0 ≤ x ∧ x ≤ ((cells / 4 : Nat) : Int) - 1)
    | _ => false
def isStart (d : RDeed) : Bool := decide (d.1 = "start")
/-- a board that can be -/
structure RGood (b : RB) : Prop where
  mem : memFault b.mem = none
  ords : b.ords.length ≤ 4 ∧ ∀ i o, b.ords[i]? = some o → ordOk b.mem.length b.ords.length i o = true
  prog : b.prog.length ≤ 60 ∧ (∀ d ∈ b.prog, deedOk b.mem.length b.ords.length d = true) ∧ (b.prog.filter isStart).length ≤ 3
end BC
/-! BCTyped: good boards: orders, deeds, moves. -/
namespace BC
open PySem PySem.Spec PyProof.Rows L2
theorem ofS_inj {a b : String} : Str.ofString a = Str.ofString b ↔ a = b := by
  constructor
  · intro h
    have h1 : (Str.ofString a).cps.toList = (Str.ofString b).cps.toList := by rw [h]
    have h2 : a.toList.map Char.toNat = b.toList.map Char.toNat := by simpa [Str.ofString_eq_toList] using h1
    have h3 : a.toList = b.toList := (List.map_inj_right (f := Char.toNat) (fun x y hxy => Char.toNat_inj.mp hxy)).mp h2
    exact String.toList_inj.mp h3
  · intro h
    rw [h]
theorem ofS_beq {a b : String} : (Str.ofString a == Str.ofString b) = decide (a = b) := by
  rw [Bool.eq_iff_iff, beq_iff_eq, decide_eq_true_eq]
  exact ofS_inj
structure Ord where
  src : Nat
  dst : Nat
  many : Nat
  later : Option Nat
def oN : Option Nat → Option Int
  | none => none
  | some n => some (n : Int)
abbrev Ord.raw (o : Ord) : ROrd := ((o.src : Int), (o.dst : Int), (o.many : Int), oN o.later)
inductive Deed where
  | set (c n : Nat) | add (c o : Nat) | say (c : Nat) | start (k : Nat) | wait | clean (l : Nat) | drop (l : Nat)
  deriving DecidableEq
abbrev Deed.raw : Deed → RDeed
  | .set c n => ("set", [(c : Int), (n : Int)])
  | .add c o => ("add", [(c : Int), (o : Int)])
  | .say c => ("say", [(c : Int)])
  | .start k => ("start", [(k : Int)])
  | .wait => ("wait", [])
  | .clean l => ("clean", [(l : Int)])
  | .drop l => ("drop", [(l : Int)])
def Deed.isStart : Deed → Bool
  | .start _ => true
  | _ => false
structure Bd where
  mem : List Int
  ords : List Ord
  prog : List Deed
abbrev Bd.raw (b : Bd) : RB := ⟨b.mem, b.ords.map Ord.raw, b.prog.map Deed.raw⟩
structure OrdsOk (cells : Nat) (os : List Ord) : Prop where
  ok : ∀ i o, os[i]? = some o → 1 ≤ o.many ∧ o.many ≤ 8 ∧ o.src + o.many ≤ cells ∧ o.dst + o.many ≤ cells ∧ ∀ l, o.later = some l → i < l ∧ l < os.length
def Deed.Ok (cells n : Nat) : Deed → Prop
  | .set c k => c < cells ∧ k ≤ 9
  | .add c o => c < cells ∧ o < cells
  | .say c => c < cells
  | .start k => k < n
  | .wait => True
  | .clean l => l < cells / 4
  | .drop l => l < cells / 4
structure Good (b : Bd) : Prop where
  four : b.mem.length % 4 = 0
  lines : 1 ≤ b.mem.length / 4 ∧ b.mem.length / 4 ≤ 4
  digits : ∀ n ∈ b.mem, 0 ≤ n ∧ n ≤ 9
  ords : b.ords.length ≤ 4
  ordsOk : OrdsOk b.mem.length b.ords
  len : b.prog.length ≤ 60
  deeds : ∀ d ∈ b.prog, d.Ok b.mem.length b.ords.length
  starts : (b.prog.filter Deed.isStart).length ≤ 3
theorem deedOk_raw {cells n : Nat} : ∀ {d : Deed}, d.Ok cells n → deedOk cells n d.raw = true
  | .set c k, h => by
    have h1 : c < cells ∧ k ≤ 9 := h
    simp [deedOk, Deed.raw, ofS_inj]
    omega
  | .add c o, h => by
    have h1 : c < cells ∧ o < cells := h
    simp [deedOk, Deed.raw, ofS_inj]
    omega
  | .say c, h => by
    have h1 : c < cells := h
    simp [deedOk, Deed.raw, ofS_inj]
    omega
  | .start k, h => by
    have h1 : k < n := h
    simp [deedOk, Deed.raw, ofS_inj]
    omega
  | .wait, h => by simp [deedOk, Deed.raw, ofS_inj]
  | .clean l, h => by
    have h1 : l < cells / 4 := h
    simp [deedOk, Deed.raw, ofS_inj]
    omega
  | .drop l, h => by
    have h1 : l < cells / 4 := h
    simp [deedOk, Deed.raw, ofS_inj]
    omega
theorem isStart_raw : ∀ d : Deed, BC.isStart d.raw = d.isStart
  | .set _ _ => by simp [BC.isStart, Deed.raw, Deed.isStart, ofS_inj]
  | .add _ _ => by simp [BC.isStart, Deed.raw, Deed.isStart, ofS_inj]
  | .say _ => by simp [BC.isStart, Deed.raw, Deed.isStart, ofS_inj]
  | .start _ => by simp [BC.isStart, Deed.raw, Deed.isStart, ofS_inj]
  | .wait => by simp [BC.isStart, Deed.raw, Deed.isStart, ofS_inj]
  | .clean _ => by simp [BC.isStart, Deed.raw, Deed.isStart, ofS_inj]
  | .drop _ => by simp [BC.isStart, Deed.raw, Deed.isStart, ofS_inj]
theorem Good.raw {b : Bd} (g : Good b) : RGood b.raw where
  mem := by
    unfold memFault
    rw [if_neg (by
      have h1 := g.four
      have h2 := g.lines
      rintro (h | h)
      · exact h h1
      · exact h h2), List.findIdx?_eq_none_iff]
    intro n hn
    have := g.digits n hn
    simp [digit, this]
  ords := by
    refine ⟨by simpa using g.ords, fun i o ho => ?_⟩
    obtain ⟨o', h1, rfl⟩ := map_at' ho
    have h2 := g.ordsOk.ok i o' h1
    obtain ⟨a1, a2, a3, a4, a5⟩ := h2
    unfold ordOk
    simp only [List.length_map, Ord.raw, Bool.and_eq_true, decide_eq_true_eq]
    refine ⟨⟨⟨by omega, by omega⟩, by omega⟩, ?_⟩
    cases e : o'.later with
    | none => rfl
    | some l =>
      have := a5 l e
      simp only [oN, decide_eq_true_eq]
      omega
  prog := by
    refine ⟨by simpa using g.len, fun d hd => ?_, ?_⟩
    · obtain ⟨d', h1, rfl⟩ := List.mem_map.mp hd
      simp only [List.length_map]
      exact deedOk_raw (g.deeds d' h1)
    · have := g.starts
      simp only [List.filter_map, List.length_map]
      have e : (BC.isStart ∘ Deed.raw) = Deed.isStart := funext isStart_raw
      rw [e]
      exact this

/-! ### moves -/
structure Mv where
  src : Nat
  dst : Nat
  bell : Option Nat
  deriving DecidableEq
abbrev pyMv (m : Mv) : PyData := .tuple [.int (m.src : Int), .int (m.dst : Int), pyOpt (oN m.bell)]
def mvAt (o : Ord) (k s : Nat) : Mv := ⟨o.src + s, o.dst + s, if s + 1 = o.many then some k else none⟩
def movesOne (o : Ord) (k : Nat) : List Mv := (List.range o.many).map (mvAt o k)
def movesFrom (os : List Ord) : Nat → Nat → List Mv
  | 0, _ => []
  | n + 1, k => match os[k]? with
    | none => []
    | some o => movesOne o k ++ match o.later with
      | none => []
      | some l => movesFrom os n l
def movesOf (os : List Ord) (k : Nat) : List Mv := movesFrom os os.length k
def movesO (os : List Ord) : Option Nat → List Mv
  | none => []
  | some k => movesOf os k
theorem movesFrom_fuel {cells : Nat} {os : List Ord} (g : OrdsOk cells os) : ∀ (n m k : Nat), os.length ≤ n + k → os.length ≤ m + k → movesFrom os n k = movesFrom os m k
  | 0, 0, _, _, _ => rfl
  | 0, m + 1, k, h, _ => by
    have e : os[k]? = none := List.getElem?_eq_none (by omega)
    simp [movesFrom, e]
  | n + 1, 0, k, _, h => by
    have e : os[k]? = none := List.getElem?_eq_none (by omega)
    simp [movesFrom, e]
  | n + 1, m + 1, k, h1, h2 => by
    cases e : os[k]? with
    | none => simp [movesFrom, e]
    | some o =>
      simp only [movesFrom, e]
      cases e2 : o.later with
      | none => rfl
      | some l =>
        have := (g.ok k o e).2.2.2.2 l e2
        simp only
        rw [movesFrom_fuel g n m l (by omega) (by omega)]
theorem movesO_some {cells : Nat} {os : List Ord} (g : OrdsOk cells os) {k : Nat} {o : Ord} (h : os[k]? = some o) : movesO os (some k) = movesOne o k ++ movesO os o.later := by
  show movesFrom os os.length k = _
  have hk : k < os.length := (List.getElem?_eq_some_iff.mp h).1
  cases hn : os.length with
  | zero => omega
  | succ n =>
    simp only [movesFrom, h]
    cases e2 : o.later with
    | none => rfl
    | some l =>
      have := (g.ok k o h).2.2.2.2 l e2
      simp only [movesO, movesOf]
      rw [movesFrom_fuel g n os.length l (by omega) (by omega)]
theorem movesOne_len (o : Ord) (k : Nat) : (movesOne o k).length = o.many := by simp [movesOne]
theorem moves_in {cells : Nat} {os : List Ord} (g : OrdsOk cells os) : ∀ (n k : Nat) (m : Mv), m ∈ movesFrom os n k → m.src < cells ∧ m.dst < cells
  | 0, _, _, h => by simp [movesFrom] at h
  | n + 1, k, m, h => by
    cases e : os[k]? with
    | none => simp [movesFrom, e] at h
    | some o =>
      simp only [movesFrom, e] at h
      obtain ⟨a1, a2, a3, a4, a5⟩ := g.ok k o e
      rcases List.mem_append.mp h with h | h
      · simp only [movesOne, List.mem_map, List.mem_range] at h
        obtain ⟨s, hs, rfl⟩ := h
        simp only [mvAt]
        omega
      · cases e2 : o.later with
        | none => simp [e2] at h
        | some l =>
          simp only [e2] at h
          exact moves_in g n l m h
theorem moves_len {cells : Nat} {os : List Ord} (g : OrdsOk cells os) : ∀ (n k : Nat), (movesFrom os n k).length ≤ 8 * n
  | 0, _ => by simp [movesFrom]
  | n + 1, k => by
    cases e : os[k]? with
    | none => simp [movesFrom, e]
    | some o =>
      obtain ⟨a1, a2, a3, a4, a5⟩ := g.ok k o e
      simp only [movesFrom, e, List.length_append, movesOne_len]
      cases e2 : o.later with
      | none => simp only [List.length_nil]; omega
      | some l =>
        have := moves_len g n l
        simp only
        omega
end BC
/-! BCObj: steps about objects and dicts; the plain object. -/
namespace BC
open PySem PySem.Spec PyProof.Rows L2
theorem st_NT {A B : Prop} (h : B) : if (!true) = true then A else B := iteF h
theorem st_NF {A B : Prop} (h : A) : if (!false) = true then A else B := iteT h
theorem fr1 {H H2 : Hp} {a b : Addr} {o : HO} (f : Fr [a] H H2) (h : H b = some o) (n : b ≠ a) : H2 b = some o := f b o h (by simpa using n)
theorem ne_ins {H : Hp} {p l C dx : Addr} {fs : List (Str × V)} {xs : List V} (h1 : H p = some (.ins C dx fs)) (h2 : H l = some (.lst xs)) : p ≠ l := ne_of h1 h2 (by intro z; cases z)
def GetF (K : PySem.W.Frag) (f : Str) (x : V) (H : Hp) (Q : VK) : Prop := ∃ a C dx fs v, x = .ref a ∧ H a = some (.ins C dx fs) ∧ Cls K C ∧ NoAttr K C f ∧ fs.lookup f = some v ∧ Q v H
def SetF (K : PySem.W.Frag) (f : Str) (y x : V) (H : Hp) (R : Hp → Prop) : Prop := ∃ a C dx fs, x = .ref a ∧ H a = some (.ins C dx fs) ∧ Cls K C ∧ NoAttr K C f ∧ fs.length < 1000 ∧ R (upd H a (.ins C dx (putF f y fs)))
def CallM (C : Addr) (m : Str) (sp : Sp) (E : XK) (tr : TA) (x : V) (σ : L2.St) (H : Hp) (Q : VK) : Prop := ∃ a dx fs, x = .ref a ∧ H a = some (.ins C dx fs) ∧ fs.lookup m = none ∧ tr σ H fun vs H2 => sp (x :: vs) H2 Q E
def MakeC (C : Addr) (sp : Sp) (E : XK) (vs : List V) (H1 : Hp) (Q : VK) : Prop := ∀ x dx, H1 x = none → H1 dx = none → dx ≠ x → sp (.ref x :: vs) (upd (upd H1 dx (.own x)) x (.ins C dx [])) (fun v H2 => v = .non ∧ Q (.ref x) H2) E
section
variable {K : PySem.W.Frag} {σ : L2.St} {H H0 H1 : Hp} {D : Ends} {Q : VK} {t u : TS} {ta tb te tv : TE} {tr : TA} {i j : Int} {n : Nat} {v x y : V} {vs xs : List V} {a C dx l p : Addr} {f m : Str} {fs : List (Str × V)} {sp : Sp} {E : XK}
theorem st_fld (h : ta σ H fun x H1 => GetF K f x H1 Q) : tFld K ta f σ H Q := h
theorem st_getF (h : H a = some (.ins C dx fs)) (hc : Cls K C) (hn : NoAttr K C f) (e : fs.lookup f = some v) (q : Q v H) : GetF K f (.ref a) H Q := ⟨a, C, dx, fs, v, rfl, h, hc, hn, e, q⟩
theorem st_sfld (h : tv σ H fun y H1 => ta σ H1 fun x H2 => SetF K f y x H2 (D.nx σ)) : sFld K ta tv f D σ H := h
theorem st_setF {R : Hp → Prop} (h : H a = some (.ins C dx fs)) (hc : Cls K C) (hn : NoAttr K C f) (hl : fs.length < 1000) (q : ∀ H2, Fr [a] H H2 → Kp H H2 → H2 a = some (.ins C dx (putF f y fs)) → R H2) : SetF K f y (.ref a) H R :=
  ⟨a, C, dx, fs, rfl, h, hc, hn, hl, q _ (Fr.mut (List.mem_singleton.mpr rfl) (Fr.refl _ _)) (Kp.mut (nt_of h trivial) (Kp.refl _)) upd_same⟩
theorem st_meth (h : ta σ H fun x H1 => CallM C m sp E tr x σ H1 Q) : tMeth C m sp [] E ta tr σ H Q := by
  show ta σ H fun x H1 => ∃ a dx fs, x = .ref a ∧ H1 a = some (.ins C dx fs) ∧ fs.lookup m = none ∧ tr σ H1 fun vs H2 => sp (x :: (vs ++ [])) H2 Q E
  unfold CallM at h
  simpa only [List.append_nil] using h
theorem st_callM (h : H a = some (.ins C dx fs)) (e : fs.lookup m = none) (q : tr σ H fun vs H2 => sp (.ref a :: vs) H2 Q E) : CallM C m sp E tr (.ref a) σ H Q := ⟨a, dx, fs, rfl, h, e, q⟩
theorem st_make (h : tr σ H fun vs H1 => MakeC C sp E vs H1 Q) : tMake C sp [] E tr σ H Q := by
  show tr σ H fun vs H1 => ∀ x dx, H1 x = none → H1 dx = none → dx ≠ x → sp (.ref x :: (vs ++ [])) (upd (upd H1 dx (.own x)) x (.ins C dx [])) (fun v H2 => v = .non ∧ Q (.ref x) H2) E
  unfold MakeC at h
  simpa only [List.append_nil] using h
theorem st_makeC (k : ∀ x dx H2, H x = none → Ex H H2 → H2 x = some (.ins C dx []) → sp (.ref x :: vs) H2 (fun v H3 => v = .non ∧ Q (.ref x) H3) E) : MakeC C sp E vs H Q :=
  fun x dx nx nd ne => k x dx _ nx ((Ex.new nd).trans (Ex.new (by rw [upd_ne (Ne.symm ne)]; exact nx))) upd_same
/-- o.f += e -/
def AugF (K : PySem.W.Frag) (tv : TE) (rd : R2) (f : Str) (D : Ends) (x : V) (σ : L2.St) (H1 : Hp) : Prop := ∃ a C dx fs v, x = .ref a ∧ H1 a = some (.ins C dx fs) ∧ Cls K C ∧ NoAttr K C f ∧ fs.lookup f = some v ∧
  tv σ H1 fun u H2 => rd v u H2 fun r H3 => ∃ dy gs, H3 a = some (.ins C dy gs) ∧ gs.length < 1000 ∧ D.nx σ (upd H3 a (.ins C dy (putF f r gs)))
theorem st_fldaug {rd : R2} (h : ta σ H fun x H1 => AugF K tv rd f D x σ H1) : sFldAug K ta tv rd f D σ H := h
/-- .. of an int, by a constant -/
theorem st_augF (h : H a = some (.ins C dx fs)) (hc : Cls K C) (hn : NoAttr K C f) (e : fs.lookup f = some (.int i)) (hl : fs.length < 1000) (q : ∀ H2, Fr [a] H H2 → Kp H H2 → H2 a = some (.ins C dx (putF f (.int (i + j)) fs)) → D.nx σ H2) :
    AugF K (tC (.int j)) rAdd f D (.ref a) σ H :=
  ⟨a, C, dx, fs, _, rfl, h, hc, hn, e, i, j, rfl, rfl, dx, fs, h, hl, q _ (Fr.mut (List.mem_singleton.mpr rfl) (Fr.refl _ _)) (Kp.mut (nt_of h trivial) (Kp.refl _)) upd_same⟩
/-- xs[i] = e -/
def SetI (o i v : V) (H : Hp) (R : Hp → Prop) : Prop := rSetL o i v H R
theorem st_gsub {to ti : TE} {QS : L2.St → Hp → Prop} (h : to σ H fun o H1 => ti σ H1 fun i H2 => SetI o i v H2 (fun H3 => QS σ H3)) : gSub to ti rSetL v σ H QS := h
theorem ixN_nat {m k : Nat} (hk : k < m) : ixN m (k : Int) = some k := by
  unfold ixN
  rw [if_pos (by omega), if_pos (by omega), Int.toNat_natCast]
theorem st_setI {k : Nat} {R : Hp → Prop} (h : H l = some (.lst xs)) (hk : k < xs.length) (q : ∀ H2, Fr [l] H H2 → Kp H H2 → H2 l = some (.lst (xs.set k v)) → R H2) : SetI (.ref l) (.int (k : Int)) v H R :=
  ⟨l, xs, k, k, rfl, rfl, h, ixN_nat hk, q _ (Fr.mut (List.mem_singleton.mpr rfl) (Fr.refl _ _)) (Kp.mut (nt_of h trivial) (Kp.refl _)) upd_same⟩
/-! dicts -/
def DGetP (x y : V) (H2 : Hp) (Q : VK) : Prop := ∃ a v, x = .ref a ∧ DGet H2 a y (some v) ∧ Q v H2
theorem st_dget {td ty : TE} (h : td σ H fun x H1 => ty σ H1 fun y H2 => DGetP x y H2 Q) : tDGet td ty σ H Q := h
theorem st_dgetI {kvs : List (Key × V)} (h : H a = some (.dK kvs)) (e : valV kvs (Sum.inl i) = some v) (q : Q v H) : DGetP (.ref a) (.int i) H Q := ⟨a, v, rfl, by rw [← e]; exact DGet.k (k := Sum.inl i) h, q⟩
theorem st_dgetS {kvs : List (Key × V)} {s : Str} (h : H a = some (.dK kvs)) (e : valV kvs (Sum.inr s) = some v) (q : Q v H) : DGetP (.ref a) (.str s) H Q := ⟨a, v, rfl, by rw [← e]; exact DGet.k (k := Sum.inr s) h, q⟩
def DInP (y x : V) (H2 : Hp) (Q : VK) : Prop := ∃ a o, x = .ref a ∧ DGet H2 a y o ∧ Q (.bl o.isSome) H2
def DNotInP (y x : V) (H2 : Hp) (Q : VK) : Prop := ∃ a o, x = .ref a ∧ DGet H2 a y o ∧ Q (.bl (!o.isSome)) H2
theorem st_din {td ty : TE} (h : ty σ H fun y H1 => td σ H1 fun x H2 => DInP y x H2 Q) : tDIn ty td σ H Q := h
theorem st_dnotin {td ty : TE} (h : ty σ H fun y H1 => td σ H1 fun x H2 => DNotInP y x H2 Q) : tDNotIn ty td σ H Q := h
theorem st_dinI {kvs : List (Key × V)} (h : H a = some (.dK kvs)) (q : Q (.bl (valV kvs (Sum.inl i)).isSome) H) : DInP (.int i) (.ref a) H Q := ⟨a, _, rfl, DGet.k (k := Sum.inl i) h, q⟩
theorem st_dinS {kvs : List (Key × V)} {s : Str} (h : H a = some (.dK kvs)) (q : Q (.bl (valV kvs (Sum.inr s)).isSome) H) : DInP (.str s) (.ref a) H Q := ⟨a, _, rfl, DGet.k (k := Sum.inr s) h, q⟩
theorem st_dnotinI {kvs : List (Key × V)} (h : H a = some (.dK kvs)) (q : Q (.bl (!(valV kvs (Sum.inl i)).isSome)) H) : DNotInP (.int i) (.ref a) H Q := ⟨a, _, rfl, DGet.k (k := Sum.inl i) h, q⟩
def DPutP (v x y : V) (H3 : Hp) (R : Hp → Prop) : Prop := ∃ a H4, x = .ref a ∧ DPut H3 a y v H4 ∧ R H4
theorem st_dput {td ty tv : TE} (h : tv σ H fun v H1 => td σ H1 fun x H2 => ty σ H2 fun y H3 => DPutP v x y H3 (D.nx σ)) : sDPut td ty tv D σ H := h
theorem st_dputK {k : Key} {kvs : List (Key × V)} {R : Hp → Prop} (h : H a = some (.dK kvs)) (hy : y = kV k) (hl : kvs.length < 100000) (q : ∀ H2, Fr [a] H H2 → Kp H H2 → H2 a = some (.dK (putK kvs k v)) → R H2) : DPutP v (.ref a) y H R :=
  ⟨a, _, rfl, by rw [hy]; exact DPut.k h (sz_lt hl), q _ (Fr.mut (List.mem_singleton.mpr rfl) (Fr.refl _ _)) (Kp.mut (nt_of h trivial) (Kp.refl _)) upd_same⟩
theorem st_dnewK (q : ∀ d H2, H d = none → Ex H H2 → H2 d = some (.dK []) → Q (.ref d) H2) : tDNewK σ H Q := fun p hp => q p _ hp (Ex.new hp) upd_same
/-! deep == -/
theorem st_eqD {d e : PyData} (hx : Dp K H x d) (hy : Dp K H y e) (sd : SeqAt.shaped d = true) (se : SeqAt.shaped e = true) (q : Q (.bl (PyData.eqv d e)) H) : rEqD K x y H Q := ⟨d, e, hx, hy, sd, se, q⟩
theorem st_neD {d e : PyData} (hx : Dp K H x d) (hy : Dp K H y e) (sd : SeqAt.shaped d = true) (se : SeqAt.shaped e = true) (q : Q (.bl (!PyData.eqv d e)) H) : rNeD K x y H Q := ⟨d, e, hx, hy, sd, se, q⟩
end
/-! ### seen pairs -/
abbrev pySeen (s : Nat × Int) : PyData := .tuple [.int (s.1 : Int), .int s.2]
/-! ### the plain object -/
structure PS where
  mem : List Int
  reads : List (Nat × Int)
  fetches : List (Nat × Int)
  said : List Int
def plainF (ml rl fl sl : Addr) : List (Str × V) := [("memory", .ref ml), ("reads", .ref rl), ("fetches", .ref fl), ("said", .ref sl)]
theorem lk_plain_memory {a b c d : Addr} : (plainF a b c d).lookup ("memory" : Str) = some (.ref a) := by simp [plainF, List.lookup, ofS_beq]
theorem lk_plain_reads {a b c d : Addr} : (plainF a b c d).lookup ("reads" : Str) = some (.ref b) := by simp [plainF, List.lookup, ofS_beq]
theorem lk_plain_fetches {a b c d : Addr} : (plainF a b c d).lookup ("fetches" : Str) = some (.ref c) := by simp [plainF, List.lookup, ofS_beq]
theorem lk_plain_said {a b c d : Addr} : (plainF a b c d).lookup ("said" : Str) = some (.ref d) := by simp [plainF, List.lookup, ofS_beq]
theorem lk_plain_look {a b c d : Addr} : (plainF a b c d).lookup ("look" : Str) = none := by simp [plainF, List.lookup, ofS_beq]
theorem lk_plain_does {a b c d : Addr} : (plainF a b c d).lookup ("does" : Str) = none := by simp [plainF, List.lookup, ofS_beq]
structure PlainAt (C : Addr) (H : Hp) (p dx ml rl fl sl : Addr) (S : PS) : Prop where
  ob : H p = some (.ins C dx (plainF ml rl fl sl))
  me : H ml = some (.lst (S.mem.map V.int))
  re : ∃ xs, H rl = some (.lst xs) ∧ ImL H (S.reads.map pySeen) xs
  fe : ∃ xs, H fl = some (.lst xs) ∧ ImL H (S.fetches.map pySeen) xs
  sa : H sl = some (.lst (S.said.map V.int))
  nd : [ml, rl, fl, sl].Nodup
theorem PlainAt.ex {C : Addr} {H H' : Hp} {p dx ml rl fl sl : Addr} {S : PS} (e : Ex H H') (h : PlainAt C H p dx ml rl fl sl S) : PlainAt C H' p dx ml rl fl sl S := by
  obtain ⟨x1, a1, b1⟩ := h.re
  obtain ⟨x2, a2, b2⟩ := h.fe
  exact ⟨e _ _ h.ob, e _ _ h.me, ⟨x1, e _ _ a1, b1.ex e⟩, ⟨x2, e _ _ a2, b2.ex e⟩, e _ _ h.sa, h.nd⟩
/-- what Plain's methods do -/
def PS.set (S : PS) (c : Nat) (n : Int) : PS := { S with mem := S.mem.set c n }
def PS.look (S : PS) (c : Nat) : PS := { S with reads := S.reads ++ [(c, S.mem.getD c 0)] }
def PS.move (S : PS) (m : Mv) : PS := { S with fetches := S.fetches ++ [(m.src, S.mem.getD m.src 0)], mem := S.mem.set m.dst (S.mem.getD m.src 0) }
def PS.deed (os : List Ord) (S : PS) : Deed → PS
  | .set c n => S.set c (n : Int)
  | .add c o => ((S.look c).look o).set c ((S.mem.getD c 0 + S.mem.getD o 0) % 10)
  | .say c => { S.look c with said := S.said ++ [S.mem.getD c 0] }
  | .start k => (movesOf os k).foldl PS.move S
  | _ => S
def PS.init (m : List Int) : PS := ⟨m, [], [], []⟩
def plainOf (b : Bd) : PS := b.prog.foldl (PS.deed b.ords) (PS.init b.mem)
end BC
namespace BC
open PySem PySem.Spec PyProof.Rows L2
theorem st_sT {a : String} {A B : Prop} (h : A) : if decide (Str.ofString a = Str.ofString a) = true then A else B := by
  rw [decide_eq_true rfl]
  exact iteT h
theorem st_sF {a b : String} {A B : Prop} (ne : a ≠ b) (h : B) : if decide (Str.ofString a = Str.ofString b) = true then A else B := by
  rw [decide_eq_false fun z => ne (ofS_inj.mp z)]
  exact iteF h
theorem st_oT1 {a : String} {p A B : Prop} [Decidable p] (h : A) : if decide (Str.ofString a = Str.ofString a ∨ p) = true then A else B := by
  rw [decide_eq_true (.inl rfl)]
  exact iteT h
theorem st_oT2 {a : String} {p A B : Prop} [Decidable p] (h : A) : if decide (p ∨ Str.ofString a = Str.ofString a) = true then A else B := by
  rw [decide_eq_true (.inr rfl)]
  exact iteT h
theorem st_oF {a b c : String} {A B : Prop} (n1 : a ≠ b) (n2 : a ≠ c) (h : B) : if decide (Str.ofString a = Str.ofString b ∨ Str.ofString a = Str.ofString c) = true then A else B := by
  rw [decide_eq_false fun z => z.elim (fun z => n1 (ofS_inj.mp z)) fun z => n2 (ofS_inj.mp z)]
  exact iteF h
theorem st_intS {a : String} {H : Hp} {Q : VK} (h : Q (.int 1) H) : rInt1 [.bl (decide (Str.ofString a = Str.ofString a))] H Q := .inr ⟨_, rfl, by rw [decide_eq_true rfl]; exact h⟩
theorem st_intN {a b : String} {H : Hp} {Q : VK} (n : a ≠ b) (h : Q (.int 0) H) : rInt1 [.bl (decide (Str.ofString a = Str.ofString b))] H Q := .inr ⟨_, rfl, by rw [decide_eq_false fun z => n (ofS_inj.mp z)]; exact h⟩
theorem getD_at {ns : List Int} {c : Nat} (h : c < ns.length) : ns[c]? = some (ns.getD c 0) := by
  rw [List.getD_eq_getElem?_getD, List.getElem?_eq_getElem h]
  rfl
/-! walks -/
def WalkL (K : PySem.W.Frag) (g : TG) (tb : TS) (D : Ends) (σ : L2.St) (x : V) (H1 : Hp) : Prop := ∃ a, x = .ref a ∧ (∃ xs, SqL K H1 a xs) ∧ ∃ W : Nat → Nat → L2.St → Hp → Prop, (∃ m, W 0 m σ H1) ∧ ∀ i m σ H, W i m σ H →
  ((Itl K a).stop i H ∧ D.nx σ H) ∨ ((Itl K a).go i H ∧ ∃ N : L2.St → Hp → Prop, (∀ σ' H', N σ' H' → ∃ m', m' < m ∧ W (i + 1) m' σ' H') ∧ ∀ x H', (Itl K a).yld i H x H' → g x σ H' fun σ2 H2 => tb { D with nx := N, ct := N, bk := D.nx } σ2 H2)
def WalkT (K : PySem.W.Frag) (g : TG) (tb : TS) (D : Ends) (σ : L2.St) (x : V) (H1 : Hp) : Prop := ∃ a, x = .ref a ∧ (∃ xs, SqT K H1 a xs) ∧ ∃ W : Nat → Nat → L2.St → Hp → Prop, (∃ m, W 0 m σ H1) ∧ ∀ i m σ H, W i m σ H →
  ((Itt K a).stop i H ∧ D.nx σ H) ∨ ((Itt K a).go i H ∧ ∃ N : L2.St → Hp → Prop, (∀ σ' H', N σ' H' → ∃ m', m' < m ∧ W (i + 1) m' σ' H') ∧ ∀ x H', (Itt K a).yld i H x H' → g x σ H' fun σ2 H2 => tb { D with nx := N, ct := N, bk := D.nx } σ2 H2)
def WalkR (g : TG) (tb : TS) (D : Ends) (σ : L2.St) (vs : List V) (H1 : Hp) : Prop := ∃ j : Int, vs = [.int j] ∧ -(2 ^ 62) ≤ j ∧ j < 2 ^ 62 ∧ ∃ W : Nat → Nat → L2.St → Hp → Prop, (∃ m, W 0 m σ H1) ∧ ∀ i m σ H, W i m σ H →
  ((Itr 0 j.toNat).stop i H ∧ D.nx σ H) ∨ ((Itr 0 j.toNat).go i H ∧ ∃ N : L2.St → Hp → Prop, (∀ σ' H', N σ' H' → ∃ m', m' < m ∧ W (i + 1) m' σ' H') ∧ ∀ x H', (Itr 0 j.toNat).yld i H x H' → g x σ H' fun σ2 H2 => tb { D with nx := N, ct := N, bk := D.nx } σ2 H2)
section
variable {K : PySem.W.Frag} {σ : L2.St} {H H0 H1 : Hp} {D : Ends} {te : TE} {ta : TA} {g : TG} {tb : TS} {x : V} {l : Addr} {xs : List V} {ds : List PyData}
theorem st_wL (h : te σ H fun x H1 => WalkL K g tb D σ x H1) : tFor (iList K te) g tb D σ H := h
theorem st_wT (h : te σ H fun x H1 => WalkT K g tb D σ x H1) : tFor (iTup K te) g tb D σ H := h
theorem st_wR (h : ta σ H fun vs H1 => WalkR g tb D σ vs H1) : tFor (iRng1 ta) g tb D σ H := h
theorem st_walkL (h : H l = some (.lst xs)) (Pv : Nat → L2.St → Hp → Prop) (h0 : Pv 0 σ H) (hk : ∀ m σ' H', Pv m σ' H' → H' l = some (.lst xs))
    (hs : ∀ m v σ' H', xs[m]? = some v → Pv m σ' H' → g v σ' H' fun σ2 H2 => tb { D with nx := Pv (m + 1), ct := Pv (m + 1), bk := D.nx } σ2 H2) (hd : ∀ σ' H', Pv xs.length σ' H' → D.nx σ' H') : WalkL K g tb D σ (.ref l) H :=
  ⟨l, rfl, ⟨xs, SqL.of h⟩, for_list (K := K) (a := l) (xs := xs) Pv h0 (fun m σ' H' _ p => SqL.of (hk m σ' H' p)) hs hd⟩
theorem st_walkT (h : Im H0 (.tuple ds) x) (k : Kp H0 H) (Pv : Nat → L2.St → Hp → Prop) (h0 : Pv 0 σ H) (hk : ∀ m σ' H', Pv m σ' H' → Kp H0 H')
    (hs : ∀ m d v σ' H', ds[m]? = some d → Pv m σ' H' → Im H' d v → g v σ' H' fun σ2 H2 => tb { D with nx := Pv (m + 1), ct := Pv (m + 1), bk := D.nx } σ2 H2) (hd : ∀ σ' H', Pv ds.length σ' H' → D.nx σ' H') : WalkT K g tb D σ x H := by
  obtain ⟨a, xs, rfl, h1, h2⟩ := h.tup
  refine ⟨a, rfl, ⟨xs, SqT.of (k a xs h1)⟩, for_tup (K := K) (a := a) (xs := xs) Pv h0 (fun m σ' H' _ p => SqT.of (hk m σ' H' p a xs h1)) (fun m v σ' H' hv p => ?_) fun σ' H' p => hd σ' H' (h2.length ▸ p)⟩
  obtain ⟨d, e1, e2⟩ := h2.get' hv
  exact hs m d v σ' H' e1 p (e2.kp (hk m σ' H' p))
theorem st_walkR {n : Nat} (hn : n ≤ 1000000) (Pv : Nat → L2.St → Hp → Prop) (h0 : Pv 0 σ H)
    (hs : ∀ (m : Nat) σ' H', m < n → Pv m σ' H' → g (.int (m : Int)) σ' H' fun σ2 H2 => tb { D with nx := Pv (m + 1), ct := Pv (m + 1), bk := D.nx } σ2 H2) (hd : ∀ σ' H', Pv n σ' H' → D.nx σ' H') : WalkR g tb D σ [.int (n : Int)] H := by
  refine ⟨(n : Int), rfl, by omega, by omega, for_range (lo := 0) (n := ((n : Int)).toNat) Pv h0 (fun m σ' H' hm p => ?_) (by simpa using hd)⟩
  have e0 : (0 : Int) + (m : Int) = (m : Int) := Int.zero_add _
  rw [e0]
  exact hs m σ' H' (by omega) p
end
/-! ### the plain object's changes -/
section
variable {C p dx ml rl fl sl t : Addr} {H H2 : Hp} {S : PS} {xs : List V} {c : Nat} {n : Int}
theorem PlainAt.addRead (h : PlainAt C H p dx ml rl fl sl S) (hr : H rl = some (.lst xs)) (ir : ImL H (S.reads.map pySeen) xs) (f : Fr [rl] H H2) (k : Kp H H2) (h2 : H2 rl = some (.lst (xs ++ [.ref t]))) (ht : H2 t = some (.tup [.int (c : Int), .int n])) :
    PlainAt C H2 p dx ml rl fl sl { S with reads := S.reads ++ [(c, n)] } := by
  obtain ⟨ob, me, _, ⟨x2, a2, b2⟩, sa, nd⟩ := h
  have q := nd
  simp only [List.nodup_cons, List.mem_cons, List.not_mem_nil, or_false, not_or, List.mem_singleton] at q
  refine ⟨fr1 f ob (ne_ins ob hr), fr1 f me (fun z => q.1.1 z), ⟨_, h2, ?_⟩, ⟨x2, fr1 f a2 (fun z => q.2.1.1 z.symm), b2.kp k⟩, fr1 f sa (fun z => q.2.1.2 z.symm), nd⟩
  rw [List.map_append]
  exact (ir.kp k).append (iml_cons (im_tup ht (iml_cons im_int (iml_cons im_int iml_nil))) iml_nil)
theorem PlainAt.addFetch (h : PlainAt C H p dx ml rl fl sl S) (hr : H fl = some (.lst xs)) (ir : ImL H (S.fetches.map pySeen) xs) (f : Fr [fl] H H2) (k : Kp H H2) (h2 : H2 fl = some (.lst (xs ++ [.ref t]))) (ht : H2 t = some (.tup [.int (c : Int), .int n])) :
    PlainAt C H2 p dx ml rl fl sl { S with fetches := S.fetches ++ [(c, n)] } := by
  obtain ⟨ob, me, ⟨x2, a2, b2⟩, _, sa, nd⟩ := h
  have q := nd
  simp only [List.nodup_cons, List.mem_cons, List.not_mem_nil, or_false, not_or, List.mem_singleton] at q
  refine ⟨fr1 f ob (ne_ins ob hr), fr1 f me (fun z => q.1.2.1 z), ⟨x2, fr1 f a2 (fun z => q.2.1.1 z), b2.kp k⟩, ⟨_, h2, ?_⟩, fr1 f sa (fun z => q.2.2.1 z.symm), nd⟩
  rw [List.map_append]
  exact (ir.kp k).append (iml_cons (im_tup ht (iml_cons im_int (iml_cons im_int iml_nil))) iml_nil)
theorem PlainAt.addSaid (h : PlainAt C H p dx ml rl fl sl S) (f : Fr [sl] H H2) (k : Kp H H2) (h2 : H2 sl = some (.lst (S.said.map V.int ++ [.int n]))) :
    PlainAt C H2 p dx ml rl fl sl { S with said := S.said ++ [n] } := by
  obtain ⟨ob, me, ⟨x1, a1, b1⟩, ⟨x2, a2, b2⟩, sa, nd⟩ := h
  have q := nd
  simp only [List.nodup_cons, List.mem_cons, List.not_mem_nil, or_false, not_or, List.mem_singleton] at q
  refine ⟨fr1 f ob (ne_ins ob sa), fr1 f me (fun z => q.1.2.2 z), ⟨x1, fr1 f a1 (fun z => q.2.1.2 z), b1.kp k⟩, ⟨x2, fr1 f a2 (fun z => q.2.2.1 z), b2.kp k⟩, ?_, nd⟩
  rw [List.map_append]
  exact h2
theorem PlainAt.setMem (h : PlainAt C H p dx ml rl fl sl S) (f : Fr [ml] H H2) (k : Kp H H2) (h2 : H2 ml = some (.lst ((S.mem.map V.int).set c (.int n)))) :
    PlainAt C H2 p dx ml rl fl sl { S with mem := S.mem.set c n } := by
  obtain ⟨ob, me, ⟨x1, a1, b1⟩, ⟨x2, a2, b2⟩, sa, nd⟩ := h
  have q := nd
  simp only [List.nodup_cons, List.mem_cons, List.not_mem_nil, or_false, not_or, List.mem_singleton] at q
  refine ⟨fr1 f ob (ne_ins ob me), ?_, ⟨x1, fr1 f a1 (fun z => q.1.1 z.symm), b1.kp k⟩, ⟨x2, fr1 f a2 (fun z => q.1.2.1 z.symm), b2.kp k⟩, fr1 f sa (fun z => q.1.2.2 z.symm), nd⟩
  rw [h2, List.map_set]
end
theorem PS.mem_len (os : List Ord) (S : PS) : ∀ d : Deed, (PS.deed os S d).mem.length = S.mem.length
  | .set c n => by simp [PS.deed, PS.set]
  | .add c o => by simp [PS.deed, PS.set, PS.look]
  | .say c => by simp [PS.deed, PS.look]
  | .start k => by
    show ((movesOf os k).foldl PS.move S).mem.length = S.mem.length
    generalize movesOf os k = ms
    induction ms generalizing S with
    | nil => rfl
    | cons m ms ih =>
      rw [List.foldl_cons, ih]
      simp [PS.move]
  | .wait => rfl
  | .clean _ => rfl
  | .drop _ => rfl
/-- sizes -/
structure PS.Small (n : Nat) (S : PS) : Prop where
  r : S.reads.length ≤ 40 * n
  f : S.fetches.length ≤ 40 * n
  s : S.said.length ≤ 40 * n
theorem move_sizes (ms : List Mv) : ∀ S : PS, (ms.foldl PS.move S).reads = S.reads ∧ (ms.foldl PS.move S).said = S.said ∧ (ms.foldl PS.move S).fetches.length = S.fetches.length + ms.length ∧ (ms.foldl PS.move S).mem.length = S.mem.length := by
  induction ms with
  | nil => intro S; exact ⟨rfl, rfl, rfl, rfl⟩
  | cons m ms ih =>
    intro S
    obtain ⟨h1, h2, h3, h4⟩ := ih (S.move m)
    rw [List.foldl_cons]
    refine ⟨h1.trans rfl, h2.trans rfl, ?_, ?_⟩
    · rw [h3]
      simp [PS.move]
      omega
    · rw [h4]
      simp [PS.move]
theorem PS.small_step {cells : Nat} {os : List Ord} (g : OrdsOk cells os) (h4 : os.length ≤ 4) {n : Nat} {S : PS} (h : S.Small n) : ∀ d : Deed, (PS.deed os S d).Small (n + 1)
  | .set c k => ⟨by have := h.r; simp [PS.deed, PS.set]; omega, by have := h.f; simp [PS.deed, PS.set]; omega, by have := h.s; simp [PS.deed, PS.set]; omega⟩
  | .add c o => ⟨by have := h.r; simp [PS.deed, PS.set, PS.look]; omega, by have := h.f; simp [PS.deed, PS.set, PS.look]; omega, by have := h.s; simp [PS.deed, PS.set, PS.look]; omega⟩
  | .say c => ⟨by have := h.r; simp [PS.deed, PS.look]; omega, by have := h.f; simp [PS.deed, PS.look]; omega, by have := h.s; simp [PS.deed, PS.look]; omega⟩
  | .start k => by
    obtain ⟨h1, h2, h3, _⟩ := move_sizes (movesOf os k) S
    have hl : (movesOf os k).length ≤ 8 * os.length := moves_len g _ _
    have a := h.r
    have b := h.f
    have c := h.s
    refine ⟨?_, ?_, ?_⟩
    · show ((movesOf os k).foldl PS.move S).reads.length ≤ _
      rw [h1]; omega
    · show ((movesOf os k).foldl PS.move S).fetches.length ≤ _
      rw [h3]; omega
    · show ((movesOf os k).foldl PS.move S).said.length ≤ _
      rw [h2]; omega
  | .wait => ⟨by have := h.r; simp [PS.deed]; omega, by have := h.f; simp [PS.deed]; omega, by have := h.s; simp [PS.deed]; omega⟩
  | .clean _ => ⟨by have := h.r; simp [PS.deed]; omega, by have := h.f; simp [PS.deed]; omega, by have := h.s; simp [PS.deed]; omega⟩
  | .drop _ => ⟨by have := h.r; simp [PS.deed]; omega, by have := h.f; simp [PS.deed]; omega, by have := h.s; simp [PS.deed]; omega⟩
end BC

namespace BC
open PySem PySem.Spec PyProof.Rows L2
/-- the four lists -/
structure PlainL (H : Hp) (ml rl fl sl : Addr) (S : PS) : Prop where
  me : H ml = some (.lst (S.mem.map V.int))
  re : ∃ xs, H rl = some (.lst xs) ∧ ImL H (S.reads.map pySeen) xs
  fe : ∃ xs, H fl = some (.lst xs) ∧ ImL H (S.fetches.map pySeen) xs
  sa : H sl = some (.lst (S.said.map V.int))
  nd : [ml, rl, fl, sl].Nodup
theorem PlainAt.l {C : Addr} {H : Hp} {p dx ml rl fl sl : Addr} {S : PS} (h : PlainAt C H p dx ml rl fl sl S) : PlainL H ml rl fl sl S := ⟨h.me, h.re, h.fe, h.sa, h.nd⟩
theorem PlainL.ex {H H' : Hp} {ml rl fl sl : Addr} {S : PS} (e : Ex H H') (h : PlainL H ml rl fl sl S) : PlainL H' ml rl fl sl S := by
  obtain ⟨x1, a1, b1⟩ := h.re
  obtain ⟨x2, a2, b2⟩ := h.fe
  exact ⟨e _ _ h.me, ⟨x1, e _ _ a1, b1.ex e⟩, ⟨x2, e _ _ a2, b2.ex e⟩, e _ _ h.sa, h.nd⟩
section
variable {C p dx ml rl fl sl t : Addr} {H H2 : Hp} {S : PS} {xs : List V} {c : Nat} {n : Int}
theorem PlainL.addRead (h : PlainL H ml rl fl sl S) (hr : H rl = some (.lst xs)) (ir : ImL H (S.reads.map pySeen) xs) (f : Fr [rl] H H2) (k : Kp H H2) (h2 : H2 rl = some (.lst (xs ++ [.ref t]))) (ht : H2 t = some (.tup [.int (c : Int), .int n])) :
    PlainL H2 ml rl fl sl { S with reads := S.reads ++ [(c, n)] } := by
  obtain ⟨me, _, ⟨x2, a2, b2⟩, sa, nd⟩ := h
  have q := nd
  simp only [List.nodup_cons, List.mem_cons, List.not_mem_nil, or_false, not_or, List.mem_singleton] at q
  refine ⟨fr1 f me (fun z => q.1.1 z), ⟨_, h2, ?_⟩, ⟨x2, fr1 f a2 (fun z => q.2.1.1 z.symm), b2.kp k⟩, fr1 f sa (fun z => q.2.1.2 z.symm), nd⟩
  rw [List.map_append]
  exact (ir.kp k).append (iml_cons (im_tup ht (iml_cons im_int (iml_cons im_int iml_nil))) iml_nil)
theorem PlainL.addFetch (h : PlainL H ml rl fl sl S) (hr : H fl = some (.lst xs)) (ir : ImL H (S.fetches.map pySeen) xs) (f : Fr [fl] H H2) (k : Kp H H2) (h2 : H2 fl = some (.lst (xs ++ [.ref t]))) (ht : H2 t = some (.tup [.int (c : Int), .int n])) :
    PlainL H2 ml rl fl sl { S with fetches := S.fetches ++ [(c, n)] } := by
  obtain ⟨me, ⟨x2, a2, b2⟩, _, sa, nd⟩ := h
  have q := nd
  simp only [List.nodup_cons, List.mem_cons, List.not_mem_nil, or_false, not_or, List.mem_singleton] at q
  refine ⟨fr1 f me (fun z => q.1.2.1 z), ⟨x2, fr1 f a2 (fun z => q.2.1.1 z), b2.kp k⟩, ⟨_, h2, ?_⟩, fr1 f sa (fun z => q.2.2.1 z.symm), nd⟩
  rw [List.map_append]
  exact (ir.kp k).append (iml_cons (im_tup ht (iml_cons im_int (iml_cons im_int iml_nil))) iml_nil)
theorem PlainL.addSaid (h : PlainL H ml rl fl sl S) (f : Fr [sl] H H2) (k : Kp H H2) (h2 : H2 sl = some (.lst (S.said.map V.int ++ [.int n]))) :
    PlainL H2 ml rl fl sl { S with said := S.said ++ [n] } := by
  obtain ⟨me, ⟨x1, a1, b1⟩, ⟨x2, a2, b2⟩, sa, nd⟩ := h
  have q := nd
  simp only [List.nodup_cons, List.mem_cons, List.not_mem_nil, or_false, not_or, List.mem_singleton] at q
  refine ⟨fr1 f me (fun z => q.1.2.2 z), ⟨x1, fr1 f a1 (fun z => q.2.1.2 z), b1.kp k⟩, ⟨x2, fr1 f a2 (fun z => q.2.2.1 z), b2.kp k⟩, ?_, nd⟩
  rw [List.map_append]
  exact h2
theorem PlainL.setMem (h : PlainL H ml rl fl sl S) (f : Fr [ml] H H2) (k : Kp H H2) (h2 : H2 ml = some (.lst ((S.mem.map V.int).set c (.int n)))) :
    PlainL H2 ml rl fl sl { S with mem := S.mem.set c n } := by
  obtain ⟨me, ⟨x1, a1, b1⟩, ⟨x2, a2, b2⟩, sa, nd⟩ := h
  have q := nd
  simp only [List.nodup_cons, List.mem_cons, List.not_mem_nil, or_false, not_or, List.mem_singleton] at q
  refine ⟨?_, ⟨x1, fr1 f a1 (fun z => q.1.1 z.symm), b1.kp k⟩, ⟨x2, fr1 f a2 (fun z => q.1.2.1 z.symm), b2.kp k⟩, fr1 f sa (fun z => q.1.2.2 z.symm), nd⟩
  rw [h2, List.map_set]
end

theorem plain_small {cells : Nat} {os : List Ord} (g : OrdsOk cells os) (h4 : os.length ≤ 4) : ∀ (p : List Deed) (n : Nat) (S : PS), S.Small n → (p.foldl (PS.deed os) S).Small (n + p.length)
  | [], _, _, h => h
  | d :: p, n, S, h => by
    have := plain_small g h4 p (n + 1) _ (PS.small_step g h4 h d)
    rw [List.foldl_cons, List.length_cons, show n + (p.length + 1) = n + 1 + p.length by omega]
    exact this
theorem plainOf_small {b : Bd} (g : Good b) : (plainOf b).Small 60 := by
  have h := plain_small g.ordsOk g.ords b.prog 0 (PS.init b.mem) ⟨by simp [PS.init], by simp [PS.init], by simp [PS.init]⟩
  have hl := g.len
  exact ⟨Nat.le_trans h.r (by omega), Nat.le_trans h.f (by omega), Nat.le_trans h.s (by omega)⟩
theorem plain_mem_len (os : List Ord) : ∀ (p : List Deed) (S : PS), (p.foldl (PS.deed os) S).mem.length = S.mem.length
  | [], _ => rfl
  | d :: p, S => by
    rw [List.foldl_cons, plain_mem_len os p, PS.mem_len]
theorem im_ints {H : Hp} {t : Addr} {ns : List Int} (h : H t = some (.tup (ns.map V.int))) : Im H (pyMem ns) (.ref t) := im_tup h (ImL.ints.mpr rfl)
theorem putF_nil {f : Str} {v : V} : putF f v [] = [(f, v)] := rfl
end BC
/-! BCLc: comprehensions, shapes, isinstance, the box of draws. -/
namespace BC
open PySem PySem.Spec PyProof.Rows L2
/-! ### comprehensions -/
/-- the turns of a comprehension over what J gives -/
def LcT (J : It) (g : TG) (tt : TT) (te : TE) (own : List Nat) (σ : L2.St) (H0 : Hp) (Q : VK) : Prop :=
  ∀ D, H0 D = none → ∃ W : Nat → Nat → Hp → Prop, (∃ m, W 0 m (upd H0 D (.lst []))) ∧ ∀ i m Hi, W i m Hi →
    (J.stop i Hi ∧ Q (.ref D) Hi) ∨
    (J.go i Hi ∧ ∃ Nx : Hp → Prop, (∀ Hj, Nx Hj → ∃ k, k < m ∧ W (i + 1) k Hj) ∧ ∀ x Hj, J.yld i Hi x Hj →
      g x (wipe σ own) Hj fun σ2 H2 => wipe σ2 own = wipe σ own ∧ tt σ2 H2 fun b H3 =>
        if b = true then te σ2 H3 fun y H4 => ∃ acc, H4 D = some (.lst acc) ∧ acc.length < sizeLine ∧ Nx (upd H4 D (.lst (acc ++ [y])))
        else Nx H3)
def LcR (g : TG) (tt : TT) (te : TE) (vs : List Nat) (σ : L2.St) (us : List V) (H1 : Hp) (Q : VK) : Prop := ∃ j : Int, us = [.int j] ∧ -(2 ^ 62) ≤ j ∧ j < 2 ^ 62 ∧ LcT (Itr 0 j.toNat) g tt te vs σ H1 Q
def LcL (K : PySem.W.Frag) (g : TG) (tt : TT) (te : TE) (vs : List Nat) (σ : L2.St) (x : V) (H1 : Hp) (Q : VK) : Prop := ∃ a, x = .ref a ∧ (∃ xs, SqL K H1 a xs) ∧ LcT (Itl K a) g tt te vs σ H1 Q
def LcU (K : PySem.W.Frag) (g : TG) (tt : TT) (te : TE) (vs : List Nat) (σ : L2.St) (x : V) (H1 : Hp) (Q : VK) : Prop := ∃ a, x = .ref a ∧ (∃ xs, SqT K H1 a xs) ∧ LcT (Itt K a) g tt te vs σ H1 Q
section
variable {K : PySem.W.Frag} {σ : L2.St} {H H0 H1 : Hp} {Q : VK} {te tl : TE} {ta : TA} {g : TG} {tt : TT} {own : List Nat} {x : V} {l : Addr} {xs : List V} {ds : List PyData}
theorem st_lcR (h : ta σ H fun us H1 => LcR g tt te own σ us H1 Q) : tLc (iRng1 ta) g tt te own σ H Q := h
theorem st_lcL (h : tl σ H fun x H1 => LcL K g tt te own σ x H1 Q) : tLc (iList K tl) g tt te own σ H Q := h
theorem st_lcU (h : tl σ H fun x H1 => LcU K g tt te own σ x H1 Q) : tLc (iTup K tl) g tt te own σ H Q := h
/-- the new list at D gets y -/
def LcPut (D : Addr) (Nx : Hp → Prop) (y : V) (H4 : Hp) : Prop := ∃ acc, H4 D = some (.lst acc) ∧ acc.length < sizeLine ∧ Nx (upd H4 D (.lst (acc ++ [y])))
theorem st_lcPut {D : Addr} {Nx : Hp → Prop} {y : V} {acc : List V} (h : H D = some (.lst acc)) (hl : acc.length < 100000) (q : ∀ H5, Fr [D] H H5 → Kp H H5 → H5 D = some (.lst (acc ++ [y])) → Nx H5) : LcPut D Nx y H :=
  ⟨acc, h, sz_lt hl, q _ (Fr.mut (List.mem_singleton.mpr rfl) (Fr.refl _ _)) (Kp.mut (nt_of h trivial) (Kp.refl _)) upd_same⟩
/-- a turn of a comprehension: x is given; Nx is wanted behind it -/
abbrev LcTurn (g : TG) (tt : TT) (te : TE) (own : List Nat) (σ : L2.St) (D : Addr) (x : V) (H : Hp) (Nx : Hp → Prop) : Prop :=
  g x (wipe σ own) H fun σ2 H2 => wipe σ2 own = wipe σ own ∧ tt σ2 H2 fun b H3 => if b = true then te σ2 H3 fun y H4 => LcPut D Nx y H4 else Nx H3
theorem st_lcRange {n : Nat} (hn : n ≤ 1000000) (k : ∀ D H2, H1 D = none → Ex H1 H2 → H2 D = some (.lst []) → ∃ Pv : Nat → Hp → Prop, Pv 0 H2 ∧ (∀ (i : Nat) H, i < n → Pv i H → LcTurn g tt te own σ D (.int (i : Int)) H (Pv (i + 1))) ∧ ∀ H, Pv n H → Q (.ref D) H) :
    LcR g tt te own σ [.int (n : Int)] H1 Q := by
  refine ⟨(n : Int), rfl, by omega, by omega, fun D hD => ?_⟩
  obtain ⟨Pv, h0, hs, hd⟩ := k D _ hD (Ex.new hD) upd_same
  refine lc_range (lo := 0) (n := ((n : Int)).toNat) Pv h0 (fun i H hi p => ?_) (by simpa using hd)
  have e0 : (0 : Int) + (i : Int) = (i : Int) := Int.zero_add _
  rw [e0]
  exact hs i H (by omega) p
theorem st_lcList (h : SqL K H1 l xs) (k : ∀ D H2, H1 D = none → Ex H1 H2 → H2 D = some (.lst []) → ∃ Pv : Nat → Hp → Prop, Pv 0 H2 ∧ (∀ i H, Pv i H → SqL K H l xs) ∧ (∀ (i : Nat) v H, xs[i]? = some v → Pv i H → LcTurn g tt te own σ D v H (Pv (i + 1))) ∧ ∀ H, Pv xs.length H → Q (.ref D) H) :
    LcL K g tt te own σ (.ref l) H1 Q := by
  refine ⟨l, rfl, ⟨xs, h⟩, fun D hD => ?_⟩
  obtain ⟨Pv, h0, hk, hs, hd⟩ := k D _ hD (Ex.new hD) upd_same
  exact lc_list (K := K) (a := l) (xs := xs) Pv h0 (fun i H _ p => hk i H p) (fun i v H hv p => hs i v H hv p) hd
theorem st_lcTup (h : Im H0 (.tuple ds) x) (k0 : Kp H0 H1) (k : ∀ D H2, H1 D = none → Ex H1 H2 → H2 D = some (.lst []) → ∃ Pv : Nat → Hp → Prop, Pv 0 H2 ∧ (∀ i H, Pv i H → Kp H0 H) ∧ (∀ (i : Nat) d v H, ds[i]? = some d → Im H d v → Pv i H → LcTurn g tt te own σ D v H (Pv (i + 1))) ∧ ∀ H, Pv ds.length H → Q (.ref D) H) :
    LcU K g tt te own σ x H1 Q := by
  obtain ⟨a, xs, rfl, h1, h2⟩ := h.tup
  refine ⟨a, rfl, ⟨xs, SqT.of (k0 a xs h1)⟩, fun D hD => ?_⟩
  obtain ⟨Pv, p0, hk, hs, hd⟩ := k D _ hD (Ex.new hD) upd_same
  refine lc_tup (K := K) (a := a) (xs := xs) Pv p0 (fun i H _ p => SqT.of (hk i H p a xs h1)) (fun i v H hv p => ?_) (fun H p => hd H (h2.length ▸ p))
  obtain ⟨d, e1, e2⟩ := h2.get' hv
  exact hs i d v H e1 (e2.kp (hk i H p)) p
theorem ex_l {a : Addr} (e : Ex H H1) (h : SqL K H a xs) : SqL K H1 a xs := by
  rcases h with (h | ⟨o, h⟩) | h
  · exact Or.inl (.inl (e a _ h))
  · exact Or.inl (.inr ⟨o, e a _ h⟩)
  · exact Or.inr h
theorem st_walkLS {D : Ends} {tb : TS} (h : SqL K H l xs) (Pv : Nat → L2.St → Hp → Prop) (h0 : Pv 0 σ H) (hk : ∀ m σ' H', Pv m σ' H' → SqL K H' l xs)
    (hs : ∀ m v σ' H', xs[m]? = some v → Pv m σ' H' → g v σ' H' fun σ2 H2 => tb { D with nx := Pv (m + 1), ct := Pv (m + 1), bk := D.nx } σ2 H2) (hd : ∀ σ' H', Pv xs.length σ' H' → D.nx σ' H') : WalkL K g tb D σ (.ref l) H :=
  ⟨l, rfl, ⟨xs, h⟩, for_list (K := K) (a := l) (xs := xs) Pv h0 (fun m σ' H' _ p => hk m σ' H' p) hs hd⟩
theorem st_listS (h : SqL K H l xs) (q : ∀ a H2, H a = none → Ex H H2 → H2 a = some (.lst xs) → Q (.ref a) H2) : rListOf K [.ref l] H Q := ⟨l, xs, rfl, .inl h, fun a ha => q a _ ha (Ex.new ha) upd_same⟩
theorem st_lenS (h : SqL K H l xs) (q : Q (.int xs.length) H) : rLenS K [.ref l] H Q := ⟨l, xs, rfl, .inl h, q⟩
theorem st_fdivW {i j : Int} {f : Int → Int → V} (c : 0 < j ∧ j.natAbs.log2 < 9000) (h : Q (f i j) H) : rI CDivW f (.int i) (.int j) H Q := ⟨i, j, rfl, rfl, c, h⟩
theorem st_popAt0 {x : V} {r : List V} (h : H l = some (.lst (x :: r))) (q : ∀ H2, Fr [l] H H2 → Kp H H2 → H2 l = some (.lst r) → Q x H2) : rPopAt (.ref l) [.int 0] H Q := by
  refine ⟨l, x :: r, 0, 0, x, rfl, rfl, h, by decide, by decide, ?_, rfl, ?_⟩
  · rw [seqIndex_of (by omega) (by simp only [List.length_cons]; omega)]
    rfl
  · exact q _ (Fr.mut (List.mem_singleton.mpr rfl) (Fr.refl _ _)) (Kp.mut (nt_of h trivial) (Kp.refl _)) upd_same
end
section
variable {H : Hp} {Q : VK} {l : Addr} {xs : List V}
theorem st_clear (h : H l = some (.lst xs)) (q : ∀ H2, Fr [l] H H2 → Kp H H2 → H2 l = some (.lst []) → Q .non H2) : rClear (.ref l) [] H Q :=
  ⟨l, xs, rfl, rfl, h, q _ (Fr.mut (List.mem_singleton.mpr rfl) (Fr.refl _ _)) (Kp.mut (nt_of h trivial) (Kp.refl _)) upd_same⟩
end
theorem ix01 {b : Bool} {x y : V} : atI [x, y] (if b = true then 1 else 0) = some (if b = true then y else x) := by
  cases b with
  | true => exact atI_nat (j := 1) rfl
  | false => exact atI_nat (j := 0) rfl
/-! ### shapes -/
def Sh (n : Nat) (d : PyData) : Prop := d.canLay0 = true ∧ d.depth ≤ n
theorem Sh.shaped {n : Nat} {d : PyData} (h : Sh n d) (hn : n ≤ 64 := by decide) : SeqAt.shaped d = true := by
  unfold SeqAt.shaped
  rw [h.1, Bool.true_and, decide_eq_true_eq]
  exact Nat.le_trans h.2 hn
theorem sh_int {n : Nat} {i : Int} : Sh n (.int i) := ⟨rfl, Nat.zero_le _⟩
theorem sh_none {n : Nat} : Sh n .none := ⟨rfl, Nat.zero_le _⟩
theorem sh_bool {n : Nat} {b : Bool} : Sh n (.bool b) := ⟨rfl, Nat.zero_le _⟩
theorem sh_str {n : Nat} {s : Str} (h : PyData.strOk s = true) : Sh n (.str s) := ⟨h, Nat.zero_le _⟩
theorem sh_all {n : Nat} : ∀ {ds : List PyData}, (∀ d ∈ ds, Sh n d) → PyData.canLayAll0 ds = true ∧ PyData.depthAll ds ≤ n
  | [], _ => ⟨rfl, Nat.zero_le _⟩
  | d :: ds, h => by
    obtain ⟨h1, h2⟩ := h d List.mem_cons_self
    obtain ⟨h3, h4⟩ := sh_all (ds := ds) fun e he => h e (List.mem_cons_of_mem _ he)
    refine ⟨?_, ?_⟩
    · show (d.canLay0 && PyData.canLayAll0 ds) = true
      rw [h1, h3]
      rfl
    · show max d.depth (PyData.depthAll ds) ≤ n
      exact Nat.max_le.mpr ⟨h2, h4⟩
theorem sh_tup {n : Nat} {ds : List PyData} (h : ∀ d ∈ ds, Sh n d) : Sh (n + 1) (.tuple ds) := by
  obtain ⟨h1, h2⟩ := sh_all h
  exact ⟨h1, Nat.succ_le_succ h2⟩
theorem sh_lst {n : Nat} {ds : List PyData} (h : ∀ d ∈ ds, Sh n d) : Sh (n + 1) (.list ds) := by
  obtain ⟨h1, h2⟩ := sh_all h
  exact ⟨h1, Nat.succ_le_succ h2⟩
theorem sh_opt {n : Nat} {o : Option Int} : Sh n (pyOpt o) := by
  cases o with
  | none => exact sh_none
  | some i => exact sh_int
theorem sh_ints {n : Nat} {ns : List Int} : ∀ d ∈ ns.map PyData.int, Sh n d := fun d hd => by
  obtain ⟨i, _, rfl⟩ := List.mem_map.mp hd
  exact sh_int
/-- equal data -/
theorem eqv_same {n : Nat} {d : PyData} (h : Sh n d) : PyData.eqv d d = true := SeqAt.eqv_refl d h.1
/-! ### isinstance, items of any data -/
def tyN : PyData → String
  | .none => "NoneType"
  | .bool _ => "bool"
  | .int _ => "int"
  | .str _ => "str"
  | .list _ => "list"
  | .tuple _ => "tuple"
  | .dict _ => "dict"
section
variable {K : PySem.W.Frag} {H : Hp} {Q : VK} {v x : V} {d e : PyData} {ds : List PyData} {i : Int}
theorem Dp.ty (h : Dp K H v d) : TyX K H v (.type (tyN d)) := by
  cases h with
  | non => exact .base .non
  | bl b => exact .base (.bl b)
  | int i => exact .base (.int i)
  | str s => exact .base (.str s)
  | lst h _ =>
    rcases h with (h | ⟨o, h⟩) | ⟨o, its, n, h1, h2, _⟩
    · exact .base (.lst h)
    · exact .base (.frz h)
    · exact .kList h1 h2
  | tup h _ =>
    rcases h with (h | ⟨o, h⟩) | ⟨o, its, n, h1, h2, _⟩
    · exact .base (.tup h)
    · exact .fTuple h
    · exact .kTuple h1 h2
theorem st_isi {T : String} {b : Bool} (h : Dp K H x d) (e : kitB (tyN d) T = some b) (q : Q (.bl b) H) : rIsi K [x, .ty T] H Q := ⟨x, _, _, _, b, rfl, .ty T, Dp.ty h, kit_ty e, q⟩
theorem DpAll.length : ∀ {vs : List V} {ds : List PyData}, DpAll K H vs ds → vs.length = ds.length
  | _, _, .nil => rfl
  | _, _, .cons _ r => by rw [List.length_cons, List.length_cons, DpAll.length r]
theorem DpAll.get : ∀ {vs : List V} {ds : List PyData} {i : Nat} {d : PyData}, DpAll K H vs ds → ds[i]? = some d → ∃ v, vs[i]? = some v ∧ Dp K H v d
  | _, _, _, _, .nil, e => by simp at e
  | _, _, 0, _, .cons h _, e => by
    simp at e
    subst e
    exact ⟨_, by simp, h⟩
  | _, _, i + 1, _, .cons _ r, e => by
    obtain ⟨v, g1, g2⟩ := DpAll.get (i := i) r (by simpa using e)
    exact ⟨v, by simpa using g1, g2⟩
theorem Dp.lst_inv (h : Dp K H v (.list ds)) : ∃ a xs, v = .ref a ∧ SqL K H a xs ∧ DpAll K H xs ds := by
  cases h with
  | lst h1 h2 => exact ⟨_, _, rfl, h1, h2⟩
theorem Dp.tup_inv (h : Dp K H v (.tuple ds)) : ∃ a xs, v = .ref a ∧ SqT K H a xs ∧ DpAll K H xs ds := by
  cases h with
  | tup h1 h2 => exact ⟨_, _, rfl, h1, h2⟩
/-- a list or a tuple -/
def Seqs (d : PyData) (ds : List PyData) : Prop := d = .list ds ∨ d = .tuple ds
theorem st_ixD {j : Nat} (h : Dp K H x d) (s : Seqs d ds) (g : ds[j]? = some e) (q : ∀ v, Dp K H v e → Q v H) : rIx K x (.int (j : Int)) H Q := by
  rcases s with rfl | rfl
  · obtain ⟨a, xs, rfl, h1, h2⟩ := Dp.lst_inv h
    obtain ⟨v, g1, g2⟩ := DpAll.get h2 g
    exact .inl ⟨a, xs, j, v, rfl, rfl, h1, atI_nat g1, q v g2⟩
  · obtain ⟨a, xs, rfl, h1, h2⟩ := Dp.tup_inv h
    obtain ⟨v, g1, g2⟩ := DpAll.get h2 g
    exact .inr (.inl ⟨a, xs, j, v, rfl, rfl, h1, atI_nat g1, q v g2⟩)
theorem st_lenD (h : Dp K H x d) (s : Seqs d ds) (q : Q (.int (ds.length : Int)) H) : rLenS K [x] H Q := by
  rcases s with rfl | rfl
  · obtain ⟨a, xs, rfl, h1, h2⟩ := Dp.lst_inv h
    exact ⟨a, xs, rfl, .inl h1, by rw [DpAll.length h2]; exact q⟩
  · obtain ⟨a, xs, rfl, h1, h2⟩ := Dp.tup_inv h
    exact ⟨a, xs, rfl, .inr h1, by rw [DpAll.length h2]; exact q⟩
end
theorem kb_NoneType_bool : kitB "NoneType" "bool" = some false := by decide +kernel
theorem kb_NoneType_int : kitB "NoneType" "int" = some false := by decide +kernel
theorem kb_NoneType_str : kitB "NoneType" "str" = some false := by decide +kernel
theorem kb_NoneType_tuple : kitB "NoneType" "tuple" = some false := by decide +kernel
theorem kb_NoneType_list : kitB "NoneType" "list" = some false := by decide +kernel
theorem kb_bool_bool : kitB "bool" "bool" = some true := by decide +kernel
theorem kb_bool_int : kitB "bool" "int" = some true := by decide +kernel
theorem kb_bool_str : kitB "bool" "str" = some false := by decide +kernel
theorem kb_bool_tuple : kitB "bool" "tuple" = some false := by decide +kernel
theorem kb_bool_list : kitB "bool" "list" = some false := by decide +kernel
theorem kb_int_bool : kitB "int" "bool" = some false := by decide +kernel
theorem kb_int_int : kitB "int" "int" = some true := by decide +kernel
theorem kb_int_str : kitB "int" "str" = some false := by decide +kernel
theorem kb_int_tuple : kitB "int" "tuple" = some false := by decide +kernel
theorem kb_int_list : kitB "int" "list" = some false := by decide +kernel
theorem kb_str_bool : kitB "str" "bool" = some false := by decide +kernel
theorem kb_str_int : kitB "str" "int" = some false := by decide +kernel
theorem kb_str_str : kitB "str" "str" = some true := by decide +kernel
theorem kb_str_tuple : kitB "str" "tuple" = some false := by decide +kernel
theorem kb_str_list : kitB "str" "list" = some false := by decide +kernel
theorem kb_list_bool : kitB "list" "bool" = some false := by decide +kernel
theorem kb_list_int : kitB "list" "int" = some false := by decide +kernel
theorem kb_list_str : kitB "list" "str" = some false := by decide +kernel
theorem kb_list_tuple : kitB "list" "tuple" = some false := by decide +kernel
theorem kb_list_list : kitB "list" "list" = some true := by decide +kernel
theorem kb_tuple_bool : kitB "tuple" "bool" = some false := by decide +kernel
theorem kb_tuple_int : kitB "tuple" "int" = some false := by decide +kernel
theorem kb_tuple_str : kitB "tuple" "str" = some false := by decide +kernel
theorem kb_tuple_tuple : kitB "tuple" "tuple" = some true := by decide +kernel
theorem kb_tuple_list : kitB "tuple" "list" = some false := by decide +kernel
/-- what _law_alike goes through: lists and tuples of this depth -/
def Al : Nat → PyData → Prop
  | 0, d => d = .none ∨ (∃ b, d = .bool b) ∨ (∃ i, d = .int i) ∨ ∃ s, d = .str s ∧ PyData.strOk s = true
  | n + 1, d => (d = .none ∨ (∃ b, d = .bool b) ∨ (∃ i, d = .int i) ∨ ∃ s, d = .str s ∧ PyData.strOk s = true) ∨ ∃ ds, Seqs d ds ∧ ds.length ≤ 1000000 ∧ ∀ e ∈ ds, Al n e
theorem al_int {n : Nat} {i : Int} : Al n (.int i) := by cases n <;> simp [Al]
theorem al_none {n : Nat} : Al n .none := by cases n <;> simp [Al]
theorem al_bool {n : Nat} {b : Bool} : Al n (.bool b) := by cases n <;> simp [Al]
theorem al_str {n : Nat} {s : Str} (h : PyData.strOk s = true) : Al n (.str s) := by cases n <;> simp [Al, h]
theorem al_tup {n : Nat} {ds : List PyData} (hl : ds.length ≤ 1000000) (h : ∀ e ∈ ds, Al n e) : Al (n + 1) (.tuple ds) := .inr ⟨ds, .inr rfl, hl, h⟩
theorem al_lst {n : Nat} {ds : List PyData} (hl : ds.length ≤ 1000000) (h : ∀ e ∈ ds, Al n e) : Al (n + 1) (.list ds) := .inr ⟨ds, .inl rfl, hl, h⟩
theorem al_opt {n : Nat} {o : Option Int} : Al n (pyOpt o) := by
  cases o with
  | none => exact al_none
  | some i => exact al_int
theorem al_ints {n : Nat} {ns : List Int} : ∀ d ∈ ns.map PyData.int, Al n d := fun d hd => by
  obtain ⟨i, _, rfl⟩ := List.mem_map.mp hd
  exact al_int
theorem al_mono : ∀ {n m : Nat} {d : PyData}, n ≤ m → Al n d → Al m d
  | 0, 0, _, _, h => h
  | 0, m + 1, _, _, h => .inl h
  | n + 1, 0, _, hn, _ => absurd hn (by omega)
  | n + 1, m + 1, _, hn, h => by
    rcases h with h | ⟨ds, h1, h2, h3⟩
    · exact .inl h
    · exact .inr ⟨ds, h1, h2, fun e he => al_mono (by omega) (h3 e he)⟩
/-! ### the box of draws -/
/-- the box: its list of numbers stands at l -/
structure BoxAt (H : Hp) (b l : Addr) : Prop where
  box : ∃ st : Int, H b = some (.lst [.ref l, .int st]) ∧ 0 ≤ st ∧ st < 2147483647
  nums : ∃ ns : List Int, H l = some (.lst (ns.map V.int))
theorem BoxAt.ne {H : Hp} {b l : Addr} (h : BoxAt H b l) : b ≠ l := by
  obtain ⟨st, h1, _⟩ := h.box
  obtain ⟨ns, h2⟩ := h.nums
  refine ne_of h1 h2 fun z => ?_
  injection z with z
  cases ns with
  | nil => cases z
  | cons n ns => cases z
theorem BoxAt.keep {H H' : Hp} {b l : Addr} {F : List Addr} (h : BoxAt H b l) (f : Fr F H H') (h1 : b ∉ F) (h2 : l ∉ F) : BoxAt H' b l := by
  obtain ⟨st, a, r⟩ := h.box
  obtain ⟨ns, c⟩ := h.nums
  exact ⟨⟨st, f b _ a h1, r⟩, ⟨ns, f l _ c h2⟩⟩
theorem BoxAt.ex {H H' : Hp} {b l : Addr} (h : BoxAt H b l) (e : Ex H H') : BoxAt H' b l := h.keep (F := []) e.fr (by simp) (by simp)
/-- what a draw changes -/
def Dr (b l : Addr) (H H' : Hp) : Prop := Fr [b, l] H H' ∧ Kp H H' ∧ BoxAt H' b l
theorem Dr.trans {b l : Addr} {H H1 H2 : Hp} (a : Dr b l H H1) (c : Dr b l H1 H2) : Dr b l H H2 := ⟨a.1.trans c.1, a.2.1.trans c.2.1, c.2.2⟩
theorem Dr.ex {b l : Addr} {H H1 H2 : Hp} (a : Dr b l H H1) (e : Ex H1 H2) : Dr b l H H2 := ⟨a.1.trans e.fr, a.2.1.trans e.kp, a.2.2.ex e⟩
theorem Dr.put {b l D : Addr} {H H1 H2 : Hp} (h0 : BoxAt H b l) (a : Dr b l H H1) (nD : H D = none) (f : Fr [D] H1 H2) (k : Kp H1 H2) : Dr b l H H2 := by
  have hb : b ≠ D := fun z => by
    obtain ⟨st, h, _⟩ := h0.box
    rw [z, nD] at h
    cases h
  have hl : l ≠ D := fun z => by
    obtain ⟨ns, h⟩ := h0.nums
    rw [z, nD] at h
    cases h
  refine ⟨fun c o hc n => ?_, a.2.1.trans k, a.2.2.keep f (by simpa using hb) (by simpa using hl)⟩
  have : c ≠ D := fun z => by
    rw [z, nD] at hc
    cases hc
  exact f c o (a.1 c o hc n) (by simpa using this)
theorem Dr.start {b l : Addr} {H : Hp} (h : BoxAt H b l) : Dr b l H H := ⟨Fr.refl _ _, Kp.refl _, h⟩
end BC
/-! BCMS: the machine as plain data: what each of its methods does, and the law's own the same. -/
namespace BC
open PySem PySem.Spec PyProof.Rows L2
abbrev Row := Nat × Str × Nat × Int
abbrev pyRow (r : Row) : PyData := .tuple [.int (r.1 : Int), .str r.2.1, .int (r.2.2.1 : Int), .int r.2.2.2]
abbrev HE := Nat × List Int × Bool
def hget : List HE → Nat → Option (List Int × Bool)
  | [], _ => none
  | e :: r, l => if e.1 = l then some e.2 else hget r l
def hset (es : List HE) (l : Nat) (v : List Int × Bool) : List HE := es.map fun e => if e.1 = l then (l, v) else e
def hdel (es : List HE) (l : Nat) : List HE := es.filter fun e => decide (e.1 ≠ l)
structure MS where
  mem : List Int
  held : List HE
  left : List Mv
  at_ : Nat
  beats : Nat
  rows : List Row
  idle : Bool
  nr : Nat
  nf : Nat
namespace MS
def note (M : MS) (w : Str) (p : Nat) (n : Int) : MS := { M with rows := M.rows ++ [(M.beats, w, p, n)] }
def take (M : MS) (l : Nat) : MS := match hget M.held l with
  | some _ => M
  | none => ({ M with held := M.held ++ [(l, (M.mem.drop (4 * l)).take 4, false)] } : MS).note "take" l 0
def cells (M : MS) (l : Nat) : List Int := match hget M.held l with
  | some (c, _) => c
  | none => []
def val (M : MS) (c : Nat) : Int := ((M.take (c / 4)).cells (c / 4)).getD (c % 4) 0
def read (M : MS) (c : Nat) : MS := (M.take (c / 4)).note "read" c (M.val c)
def put (M : MS) (l : Nat) (v : List Int × Bool) : MS := { M with held := hset M.held l v }
def write (M : MS) (c : Nat) (n : Int) : MS := ((M.take (c / 4)).put (c / 4) (((M.take (c / 4)).cells (c / 4)).set (c % 4) n, true)).note "write" c n
def clean (M : MS) (l : Nat) : MS := match hget M.held l with
  | some (cs, true) => ({ M with mem := M.mem.take (4 * l) ++ cs ++ M.mem.drop (4 * l + 4), held := hset M.held l (cs, false) } : MS).note "clean" l 0
  | _ => M
def drop (M : MS) (l : Nat) : MS := match hget M.held l with
  | some _ => ({ M with held := hdel M.held l } : MS).note "drop" l 0
  | none => M
def isIdle (prog : List Deed) (M : MS) : Bool := decide (prog.length ≤ M.at_) || (decide (prog[M.at_]? = some .wait) && !M.left.isEmpty)
def deed (os : List Ord) (M : MS) : Deed → MS
  | .set c n => M.write c (n : Int)
  | .add c o => ((M.read c).read o).write c ((M.val c + (M.read c).val o) % 10)
  | .say c => (M.read c).note "say" c (M.val c)
  | .start k => ({ M with left := M.left ++ movesOf os k } : MS).note "start" k 0
  | .wait => M
  | .clean l => M.clean l
  | .drop l => M.drop l
def process (b : Bd) (M : MS) : MS := if M.isIdle b.prog = true then { M with idle := true } else match b.prog[M.at_]? with
  | some d => ({ M with idle := false, at_ := M.at_ + 1 } : MS).deed b.ords d
  | none => M
def bell (M : MS) : Option Nat → MS
  | none => M
  | some k => M.note "bell" k 0
def carry (M : MS) : MS := match M.left with
  | [] => M
  | m :: r => (({ (({ M with left := r } : MS).note "fetch" m.src (M.mem.getD m.src 0)) with mem := M.mem.set m.dst (M.mem.getD m.src 0) } : MS).note "put" m.dst (M.mem.getD m.src 0)).bell m.bell
def mayRest (M : MS) : Bool := !M.left.isEmpty && !M.idle
def over (b : Bd) (M : MS) : Bool := decide (b.prog.length ≤ M.at_) && M.left.isEmpty
def finish (M : MS) : MS := (List.range 4).foldl MS.clean M
def init (b : Bd) : MS := ⟨b.mem, [], [], 0, 0, [], false, 0, 0⟩
/-- whether it moves, and the pace that is left -/
def pick (M : MS) (pace : List Bool) : Bool × List Bool := if M.mayRest = true then (match pace with | [] => (true, []) | x :: r => (x, r)) else (true, pace)
def moved (M : MS) (mv : Bool) : MS := if mv = true then M.carry else M
def tick (M : MS) : MS := { M with beats := M.beats + 1 }
def beat (b : Bd) (M : MS) (pace : List Bool) : MS := ((M.process b).moved ((M.process b).pick pace).1).tick
def run (b : Bd) : Nat → MS → List Bool → MS
  | 0, M, _ => M
  | n + 1, M, pace => if M.over b = true then M else run b n (M.beat b pace) ((M.process b).pick pace).2
def fuel (b : Bd) (M : MS) : Nat := (b.prog.length - M.at_) * 33 + M.left.length
end MS
def goneOf (b : Bd) (pace : List Bool) : MS := (MS.run b 1980 (MS.init b) pace).finish

theorem nodup_bound : ∀ (n : Nat) (xs : List Nat), xs.Nodup → (∀ x ∈ xs, x < n) → xs.length ≤ n
  | 0, xs, _, h => by
    cases xs with
    | nil => exact Nat.le_refl _
    | cons x r => exact absurd (h x List.mem_cons_self) (Nat.not_lt_zero _)
  | n + 1, xs, nd, h => by
    by_cases hn : n ∈ xs
    · have h1 := nodup_bound n (xs.erase n) (nd.erase n) fun x hx => by
        have h2 := (nd.mem_erase_iff).mp hx
        have h3 := h x h2.2
        have h4 := h2.1
        omega
      rw [List.length_erase_of_mem hn] at h1
      omega
    · have h1 := nodup_bound n xs nd fun x hx => by
        have h3 := h x hx
        have h4 : x ≠ n := fun z => hn (z ▸ hx)
        omega
      omega
theorem splice_set {m cs : List Int} {a i : Nat} (h : a + cs.length ≤ m.length) (hi : i < cs.length) : (m.take a ++ cs.take i ++ m.drop (a + i)).set (a + i) (cs.getD i 0) = m.take a ++ cs.take (i + 1) ++ m.drop (a + (i + 1)) := by
  have l : (m.take a ++ cs.take i).length = a + i := by
    rw [List.length_append, List.length_take, List.length_take]
    omega
  have hm : a + i < m.length := by omega
  rw [List.set_append_right _ _ (Nat.le_of_eq l), l, Nat.sub_self, List.drop_eq_getElem_cons hm, List.set_cons_zero, List.take_add_one, List.getElem?_eq_getElem hi, List.getD_eq_getElem?_getD, List.getElem?_eq_getElem hi]
  show m.take a ++ cs.take i ++ cs[i] :: m.drop (a + i + 1) = m.take a ++ (cs.take i ++ [cs[i]]) ++ m.drop (a + i + 1)
  rw [List.append_assoc, List.append_assoc, List.append_assoc]
  rfl
/-! ### laws of the held lines -/
theorem hget_append {es : List HE} {l k : Nat} {v : List Int × Bool} (h : hget es l = none) : hget (es ++ [(l, v)]) k = if k = l then some v else hget es k := by
  induction es with
  | nil =>
    show (if l = k then some v else none) = _
    by_cases e : k = l
    · rw [if_pos e, if_pos e.symm]
    · rw [if_neg e, if_neg (fun z => e z.symm)]
      rfl
  | cons e r ih =>
    show (if e.1 = k then some e.2 else hget (r ++ [(l, v)]) k) = _
    have h' : (if e.1 = l then some e.2 else hget r l) = none := h
    by_cases e1 : e.1 = l
    · rw [if_pos e1] at h'
      cases h'
    · rw [if_neg e1] at h'
      rw [ih h']
      by_cases e2 : e.1 = k
      · rw [if_pos e2, if_neg (fun z => e1 (e2.trans z))]
        show _ = if e.1 = k then some e.2 else hget r k
        rw [if_pos e2]
      · rw [if_neg e2]
        show _ = if k = l then some v else if e.1 = k then some e.2 else hget r k
        rw [if_neg e2]
theorem hget_set {es : List HE} {l k : Nat} {v : List Int × Bool} : hget (hset es l v) k = if k = l then (hget es l).map fun _ => v else hget es k := by
  induction es with
  | nil => simp [hset, hget]
  | cons e r ih =>
    have ih' : hget (r.map fun e => if e.1 = l then (l, v) else e) k = if k = l then (hget r l).map fun _ => v else hget r k := ih
    show hget ((if e.1 = l then (l, v) else e) :: r.map fun e => if e.1 = l then (l, v) else e) k = _
    by_cases e1 : e.1 = l
    · rw [if_pos e1]
      show (if l = k then some v else _) = _
      by_cases e2 : k = l
      · rw [if_pos e2.symm, if_pos e2]
        simp [hget, e1]
      · rw [if_neg (fun z => e2 z.symm), if_neg e2, ih', if_neg e2]
        simp [hget, e1, Ne.symm e2]
    · rw [if_neg e1]
      show (if e.1 = k then some e.2 else _) = _
      rw [ih']
      by_cases e2 : k = l
      · rw [if_neg (fun z => e1 (z.trans e2)), if_pos e2, if_pos e2]
        simp [hget, e1]
      · rw [if_neg e2, if_neg e2]
        rfl
theorem hset_hset {es : List HE} {l : Nat} {v u : List Int × Bool} : hset (hset es l v) l u = hset es l u := by
  unfold hset
  rw [List.map_map]
  apply List.map_congr_left
  intro e _
  simp only [Function.comp]
  by_cases h : e.1 = l
  · rw [if_pos h, if_pos h]
    exact if_pos rfl
  · rw [if_neg h, if_neg h]
theorem hget_same {es : List HE} {l : Nat} {v u : List Int × Bool} (h : hget es l = some u) : hget (hset es l v) l = some v := by
  rw [hget_set, if_pos rfl, h]
  rfl
theorem hset_keys (es : List HE) (l : Nat) (v : List Int × Bool) : (hset es l v).map (·.1) = es.map (·.1) := by
  simp only [hset, List.map_map]
  apply List.map_congr_left
  intro e _
  simp only [Function.comp]
  split
  · rename_i h
    exact h.symm
  · rfl
theorem hget_mem {es : List HE} {l : Nat} : (hget es l).isSome = true ↔ l ∈ es.map (·.1) := by
  induction es with
  | nil => simp [hget]
  | cons e r ih =>
    show (if e.1 = l then some e.2 else hget r l).isSome = true ↔ _
    by_cases e1 : e.1 = l
    · simp [e1]
    · rw [if_neg e1, ih]
      simp only [List.map_cons, List.mem_cons]
      constructor
      · exact .inr
      · rintro (z | z)
        · exact absurd z.symm e1
        · exact z
/-- what holds of a machine all the while -/
structure MS.Ok (cells : Nat) (M : MS) : Prop where
  len : M.mem.length = cells
  nd : (M.held.map (·.1)).Nodup
  lines : ∀ e ∈ M.held, e.1 < cells / 4 ∧ e.2.1.length = 4
  left : ∀ m ∈ M.left, m.src < cells ∧ m.dst < cells
theorem hget_in {es : List HE} {l : Nat} {v : List Int × Bool} (h : hget es l = some v) : (l, v) ∈ es := by
  induction es with
  | nil => cases h
  | cons e r ih =>
    have h' : (if e.1 = l then some e.2 else hget r l) = some v := h
    by_cases e1 : e.1 = l
    · rw [if_pos e1] at h'
      cases h'
      rw [← e1]
      exact List.mem_cons_self
    · rw [if_neg e1] at h'
      exact List.mem_cons_of_mem _ (ih h')
theorem MS.Ok.cells4 {n : Nat} {M : MS} (h : M.Ok n) {l : Nat} {c : List Int} {t : Bool} (e : hget M.held l = some (c, t)) : c.length = 4 ∧ l < n / 4 := by
  have := h.lines _ (hget_in e)
  exact ⟨this.2, this.1⟩
theorem MS.Ok.heldLen {n : Nat} {M : MS} (h : M.Ok n) : M.held.length ≤ n / 4 := by
  have h1 := nodup_bound (n / 4) _ h.nd fun l hl => by
    obtain ⟨e, he, rfl⟩ := List.mem_map.mp hl
    exact (h.lines e he).1
  rwa [List.length_map] at h1
section
variable {n : Nat} {M : MS}
theorem MS.Ok.note (h : M.Ok n) (w : Str) (p : Nat) (k : Int) : (M.note w p k).Ok n := ⟨h.len, h.nd, h.lines, h.left⟩
theorem MS.Ok.take (h : M.Ok n) (h4 : n % 4 = 0) {l : Nat} (hl : l < n / 4) : (M.take l).Ok n := by
  unfold MS.take
  cases e : hget M.held l with
  | some v => exact h
  | none =>
    refine MS.Ok.note (M := { M with held := M.held ++ [(l, (M.mem.drop (4 * l)).take 4, false)] }) ⟨h.len, ?_, ?_, h.left⟩ _ _ _
    · simp only [List.map_append, List.map_cons, List.map_nil]
      rw [List.nodup_append]
      refine ⟨h.nd, by simp, ?_⟩
      intro a ha b hb
      simp only [List.mem_cons, List.not_mem_nil, or_false] at hb
      subst hb
      rintro rfl
      have := hget_mem.mpr ha
      rw [e] at this
      cases this
    · intro e' he'
      rcases List.mem_append.mp he' with he' | he'
      · exact h.lines e' he'
      · simp only [List.mem_cons, List.not_mem_nil, or_false] at he'
        subst he'
        refine ⟨hl, ?_⟩
        simp only [List.length_take, List.length_drop, h.len]
        omega
theorem MS.take_some (M : MS) (l : Nat) : ∃ v, hget (M.take l).held l = some v := by
  unfold MS.take
  cases e : hget M.held l with
  | some v => exact ⟨v, e⟩
  | none => exact ⟨_, (hget_append e).trans (if_pos rfl)⟩
theorem MS.Ok.put (h : M.Ok n) (l : Nat) (v : List Int × Bool) (hv : v.1.length = 4) : (M.put l v).Ok n := by
  refine ⟨h.len, ?_, ?_, h.left⟩
  · show ((hset M.held l v).map (·.1)).Nodup
    rw [hset_keys]
    exact h.nd
  · intro e he
    obtain ⟨e0, h0, rfl⟩ := List.mem_map.mp he
    have := h.lines e0 h0
    split
    · rename_i hh
      rw [← hh]
      exact ⟨this.1, hv⟩
    · exact this
theorem MS.Ok.cellsLen (h : M.Ok n) {l : Nat} {v : List Int × Bool} (e : hget M.held l = some v) : (M.cells l).length = 4 := by
  unfold MS.cells
  obtain ⟨c, t⟩ := v
  rw [e]
  exact (h.cells4 e).1
theorem MS.Ok.read (h : M.Ok n) (h4 : n % 4 = 0) {c : Nat} (hc : c < n) : (M.read c).Ok n := (h.take h4 (by omega)).note _ _ _
theorem MS.Ok.write (h : M.Ok n) (h4 : n % 4 = 0) {c : Nat} (hc : c < n) (k : Int) : (M.write c k).Ok n := by
  have h1 := h.take h4 (l := c / 4) (by omega)
  refine MS.Ok.note (h1.put _ _ ?_) _ _ _
  obtain ⟨v, e⟩ := MS.take_some M (c / 4)
  rw [List.length_set]
  exact h1.cellsLen e
theorem MS.Ok.clean (h : M.Ok n) (l : Nat) : (M.clean l).Ok n := by
  unfold MS.clean
  split
  · rename_i cs e
    obtain ⟨h1, h2⟩ := h.cells4 e
    refine MS.Ok.note (M := { M with mem := M.mem.take (4 * l) ++ cs ++ M.mem.drop (4 * l + 4), held := hset M.held l (cs, false) }) ⟨?_, ?_, ?_, h.left⟩ _ _ _
    · simp only [List.length_append, List.length_take, List.length_drop, h.len, h1]
      omega
    · show ((hset M.held l (cs, false)).map (·.1)).Nodup
      rw [hset_keys]
      exact h.nd
    · intro e he
      obtain ⟨e0, h0, rfl⟩ := List.mem_map.mp he
      have := h.lines e0 h0
      split
      · rename_i hh
        rw [← hh]
        exact ⟨this.1, h1⟩
      · exact this
  · exact h
theorem MS.Ok.drop (h : M.Ok n) (l : Nat) : (M.drop l).Ok n := by
  unfold MS.drop
  split
  · refine MS.Ok.note (M := { M with held := hdel M.held l }) ⟨h.len, ?_, ?_, h.left⟩ _ _ _
    · exact (List.Sublist.map _ List.filter_sublist).nodup h.nd
    · exact fun e he => h.lines e ((List.mem_filter.mp he).1)
  · exact h
theorem MS.Ok.left' (h : M.Ok n) {r : List Mv} (hr : ∀ m ∈ r, m.src < n ∧ m.dst < n) : ({ M with left := r } : MS).Ok n := ⟨h.len, h.nd, h.lines, hr⟩
theorem MS.Ok.deed {os : List Ord} (h : M.Ok n) (h4 : n % 4 = 0) (g : OrdsOk n os) {d : Deed} (hd : d.Ok n os.length) : (M.deed os d).Ok n := by
  cases d with
  | set c k => exact h.write h4 hd.1 _
  | add c o => exact ((h.read h4 hd.1).read h4 hd.2).write h4 hd.1 _
  | say c => exact (h.read h4 hd).note _ _ _
  | start k =>
    refine MS.Ok.note (h.left' ?_) _ _ _
    intro m hm
    rcases List.mem_append.mp hm with hm | hm
    · exact h.left m hm
    · exact moves_in g _ _ m hm
  | wait => exact h
  | clean l => exact h.clean l
  | drop l => exact h.drop l
theorem MS.Ok.process {b : Bd} (h : M.Ok b.mem.length) (g : Good b) : (M.process b).Ok b.mem.length := by
  unfold MS.process
  split
  · exact ⟨h.len, h.nd, h.lines, h.left⟩
  · split
    · rename_i d e
      exact MS.Ok.deed (M := { M with idle := false, at_ := M.at_ + 1 }) ⟨h.len, h.nd, h.lines, h.left⟩ g.four g.ordsOk (g.deeds d (List.mem_of_getElem? e))
    · exact h
theorem MS.Ok.bell (h : M.Ok n) (o : Option Nat) : (M.bell o).Ok n := by
  cases o with
  | none => exact h
  | some k => exact h.note _ _ _
theorem MS.Ok.carry (h : M.Ok n) : M.carry.Ok n := by
  unfold MS.carry
  split
  · exact h
  · rename_i m r e
    have hl : ∀ m' ∈ r, m'.src < n ∧ m'.dst < n := fun m' hm' => h.left m' (e ▸ List.mem_cons_of_mem _ hm')
    refine MS.Ok.bell (MS.Ok.note (M := { (({ M with left := r } : MS).note "fetch" m.src (M.mem.getD m.src 0)) with mem := M.mem.set m.dst (M.mem.getD m.src 0) }) ⟨?_, h.nd, h.lines, hl⟩ _ _ _) _
    show (M.mem.set m.dst (M.mem.getD m.src 0)).length = n
    rw [List.length_set]
    exact h.len
theorem MS.Ok.beat {b : Bd} (h : M.Ok b.mem.length) (g : Good b) (pace : List Bool) : (M.beat b pace).Ok b.mem.length := by
  have h1 := h.process g
  have h2 : ((M.process b).moved ((M.process b).pick pace).1).Ok b.mem.length := by
    unfold MS.moved
    split
    · exact h1.carry
    · exact h1
  exact ⟨h2.len, h2.nd, h2.lines, h2.left⟩
theorem MS.Ok.init {b : Bd} : (MS.init b).Ok b.mem.length := ⟨rfl, by simp [MS.init], by simp [MS.init], by simp [MS.init]⟩
end
end BC
/-! BCMach: a machine as an object. -/
namespace BC
open PySem PySem.Spec PyProof.Rows L2
def machF (ml : Addr) (vo vp : V) (hd ll : Addr) (at_ beats : Nat) (rl : Addr) (idle : Bool) (nr nf : Nat) : List (Str × V) :=
  [("memory", .ref ml), ("orders", vo), ("program", vp), ("held", .ref hd), ("left", .ref ll), ("at", .int (at_ : Int)), ("beats", .int (beats : Int)), ("rows", .ref rl), ("idle", .bl idle), ("many_reads", .int (nr : Int)), ("many_fetches", .int (nf : Int))]
section
variable {ml hd ll rl x : Addr} {vo vp v : V} {at_ beats nr nf k : Nat} {idle b : Bool}
theorem lk_M_memory : (machF ml vo vp hd ll at_ beats rl idle nr nf).lookup ("memory" : Str) = some (.ref ml) := by simp [machF, List.lookup, ofS_beq]
theorem lk_M_orders : (machF ml vo vp hd ll at_ beats rl idle nr nf).lookup ("orders" : Str) = some vo := by simp [machF, List.lookup, ofS_beq]
theorem lk_M_program : (machF ml vo vp hd ll at_ beats rl idle nr nf).lookup ("program" : Str) = some vp := by simp [machF, List.lookup, ofS_beq]
theorem lk_M_held : (machF ml vo vp hd ll at_ beats rl idle nr nf).lookup ("held" : Str) = some (.ref hd) := by simp [machF, List.lookup, ofS_beq]
theorem lk_M_left : (machF ml vo vp hd ll at_ beats rl idle nr nf).lookup ("left" : Str) = some (.ref ll) := by simp [machF, List.lookup, ofS_beq]
theorem lk_M_at : (machF ml vo vp hd ll at_ beats rl idle nr nf).lookup ("at" : Str) = some (.int (at_ : Int)) := by simp [machF, List.lookup, ofS_beq]
theorem lk_M_beats : (machF ml vo vp hd ll at_ beats rl idle nr nf).lookup ("beats" : Str) = some (.int (beats : Int)) := by simp [machF, List.lookup, ofS_beq]
theorem lk_M_rows : (machF ml vo vp hd ll at_ beats rl idle nr nf).lookup ("rows" : Str) = some (.ref rl) := by simp [machF, List.lookup, ofS_beq]
theorem lk_M_idle : (machF ml vo vp hd ll at_ beats rl idle nr nf).lookup ("idle" : Str) = some (.bl idle) := by simp [machF, List.lookup, ofS_beq]
theorem lk_M_many_reads : (machF ml vo vp hd ll at_ beats rl idle nr nf).lookup ("many_reads" : Str) = some (.int (nr : Int)) := by simp [machF, List.lookup, ofS_beq]
theorem lk_M_many_fetches : (machF ml vo vp hd ll at_ beats rl idle nr nf).lookup ("many_fetches" : Str) = some (.int (nf : Int)) := by simp [machF, List.lookup, ofS_beq]
theorem pt_M_at : putF "at" (.int (k : Int)) (machF ml vo vp hd ll at_ beats rl idle nr nf) = machF ml vo vp hd ll k beats rl idle nr nf := by simp [putF, machF, ofS_inj]
theorem pt_M_at' : putF "at" (.int ((at_ : Int) + 1)) (machF ml vo vp hd ll at_ beats rl idle nr nf) = machF ml vo vp hd ll (at_ + 1) beats rl idle nr nf := pt_M_at (k := at_ + 1)
theorem pt_M_beats : putF "beats" (.int (k : Int)) (machF ml vo vp hd ll at_ beats rl idle nr nf) = machF ml vo vp hd ll at_ k rl idle nr nf := by simp [putF, machF, ofS_inj]
theorem pt_M_beats' : putF "beats" (.int ((beats : Int) + 1)) (machF ml vo vp hd ll at_ beats rl idle nr nf) = machF ml vo vp hd ll at_ (beats + 1) rl idle nr nf := pt_M_beats (k := beats + 1)
theorem pt_M_reads : putF "many_reads" (.int (k : Int)) (machF ml vo vp hd ll at_ beats rl idle nr nf) = machF ml vo vp hd ll at_ beats rl idle k nf := by simp [putF, machF, ofS_inj]
theorem pt_M_reads' : putF "many_reads" (.int ((nr : Int) + 1)) (machF ml vo vp hd ll at_ beats rl idle nr nf) = machF ml vo vp hd ll at_ beats rl idle (nr + 1) nf := pt_M_reads (k := nr + 1)
theorem pt_M_fetches : putF "many_fetches" (.int (k : Int)) (machF ml vo vp hd ll at_ beats rl idle nr nf) = machF ml vo vp hd ll at_ beats rl idle nr k := by simp [putF, machF, ofS_inj]
theorem pt_M_fetches' : putF "many_fetches" (.int ((nf : Int) + 1)) (machF ml vo vp hd ll at_ beats rl idle nr nf) = machF ml vo vp hd ll at_ beats rl idle nr (nf + 1) := pt_M_fetches (k := nf + 1)
theorem pt_M_idle : putF "idle" (.bl b) (machF ml vo vp hd ll at_ beats rl idle nr nf) = machF ml vo vp hd ll at_ beats rl b nr nf := by simp [putF, machF, ofS_inj]
theorem pt_M_left : putF "left" (.ref x) (machF ml vo vp hd ll at_ beats rl idle nr nf) = machF ml vo vp hd x at_ beats rl idle nr nf := by simp [putF, machF, ofS_inj]
theorem pt_M_rows : putF "rows" (.ref x) (machF ml vo vp hd ll at_ beats rl idle nr nf) = machF ml vo vp hd ll at_ beats x idle nr nf := by simp [putF, machF, ofS_inj]
theorem len_M : (machF ml vo vp hd ll at_ beats rl idle nr nf).length < 1000 := by simp [machF]
theorem no_M_note : (machF ml vo vp hd ll at_ beats rl idle nr nf).lookup ("note" : Str) = none := by simp [machF, List.lookup, ofS_beq]
theorem no_M_take : (machF ml vo vp hd ll at_ beats rl idle nr nf).lookup ("take" : Str) = none := by simp [machF, List.lookup, ofS_beq]
theorem no_M_read : (machF ml vo vp hd ll at_ beats rl idle nr nf).lookup ("read" : Str) = none := by simp [machF, List.lookup, ofS_beq]
theorem no_M_write : (machF ml vo vp hd ll at_ beats rl idle nr nf).lookup ("write" : Str) = none := by simp [machF, List.lookup, ofS_beq]
theorem no_M_clean : (machF ml vo vp hd ll at_ beats rl idle nr nf).lookup ("clean" : Str) = none := by simp [machF, List.lookup, ofS_beq]
theorem no_M_drop : (machF ml vo vp hd ll at_ beats rl idle nr nf).lookup ("drop" : Str) = none := by simp [machF, List.lookup, ofS_beq]
theorem no_M_process : (machF ml vo vp hd ll at_ beats rl idle nr nf).lookup ("process" : Str) = none := by simp [machF, List.lookup, ofS_beq]
theorem no_M_may_rest : (machF ml vo vp hd ll at_ beats rl idle nr nf).lookup ("may_rest" : Str) = none := by simp [machF, List.lookup, ofS_beq]
theorem no_M_carry : (machF ml vo vp hd ll at_ beats rl idle nr nf).lookup ("carry" : Str) = none := by simp [machF, List.lookup, ofS_beq]
theorem no_M_is_over : (machF ml vo vp hd ll at_ beats rl idle nr nf).lookup ("is_over" : Str) = none := by simp [machF, List.lookup, ofS_beq]
theorem no_M_finish : (machF ml vo vp hd ll at_ beats rl idle nr nf).lookup ("finish" : Str) = none := by simp [machF, List.lookup, ofS_beq]
theorem no_M_copied : (machF ml vo vp hd ll at_ beats rl idle nr nf).lookup ("copied" : Str) = none := by simp [machF, List.lookup, ofS_beq]
theorem no_M_key : (machF ml vo vp hd ll at_ beats rl idle nr nf).lookup ("key" : Str) = none := by simp [machF, List.lookup, ofS_beq]
end
/-- what the dict of held lines holds -/
inductive HeldR (H : Hp) : List (Key × V) → List HE → List Addr → Prop
  | nil : HeldR H [] [] []
  | cons {l : Nat} {ns : List Int} {b : Bool} {t c : Addr} {kvs : List (Key × V)} {es : List HE} {cs : List Addr} (h1 : H t = some (.tup [.ref c, .bl b])) (h2 : H c = some (.lst (ns.map V.int))) (h3 : HeldR H kvs es cs) :
      HeldR H ((Sum.inl (l : Int), .ref t) :: kvs) ((l, ns, b) :: es) (c :: cs)
section
variable {H H2 : Hp} {kvs : List (Key × V)} {es : List HE} {cs : List Addr}
theorem key_inj {l k : Nat} : (Sum.inl (l : Int) : Key) = Sum.inl (k : Int) ↔ l = k := by
  constructor
  · intro h
    exact Int.ofNat.inj (Sum.inl.inj h)
  · intro h
    rw [h]
theorem HeldR.keep {G : List Addr} (h : HeldR H kvs es cs) (f : Fr G H H2) (k : Kp H H2) (n : ∀ c ∈ cs, c ∉ G) : HeldR H2 kvs es cs := by
  induction h with
  | nil => exact .nil
  | cons h1 h2 h3 ih => exact .cons (k _ _ h1) (f _ _ h2 (n _ List.mem_cons_self)) (ih fun c hc => n c (List.mem_cons_of_mem _ hc))
theorem HeldR.ex (h : HeldR H kvs es cs) (e : Ex H H2) : HeldR H2 kvs es cs := h.keep (G := []) e.fr e.kp fun _ _ => by simp
theorem HeldR.len (h : HeldR H kvs es cs) : kvs.length = es.length := by
  induction h with
  | nil => rfl
  | cons h1 h2 h3 ih => simp [ih]
theorem HeldR.keys (h : HeldR H kvs es cs) : kvs.map (·.1) = (es.map fun e => (e.1 : Int)).map Sum.inl := by
  induction h with
  | nil => rfl
  | cons h1 h2 h3 ih => simp [ih]
theorem HeldR.lost {l : Nat} (h : HeldR H kvs es cs) (e : hget es l = none) : valV kvs (Sum.inl (l : Int)) = none := by
  induction h with
  | nil => rfl
  | @cons l' ns b t c kvs es cs h1 h2 h3 ih =>
    have e' : (if l' = l then some (ns, b) else hget es l) = none := e
    by_cases q : l' = l
    · rw [if_pos q] at e'
      cases e'
    · rw [if_neg q] at e'
      rw [valV_neg (fun z => q (key_inj.mp z))]
      exact ih e'
theorem HeldR.get {l : Nat} {ns : List Int} {b : Bool} (h : HeldR H kvs es cs) (e : hget es l = some (ns, b)) : ∃ t c, valV kvs (Sum.inl (l : Int)) = some (.ref t) ∧ H t = some (.tup [.ref c, .bl b]) ∧ H c = some (.lst (ns.map V.int)) ∧ c ∈ cs := by
  induction h with
  | nil => cases e
  | @cons l' ns' b' t c kvs es cs h1 h2 h3 ih =>
    have e' : (if l' = l then some (ns', b') else hget es l) = some (ns, b) := e
    by_cases q : l' = l
    · rw [if_pos q] at e'
      cases e'
      exact ⟨t, c, valV_pos (key_inj.mpr q), h1, h2, List.mem_cons_self⟩
    · rw [if_neg q] at e'
      obtain ⟨t', c', g1, g2, g3, g4⟩ := ih e'
      exact ⟨t', c', by rw [valV_neg (fun z => q (key_inj.mp z))]; exact g1, g2, g3, List.mem_cons_of_mem _ g4⟩
theorem HeldR.add {l : Nat} {ns : List Int} {b : Bool} {t c : Addr} (h : HeldR H kvs es cs) (h1 : H t = some (.tup [.ref c, .bl b])) (h2 : H c = some (.lst (ns.map V.int))) : HeldR H (kvs ++ [(Sum.inl (l : Int), .ref t)]) (es ++ [(l, ns, b)]) (cs ++ [c]) := by
  induction h with
  | nil => exact .cons h1 h2 .nil
  | cons g1 g2 g3 ih => exact .cons g1 g2 ih
theorem HeldR.del {l : Nat} (h : HeldR H kvs es cs) : ∃ cs', HeldR H (dropK kvs (Sum.inl (l : Int))) (hdel es l) cs' ∧ cs'.Sublist cs := by
  induction h with
  | nil => exact ⟨[], .nil, .slnil⟩
  | @cons l' ns' b' t c kvs es cs h1 h2 h3 ih =>
    obtain ⟨cs', g1, g2⟩ := ih
    by_cases q : l' = l
    · refine ⟨cs', ?_, g2.cons _⟩
      have e1 : dropK ((Sum.inl (l' : Int), V.ref t) :: kvs) (Sum.inl (l : Int)) = dropK kvs (Sum.inl (l : Int)) := by simp [dropK, q]
      have e2 : hdel ((l', ns', b') :: es) l = hdel es l := by simp [hdel, q]
      rw [e1, e2]
      exact g1
    · refine ⟨c :: cs', ?_, g2.cons₂ _⟩
      have e1 : dropK ((Sum.inl (l' : Int), V.ref t) :: kvs) (Sum.inl (l : Int)) = (Sum.inl (l' : Int), V.ref t) :: dropK kvs (Sum.inl (l : Int)) := by
        have : (Sum.inl (l' : Int) : Key) ≠ Sum.inl (l : Int) := fun z => q (key_inj.mp z)
        simp only [dropK, List.filter_cons]
        rw [if_pos (decide_eq_true this)]
      have e2 : hdel ((l', ns', b') :: es) l = (l', ns', b') :: hdel es l := by simp [hdel, q]
      rw [e1, e2]
      exact .cons h1 h2 g1
/-- another list of cells in the same place -/
theorem HeldR.cell {l : Nat} {ns ms : List Int} {b : Bool} {t c : Addr} (h : HeldR H kvs es cs) (hk : (es.map (·.1)).Nodup) (hc : cs.Nodup) (e : hget es l = some (ns, b)) (ev : valV kvs (Sum.inl (l : Int)) = some (.ref t)) (ht : H t = some (.tup [.ref c, .bl b])) (f : Fr [c] H H2) (k : Kp H H2) (h2 : H2 c = some (.lst (ms.map V.int))) : HeldR H2 kvs (hset es l (ms, b)) cs := by
  induction h with
  | nil => cases e
  | @cons l' ns' b' t' c' kvs es cs g1 g2 g3 ih =>
    have e' : (if l' = l then some (ns', b') else hget es l) = some (ns, b) := e
    simp only [List.map_cons, List.nodup_cons] at hk hc
    by_cases q : l' = l
    · rw [if_pos q] at e'
      cases e'
      rw [valV_pos (key_inj.mpr q)] at ev
      cases ev
      rw [g1] at ht
      cases ht
      have e2 : hset ((l', ns, b) :: es) l (ms, b) = (l', ms, b) :: es := by
        show (if l' = l then (l, ms, b) else (l', ns, b)) :: hset es l (ms, b) = _
        rw [if_pos q, ← q]
        congr 1
        unfold hset
        rw [List.map_congr_left (g := id), List.map_id]
        intro a ha
        rw [if_neg]
        · rfl
        · intro z
          exact hk.1 (z ▸ List.mem_map_of_mem ha)
      rw [e2]
      refine .cons (k _ _ g1) h2 (g3.keep f k fun c hcs => ?_)
      intro z
      rw [List.mem_singleton.mp z] at hcs
      exact hc.1 hcs
    · rw [if_neg q] at e'
      rw [valV_neg (fun z => q (key_inj.mp z))] at ev
      have e2 : hset ((l', ns', b') :: es) l (ms, b) = (l', ns', b') :: hset es l (ms, b) := by
        show (if l' = l then (l, ms, b) else (l', ns', b')) :: hset es l (ms, b) = _
        rw [if_neg q]
      rw [e2]
      obtain ⟨t2, c2, z1, z2, z3, z4⟩ := g3.get e'
      rw [ev] at z1
      cases z1
      rw [ht] at z2
      cases z2
      exact .cons (k _ _ g1) (fr1 f g2 (fun z => hc.1 (z ▸ z4))) (ih hk.2 hc.2 e' ev)
/-- another mark -/
theorem HeldR.mark {l : Nat} {ns : List Int} {b b2 : Bool} {t c t2 : Addr} (h : HeldR H kvs es cs) (hk : (es.map (·.1)).Nodup) (e : hget es l = some (ns, b)) (ev : valV kvs (Sum.inl (l : Int)) = some (.ref t)) (ht : H t = some (.tup [.ref c, .bl b])) (ht2 : H t2 = some (.tup [.ref c, .bl b2])) : HeldR H (putK kvs (Sum.inl (l : Int)) (.ref t2)) (hset es l (ns, b2)) cs := by
  have ea : (kvs.any fun kv => decide (kv.1 = Sum.inl (l : Int))) = true := by
    rw [valV_any, ev]
    rfl
  unfold putK
  rw [if_pos ea]
  clear ea
  induction h with
  | nil => cases e
  | @cons l' ns' b' t' c' kvs es cs g1 g2 g3 ih =>
    have e' : (if l' = l then some (ns', b') else hget es l) = some (ns, b) := e
    simp only [List.map_cons, List.nodup_cons] at hk
    rw [List.map_cons]
    by_cases q : l' = l
    · rw [if_pos q] at e'
      cases e'
      rw [valV_pos (key_inj.mpr q)] at ev
      cases ev
      rw [g1] at ht
      cases ht
      rw [if_pos (key_inj.mpr q)]
      have e2 : hset ((l', ns, b) :: es) l (ns, b2) = (l', ns, b2) :: es := by
        show (if l' = l then (l, ns, b2) else (l', ns, b)) :: hset es l (ns, b2) = _
        rw [if_pos q, ← q]
        congr 1
        unfold hset
        rw [List.map_congr_left (g := id), List.map_id]
        intro a ha
        rw [if_neg]
        · rfl
        · intro z
          exact hk.1 (z ▸ List.mem_map_of_mem ha)
      rw [e2]
      have e3 : (kvs.map fun kv => if kv.1 = Sum.inl (l : Int) then (kv.1, V.ref t2) else kv) = kvs := by
        rw [List.map_congr_left (g := id), List.map_id]
        intro a ha
        rw [if_neg]
        · rfl
        · intro z
          have : a.1 ∈ kvs.map (·.1) := List.mem_map_of_mem ha
          rw [g3.keys, z] at this
          simp only [List.mem_map] at this
          obtain ⟨i, ⟨e0, he, rfl⟩, z2⟩ := this
          have z3 := key_inj.mp z2
          exact hk.1 (by rw [q, ← z3]; exact List.mem_map_of_mem he)
      rw [e3]
      exact .cons ht2 g2 g3
    · rw [if_neg q] at e'
      rw [valV_neg (fun z => q (key_inj.mp z))] at ev
      rw [if_neg (fun z => q (key_inj.mp z))]
      have e2 : hset ((l', ns', b') :: es) l (ns, b2) = (l', ns', b') :: hset es l (ns, b2) := by
        show (if l' = l then (l, ns, b2) else (l', ns', b')) :: hset es l (ns, b2) = _
        rw [if_neg q]
      rw [e2]
      exact .cons g1 g2 (ih hk.2 e' ev)
end
structure MA (C : Addr) (vo vp : V) (H : Hp) (p dx hd ml ll rl : Addr) (cs : List Addr) (M : MS) : Prop where
  ob : H p = some (.ins C dx (machF ml vo vp hd ll M.at_ M.beats rl M.idle M.nr M.nf))
  me : H ml = some (.lst (M.mem.map V.int))
  he : ∃ kvs, H hd = some (.dK kvs) ∧ HeldR H kvs M.held cs
  le : ∃ xs, H ll = some (.lst xs) ∧ ImL H (M.left.map pyMv) xs
  ro : ∃ xs, H rl = some (.lst xs) ∧ ImL H (M.rows.map pyRow) xs
  nd : (p :: hd :: ml :: ll :: rl :: cs).Nodup
section
variable {C : Addr} {vo vp : V} {H H2 : Hp} {p dx hd ml ll rl : Addr} {cs : List Addr} {M : MS}
theorem MA.ex (h : MA C vo vp H p dx hd ml ll rl cs M) (e : Ex H H2) : MA C vo vp H2 p dx hd ml ll rl cs M := by
  obtain ⟨ob, me, ⟨k, h1, h2⟩, ⟨x, l1, l2⟩, ⟨y, r1, r2⟩, nd⟩ := h
  exact ⟨e _ _ ob, e _ _ me, ⟨k, e _ _ h1, h2.ex e⟩, ⟨x, e _ _ l1, l2.ex e⟩, ⟨y, e _ _ r1, r2.ex e⟩, nd⟩
theorem MA.keep {G : List Addr} (h : MA C vo vp H p dx hd ml ll rl cs M) (f : Fr G H H2) (k : Kp H H2) (n : ∀ a ∈ p :: hd :: ml :: ll :: rl :: cs, a ∉ G) : MA C vo vp H2 p dx hd ml ll rl cs M := by
  obtain ⟨ob, me, ⟨kv, h1, h2⟩, ⟨x, l1, l2⟩, ⟨y, r1, r2⟩, nd⟩ := h
  exact ⟨f _ _ ob (n _ (by simp)), f _ _ me (n _ (by simp)), ⟨kv, f _ _ h1 (n _ (by simp)), h2.keep f k fun c hc => n c (by simp [hc])⟩, ⟨x, f _ _ l1 (n _ (by simp)), l2.kp k⟩, ⟨y, f _ _ r1 (n _ (by simp)), r2.kp k⟩, nd⟩
structure Nes (p hd ml ll rl : Addr) (cs : List Addr) : Prop where
  p1 : p ≠ hd
  p2 : p ≠ ml
  p3 : p ≠ ll
  p4 : p ≠ rl
  p5 : ∀ c ∈ cs, c ≠ p
  h1 : hd ≠ ml
  h2 : hd ≠ ll
  h3 : hd ≠ rl
  h4 : ∀ c ∈ cs, c ≠ hd
  m1 : ml ≠ ll
  m2 : ml ≠ rl
  m3 : ∀ c ∈ cs, c ≠ ml
  l1 : ll ≠ rl
  l2 : ∀ c ∈ cs, c ≠ ll
  r1 : ∀ c ∈ cs, c ≠ rl
  cs : cs.Nodup
theorem MA.nes (h : MA C vo vp H p dx hd ml ll rl cs M) : Nes p hd ml ll rl cs := by
  have q := h.nd
  simp only [List.nodup_cons, List.mem_cons, not_or] at q
  obtain ⟨⟨a1, a2, a3, a4, a5⟩, ⟨b1, b2, b3, b4⟩, ⟨c1, c2, c3⟩, ⟨d1, d2⟩, e1, g⟩ := q
  exact ⟨a1, a2, a3, a4, fun c hc z => a5 (z ▸ hc), b1, b2, b3, fun c hc z => b4 (z ▸ hc), c1, c2, fun c hc z => c3 (z ▸ hc), d1, fun c hc z => d2 (z ▸ hc), fun c hc z => e1 (z ▸ hc), g⟩
theorem not1 {a : Addr} {cs : List Addr} (h : ∀ c ∈ cs, c ≠ a) : ∀ c ∈ cs, c ∉ [a] := fun c hc z => h c hc (List.mem_singleton.mp z)
theorem MA.mutRows {rows : List Row} {ys : List V} (h : MA C vo vp H p dx hd ml ll rl cs M) (f : Fr [rl] H H2) (k : Kp H H2) (h2 : H2 rl = some (.lst ys)) (iy : ImL H2 (rows.map pyRow) ys) : MA C vo vp H2 p dx hd ml ll rl cs { M with rows := rows } := by
  have n := h.nes
  obtain ⟨ob, me, ⟨kv, h1, h2⟩, ⟨x, l1, l2⟩, ⟨y, r1, r2⟩, nd⟩ := h
  exact ⟨fr1 f ob n.p4, fr1 f me n.m2, ⟨kv, fr1 f h1 n.h3, h2.keep f k (not1 n.r1)⟩, ⟨x, fr1 f l1 n.l1, l2.kp k⟩, ⟨ys, by assumption, iy⟩, nd⟩
theorem MA.mutLeft {left : List Mv} {ys : List V} (h : MA C vo vp H p dx hd ml ll rl cs M) (f : Fr [ll] H H2) (k : Kp H H2) (h2 : H2 ll = some (.lst ys)) (iy : ImL H2 (left.map pyMv) ys) : MA C vo vp H2 p dx hd ml ll rl cs { M with left := left } := by
  have n := h.nes
  obtain ⟨ob, me, ⟨kv, h1, h2⟩, ⟨x, l1, l2⟩, ⟨y, r1, r2⟩, nd⟩ := h
  exact ⟨fr1 f ob n.p3, fr1 f me n.m1, ⟨kv, fr1 f h1 n.h2, h2.keep f k (not1 n.l2)⟩, ⟨ys, by assumption, iy⟩, ⟨y, fr1 f r1 (Ne.symm n.l1), r2.kp k⟩, nd⟩
theorem MA.mutMem {mem : List Int} (h : MA C vo vp H p dx hd ml ll rl cs M) (f : Fr [ml] H H2) (k : Kp H H2) (h2 : H2 ml = some (.lst (mem.map V.int))) : MA C vo vp H2 p dx hd ml ll rl cs { M with mem := mem } := by
  have n := h.nes
  obtain ⟨ob, me, ⟨kv, h1, h2⟩, ⟨x, l1, l2⟩, ⟨y, r1, r2⟩, nd⟩ := h
  exact ⟨fr1 f ob n.p2, by assumption, ⟨kv, fr1 f h1 n.h1, h2.keep f k (not1 n.m3)⟩, ⟨x, fr1 f l1 (Ne.symm n.m1), l2.kp k⟩, ⟨y, fr1 f r1 (Ne.symm n.m2), r2.kp k⟩, nd⟩
theorem MA.mutOb {at_ beats nr nf : Nat} {idle : Bool} (h : MA C vo vp H p dx hd ml ll rl cs M) (f : Fr [p] H H2) (k : Kp H H2) (h2 : H2 p = some (.ins C dx (machF ml vo vp hd ll at_ beats rl idle nr nf))) : MA C vo vp H2 p dx hd ml ll rl cs { M with at_ := at_, beats := beats, idle := idle, nr := nr, nf := nf } := by
  have n := h.nes
  obtain ⟨ob, me, ⟨kv, h1, h2⟩, ⟨x, l1, l2⟩, ⟨y, r1, r2⟩, nd⟩ := h
  exact ⟨by assumption, fr1 f me (Ne.symm n.p2), ⟨kv, fr1 f h1 (Ne.symm n.p1), h2.keep f k (not1 n.p5)⟩, ⟨x, fr1 f l1 (Ne.symm n.p3), l2.kp k⟩, ⟨y, fr1 f r1 (Ne.symm n.p4), r2.kp k⟩, nd⟩
/-- another list of moves -/
theorem MA.newLeft {left : List Mv} {ys : List V} {l2 : Addr} (h : MA C vo vp H p dx hd ml ll rl cs M) (nl : ∀ a ∈ p :: hd :: ml :: ll :: rl :: cs, l2 ≠ a) (f : Fr [p] H H2) (k : Kp H H2) (h2 : H2 p = some (.ins C dx (machF ml vo vp hd l2 M.at_ M.beats rl M.idle M.nr M.nf)))
    (hl : H2 l2 = some (.lst ys)) (iy : ImL H2 (left.map pyMv) ys) : MA C vo vp H2 p dx hd ml l2 rl cs { M with left := left } := by
  have n := h.nes
  obtain ⟨ob, me, ⟨kv, h1, h2⟩, ⟨x, l1, _⟩, ⟨y, r1, r2⟩, nd⟩ := h
  refine ⟨by assumption, fr1 f me (Ne.symm n.p2), ⟨kv, fr1 f h1 (Ne.symm n.p1), h2.keep f k (not1 n.p5)⟩, ⟨ys, hl, iy⟩, ⟨y, fr1 f r1 (Ne.symm n.p4), r2.kp k⟩, ?_⟩
  simp only [List.nodup_cons, List.mem_cons, not_or] at nd ⊢
  obtain ⟨⟨a1, a2, a3, a4, a5⟩, ⟨b1, b2, b3, b4⟩, ⟨c1, c2, c3⟩, ⟨d1, d2⟩, e1, g⟩ := nd
  exact ⟨⟨a1, a2, (nl p (by simp)).symm, a4, a5⟩, ⟨b1, (nl hd (by simp)).symm, b3, b4⟩, ⟨(nl ml (by simp)).symm, c2, c3⟩, ⟨nl rl (by simp), fun z => nl l2 (by simp [z]) rfl⟩, e1, g⟩
/-- another list of rows -/
theorem MA.newRows {rows : List Row} {ys : List V} {l2 : Addr} (h : MA C vo vp H p dx hd ml ll rl cs M) (nl : ∀ a ∈ p :: hd :: ml :: ll :: rl :: cs, l2 ≠ a) (f : Fr [p] H H2) (k : Kp H H2) (h2 : H2 p = some (.ins C dx (machF ml vo vp hd ll M.at_ M.beats l2 M.idle M.nr M.nf)))
    (hl : H2 l2 = some (.lst ys)) (iy : ImL H2 (rows.map pyRow) ys) : MA C vo vp H2 p dx hd ml ll l2 cs { M with rows := rows } := by
  have n := h.nes
  obtain ⟨ob, me, ⟨kv, h1, h2⟩, ⟨x, l1, l3⟩, ⟨y, r1, r2⟩, nd⟩ := h
  refine ⟨by assumption, fr1 f me (Ne.symm n.p2), ⟨kv, fr1 f h1 (Ne.symm n.p1), h2.keep f k (not1 n.p5)⟩, ⟨x, fr1 f l1 (Ne.symm n.p3), l3.kp k⟩, ⟨ys, hl, iy⟩, ?_⟩
  simp only [List.nodup_cons, List.mem_cons, not_or] at nd ⊢
  obtain ⟨⟨a1, a2, a3, a4, a5⟩, ⟨b1, b2, b3, b4⟩, ⟨c1, c2, c3⟩, ⟨d1, d2⟩, e1, g⟩ := nd
  exact ⟨⟨a1, a2, a3, (nl p (by simp)).symm, a5⟩, ⟨b1, b2, (nl hd (by simp)).symm, b4⟩, ⟨c1, (nl ml (by simp)).symm, c3⟩, ⟨(nl ll (by simp)).symm, d2⟩, fun z => nl l2 (by simp [z]) rfl, g⟩
theorem MA.mutHd {held : List HE} {kvs : List (Key × V)} {ds : List Addr} (h : MA C vo vp H p dx hd ml ll rl cs M) (f : Fr [hd] H H2) (k : Kp H H2) (h2 : H2 hd = some (.dK kvs)) (hr : HeldR H2 kvs held ds) (nd2 : (p :: hd :: ml :: ll :: rl :: ds).Nodup) : MA C vo vp H2 p dx hd ml ll rl ds { M with held := held } := by
  have n := h.nes
  obtain ⟨ob, me, _, ⟨x, l1, l2⟩, ⟨y, r1, r2⟩, nd⟩ := h
  exact ⟨fr1 f ob n.p1, fr1 f me (Ne.symm n.h1), ⟨kvs, by assumption, hr⟩, ⟨x, fr1 f l1 (Ne.symm n.h2), l2.kp k⟩, ⟨y, fr1 f r1 (Ne.symm n.h3), r2.kp k⟩, nd2⟩
theorem MA.mutCell {l : Nat} {ns ms : List Int} {b : Bool} {t c : Addr} {kvs : List (Key × V)} (h : MA C vo vp H p dx hd ml ll rl cs M) (hk : (M.held.map (·.1)).Nodup) (e : hget M.held l = some (ns, b)) (hh : H hd = some (.dK kvs)) (ev : valV kvs (Sum.inl (l : Int)) = some (.ref t)) (ht : H t = some (.tup [.ref c, .bl b]))
    (hc : c ∈ cs) (f : Fr [c] H H2) (k : Kp H H2) (h2 : H2 c = some (.lst (ms.map V.int))) : MA C vo vp H2 p dx hd ml ll rl cs (M.put l (ms, b)) := by
  have n := h.nes
  obtain ⟨ob, me, ⟨kv, h1, hr⟩, ⟨x, l1, l2⟩, ⟨y, r1, r2⟩, nd⟩ := h
  rw [h1] at hh
  cases hh
  exact ⟨fr1 f ob (n.p5 c hc).symm, fr1 f me (n.m3 c hc).symm, ⟨_, fr1 f h1 (n.h4 c hc).symm, hr.cell hk n.cs e ev ht f k h2⟩, ⟨x, fr1 f l1 (n.l2 c hc).symm, l2.kp k⟩, ⟨y, fr1 f r1 (n.r1 c hc).symm, r2.kp k⟩, nd⟩
end
theorem HeldR.there {H : Hp} {kvs : List (Key × V)} {es : List HE} {cs : List Addr} (h : HeldR H kvs es cs) : ∀ a ∈ cs, ∃ o, H a = some o := by
  induction h with
  | nil => exact fun a ha => by cases ha
  | cons g1 g2 g3 ih =>
    intro a ha
    rcases List.mem_cons.mp ha with z | z
    · exact ⟨_, z ▸ g2⟩
    · exact ih a z
theorem MA.there {C : Addr} {vo vp : V} {H : Hp} {p dx hd ml ll rl : Addr} {cs : List Addr} {M : MS} (h : MA C vo vp H p dx hd ml ll rl cs M) : ∀ a ∈ p :: hd :: ml :: ll :: rl :: cs, ∃ o, H a = some o := by
  obtain ⟨ob, me, ⟨k, h1, h2⟩, ⟨x, l1, l2⟩, ⟨y, r1, r2⟩, nd⟩ := h
  intro a ha
  simp only [List.mem_cons] at ha
  rcases ha with z | z | z | z | z | z
  · exact ⟨_, z ▸ ob⟩
  · exact ⟨_, z ▸ h1⟩
  · exact ⟨_, z ▸ me⟩
  · exact ⟨_, z ▸ l1⟩
  · exact ⟨_, z ▸ r1⟩
  · exact h2.there a z
theorem MA.free {C : Addr} {vo vp : V} {H : Hp} {p dx hd ml ll rl c : Addr} {cs : List Addr} {M : MS} (h : MA C vo vp H p dx hd ml ll rl cs M) (n : H c = none) : ∀ a ∈ p :: hd :: ml :: ll :: rl :: cs, a ≠ c := fun a ha z => by
  obtain ⟨o, e⟩ := h.there a ha
  rw [z, n] at e
  cases e
theorem nodup_snoc {p hd ml ll rl c : Addr} {cs : List Addr} (h : (p :: hd :: ml :: ll :: rl :: cs).Nodup) (n : ∀ a ∈ p :: hd :: ml :: ll :: rl :: cs, a ≠ c) : (p :: hd :: ml :: ll :: rl :: (cs ++ [c])).Nodup := by
  have e : p :: hd :: ml :: ll :: rl :: (cs ++ [c]) = (p :: hd :: ml :: ll :: rl :: cs) ++ [c] := rfl
  rw [e, List.nodup_append]
  exact ⟨h, by simp, fun a ha b hb => by rw [List.mem_singleton.mp hb]; exact n a ha⟩
/-- a machine, with all that it holds (F) -/
def Mac (C : Addr) (vo vp : V) (p : Addr) (F : List Addr) (H : Hp) (M : MS) : Prop := ∃ dx hd ml ll rl cs, F = p :: hd :: ml :: ll :: rl :: cs ∧ MA C vo vp H p dx hd ml ll rl cs M
/-- only what was in F, and what is new -/
structure Chg (F : List Addr) (H : Hp) (F2 : List Addr) (H2 : Hp) : Prop where
  fr : Fr F H H2
  kp : Kp H H2
  own : ∀ a ∈ F2, a ∈ F ∨ H a = none
theorem Chg.refl (F : List Addr) (H : Hp) : Chg F H F H := ⟨Fr.refl _ _, Kp.refl _, fun _ h => .inl h⟩
theorem Chg.trans {F F1 F2 : List Addr} {H H1 H2 : Hp} (a : Chg F H F1 H1) (b : Chg F1 H1 F2 H2) : Chg F H F2 H2 := by
  refine ⟨fun x o hx hn => ?_, a.kp.trans b.kp, fun x hx => ?_⟩
  · refine b.fr x o (a.fr x o hx hn) fun z => ?_
    rcases a.own x z with z | z
    · exact hn z
    · rw [hx] at z
      cases z
  · rcases b.own x hx with z | z
    · exact a.own x z
    · by_cases hF : x ∈ F
      · exact .inl hF
      · cases e : H x with
        | none => exact .inr rfl
        | some o =>
          rw [a.fr x o e hF] at z
          cases z
theorem Chg.grow {F F2 : List Addr} {a : Addr} {H H2 : Hp} (h : a ∈ F) (f : Fr [a] H H2) (k : Kp H H2) (n : ∀ a ∈ F2, a ∈ F ∨ H a = none) : Chg F H F2 H2 := ⟨f.mono (by simpa using h), k, n⟩
theorem Chg.ex {F : List Addr} {H H2 : Hp} (e : Ex H H2) : Chg F H F H2 := ⟨e.fr, e.kp, fun _ h => .inl h⟩
theorem Chg.mut {F : List Addr} {a : Addr} {H H2 : Hp} (h : a ∈ F) (f : Fr [a] H H2) (k : Kp H H2) : Chg F H F H2 := ⟨f.mono (by simpa using h), k, fun _ h => .inl h⟩
/-- what is new at first -/
theorem Chg.fresh {F : List Addr} {H H2 : Hp} (c : Chg [] H F H2) : Ex H H2 := fun a o h => c.fr a o h (by simp)
theorem Chg.into {F F2 : List Addr} {H H1 H2 : Hp} (e : Ex H H1) (n : ∀ a ∈ F, H a = none) (c : Chg F H1 F2 H2) : Chg [] H F2 H2 := by
  refine ⟨fun a o h _ => c.fr a o (e a o h) (fun z => by rw [n a z] at h; cases h), e.kp.trans c.kp, fun a h => .inr ?_⟩
  rcases c.own a h with z | z
  · exact n a z
  · exact e.free z
theorem Mac.ex {C : Addr} {vo vp : V} {p : Addr} {F : List Addr} {H H2 : Hp} {M : MS} (h : Mac C vo vp p F H M) (e : Ex H H2) : Mac C vo vp p F H2 M := by
  obtain ⟨dx, hd, ml, ll, rl, cs, h1, h2⟩ := h
  exact ⟨dx, hd, ml, ll, rl, cs, h1, h2.ex e⟩
end BC
/-! BCDict: d.update, pops, displays, slices, sums of lists. -/
namespace BC
open PySem PySem.Spec PyProof.Rows L2
section
variable {X : Cx} {pins : List (Addr × Obj)} {σ : L2.St} {H : Hp} {s : Shared} {a b : Addr} {A : Around} {E : Value → Shared → Prop} {kvs ls : List (Key × V)}
theorem d_update {Q : Value → Shared → Prop} (I : Inv X pins σ H s) (e : H a = some (.dK kvs)) (eb : Rd H b (.dK ls)) (hne : a ≠ b) (hz : kvs.length + ls.length ≤ 100000)
    (h : ∀ s', Inv X pins σ (upd H a (.dK (mergeK kvs ls))) s' → Q .none s') : wpAny (model X.prog X.w) A (call (.builtin "dict.update") [.ref a, .ref b]) Q E s := by
  obtain ⟨z, hd, vs, rel, dd⟩ := dk_of I.hok e
  obtain ⟨z2, hd2, rs, rel2, dd2⟩ := dk_rd I.hok eb
  refine call_meetsIn PySem.F.slot_dict_update dd.typeIs PySem.F.entry_dict_update (PySem.F.args_dict_update_2 _ _) (meets_dict_update (mixKind X.prog X.w) a b hne hd2)
    ⟨vs, rs, dd, dd2, by rw [← rel.length, ← rel2.length]; exact sz_le hz, fun h' dd' _ hs => h _ ?_⟩
  have he : ∃ q, h'.get? a = some q := let ⟨q, _, _, hq, _⟩ := dd'; ⟨q, hq⟩
  exact d_write (t' := s.toks) I (by rw [e]; exact True.intro) hs he (dk_new (Nat.le_trans (length_mergeK ls kvs) (sz_le hz)) hd (rel2.merge rel) dd')
end
/-- d.update(e) -/
def DUpdP (a : Addr) (y : V) (H2 : Hp) (Q : VK) : Prop := ∃ b kvs ls, y = .ref b ∧ a ≠ b ∧ H2 a = some (.dK kvs) ∧ Rd H2 b (.dK ls) ∧ kvs.length + ls.length ≤ 100000 ∧ Q .non (upd H2 a (.dK (mergeK kvs ls)))
def tDUpd (td ty : TE) : TE := fun σ H Q => td σ H fun x H1 => ∃ a, x = .ref a ∧ IsD H1 a ∧ ty σ H1 fun y H2 => DUpdP a y H2 Q
theorem pe_dupd {X : Cx} {o e : Expr} {apos cpos : Pos} {td ty : TE} (ho : PE X o td) (he : PE X e ty) (m : M1 X o "update" apos e cpos) : PE X (.Call (.Attribute o "update" apos) [e] [] cpos) (tDUpd td ty) := by
  refine ⟨fun pins s σ H Q I h => ?_⟩
  refine wpAny_Call_method m.base m.few m.line PySem.F.plainAttrs_dict PySem.F.slot_dict_update PySem.F.type_dict_update (thn (ho.run pins s σ H _ I h) fun u s1 ⟨x, H1, I1, rx, a, ex, d, q1⟩ => ?_)
  subst ex
  obtain rfl : u = Value.ref a := rx
  obtain ⟨t1, t2, _⟩ := isD_at I1 d
  refine ⟨t1, t2, ?_⟩
  rw [m.trees]
  refine Calls.callWith_builtin rfl (Calls.evalArgs_plain (Calls.spliced_cons (thn (he.run pins s1 σ H1 _ I1 q1) fun iv s2 ⟨y, H2, I2, ry, b, kvs, ls, ey, hne, ea, eb, hz, q2⟩ => Calls.spliced_nil ?_)))
  subst ey
  obtain rfl : iv = Value.ref b := ry
  exact d_update I2 ea eb hne hz fun s3 I3 => ⟨.non, _, I3, rfl, q2⟩
section
variable {K : PySem.W.Frag} {σ : L2.St} {H H0 H1 : Hp} {D : Ends} {Q : VK} {td ty te ta tb : TE} {v x y : V} {xs ys : List V} {a b l p : Addr} {kvs ls : List (Key × V)} {k : Key}
theorem st_dupd (h : td σ H fun x H1 => ∃ a, x = .ref a ∧ IsD H1 a ∧ ty σ H1 fun y H2 => DUpdP a y H2 Q) : tDUpd td ty σ H Q := h
theorem st_isD (h : H a = some (.dK kvs)) {A : Prop} {F : Addr → Prop} (q : F a) : ∃ c, V.ref a = .ref c ∧ IsD H c ∧ F c := ⟨a, rfl, .inl ⟨kvs, .inl h⟩, q⟩
theorem st_dupdP (ha : H a = some (.dK kvs)) (hb : H b = some (.dK ls)) (hne : a ≠ b) (hz : kvs.length + ls.length ≤ 100000) (q : ∀ H2, Fr [a] H H2 → Kp H H2 → H2 a = some (.dK (mergeK kvs ls)) → Q .non H2) : DUpdP a (.ref b) H Q :=
  ⟨b, kvs, ls, rfl, hne, ha, .inl hb, hz, q _ (Fr.mut (List.mem_singleton.mpr rfl) (Fr.refl _ _)) (Kp.mut (nt_of ha trivial) (Kp.refl _)) upd_same⟩
def DPopP (a : Addr) (y : V) (H2 : Hp) (Q : VK) : Prop := ∃ kvs k v, H2 a = some (.dK kvs) ∧ y = kV k ∧ valV kvs k = some v ∧ Q v (upd H2 a (.dK (dropK kvs k)))
theorem st_dpop (h : td σ H fun x H1 => ∃ a, x = .ref a ∧ IsD H1 a ∧ ty σ H1 fun y H2 => DPopP a y H2 Q) : tDPop1 td ty σ H Q := h
theorem st_dpopP (h : H a = some (.dK kvs)) (hy : y = kV k) (e : valV kvs k = some v) (q : ∀ H2, Fr [a] H H2 → Kp H H2 → H2 a = some (.dK (dropK kvs k)) → Q v H2) : DPopP a y H Q :=
  ⟨kvs, k, v, h, hy, e, q _ (Fr.mut (List.mem_singleton.mpr rfl) (Fr.refl _ _)) (Kp.mut (nt_of h trivial) (Kp.refl _)) upd_same⟩
/-! displays -/
def DispP (p : Addr) (Q : VK) (ps : List (V × V)) (H2 : Hp) : Prop := H2 p = some (.dK []) ∧ ∃ kvs : List (Key × V), ps = kvs.map (fun kv => (kV kv.1, kv.2)) ∧ kvs.length ≤ 15 ∧ Q (.ref p) (upd H2 p (.dK (mergeK [] kvs)))
theorem st_disp {trs : List (TE × TE)} (q : ∀ p H2, H p = none → Ex H H2 → H2 p = some (.dK []) → tPairs trs σ H2 (DispP p Q)) : tDisp trs σ H Q := fun p hp => q p _ hp (Ex.new hp) upd_same
theorem st_pcons {tk tv : TE} {r : List (TE × TE)} {QP : List (V × V) → Hp → Prop} (h : tk σ H fun x H1 => tv σ H1 fun y H2 => tPairs r σ H2 fun ps H3 => QP ((x, y) :: ps) H3) : tPairs ((tk, tv) :: r) σ H QP := h
theorem st_pnil {QP : List (V × V) → Hp → Prop} (h : QP [] H) : tPairs [] σ H QP := h
theorem st_dispP {ps : List (V × V)} (h : H p = some (.dK [])) (kvs : List (Key × V)) (e : ps = kvs.map fun kv => (kV kv.1, kv.2)) (hl : kvs.length ≤ 15) (q : ∀ H2, Fr [p] H H2 → Kp H H2 → H2 p = some (.dK (mergeK [] kvs)) → Q (.ref p) H2) : DispP p Q ps H :=
  ⟨h, kvs, e, hl, q _ (Fr.mut (List.mem_singleton.mpr rfl) (Fr.refl _ _)) (Kp.mut (nt_of h trivial) (Kp.refl _)) upd_same⟩
/-! slices -/
theorem st_sl {r : V → Option Int → Option Int → Hp → VK → Prop} {tl th : TO} (h : te σ H fun x H1 => tl σ H1 fun lo H2 => th σ H2 fun hi H3 => r x lo hi H3 Q) : L2.tSl r te tl th σ H Q := h
theorem st_npart {QO : Option Int → Hp → Prop} (h : QO none H) : tNoPart σ H QO := h
theorem st_part {QO : Option Int → Hp → Prop} (h : te σ H fun x H1 => ∃ i, x = .int i ∧ QO (some i) H1) : tPart te σ H QO := h
theorem st_pint {i : Int} {F : Int → Prop} (h : F i) : ∃ j, V.int i = .int j ∧ F j := ⟨i, rfl, h⟩
theorem st_slL {lo hi : Option Int} {zs : List V} (h : H l = some (.lst xs)) (e : cutV xs lo hi = zs) (q : ∀ p H2, H p = none → Ex H H2 → H2 p = some (.lst zs) → Q (.ref p) H2) : rSlL K (.ref l) lo hi H Q :=
  ⟨l, xs, rfl, SqL.of h, fun p hp => q p _ hp (Ex.new hp) (by rw [e]; exact upd_same)⟩
theorem cut_both {lo hi : Nat} (h : hi ≤ xs.length) (h2 : lo ≤ hi) : cutV xs (some (lo : Int)) (some (hi : Int)) = (xs.drop lo).take (hi - lo) := by
  unfold cutV
  rw [HT.sIx_nat, HT.sIx_nat, Nat.min_eq_left h, Nat.min_eq_left (Nat.le_trans h2 h)]
theorem cut_to {hi : Nat} (h : hi ≤ xs.length) : cutV xs none (some (hi : Int)) = xs.take hi := by
  unfold cutV
  rw [HT.sIx_nat, Nat.min_eq_left h]
  rfl
theorem cut_from {lo : Nat} (h : lo ≤ xs.length) : cutV xs (some (lo : Int)) none = xs.drop lo := by
  unfold cutV
  rw [HT.sIx_nat, Nat.min_eq_left h]
  show (xs.drop lo).take (xs.length - lo) = _
  rw [List.take_of_length_le (by rw [List.length_drop]; omega)]
theorem st_cat (ha : H a = some (.lst xs)) (hb : H b = some (.lst ys)) (hl : xs.length + ys.length ≤ 100000) (q : ∀ p H2, H p = none → Ex H H2 → H2 p = some (.lst (xs ++ ys)) → Q (.ref p) H2) : rCat (.ref a) (.ref b) H Q :=
  ⟨a, b, xs, ys, rfl, rfl, ha, hb, sz_le hl, fun p hp => q p _ hp (Ex.new hp) upd_same⟩
end
theorem u1 {k : Nat} {A : Around} (h : Room k A) : A.units + 1 < cLine := Nat.lt_of_le_of_lt (Nat.add_le_add_left (by decide) _) h.units
theorem cut_line {ns : List Int} {l : Nat} (h : 4 * l + 4 ≤ ns.length) : cutV (ns.map V.int) (some (4 * (l : Int))) (some (4 * (l : Int) + 4)) = ((ns.drop (4 * l)).take 4).map V.int := by
  have e1 : (4 * (l : Int)) = ((4 * l : Nat) : Int) := by omega
  have e2 : (4 * (l : Int) + 4) = ((4 * l + 4 : Nat) : Int) := by omega
  rw [e2, e1, cut_both (by rw [List.length_map]; exact h) (Nat.le_add_right _ _), Nat.add_sub_cancel_left, List.map_take, List.map_drop]
theorem div4 (c : Nat) : (c : Int) / 4 = ((c / 4 : Nat) : Int) := by omega
theorem mod4 (c : Nat) : (c : Int) % 4 = ((c % 4 : Nat) : Int) := by omega
/-! whether a list is empty -/
theorem eqv_lnil (ds : List PyData) : PyData.eqv (.list ds) (.list []) = ds.isEmpty := by
  cases ds <;> simp [PyData.eqv, PyData.eqvAll]
theorem sh_mv {n : Nat} {m : Mv} : Sh (n + 1) (pyMv m) := by
  refine sh_tup fun d hd => ?_
  simp only [List.mem_cons, List.not_mem_nil, or_false] at hd
  rcases hd with rfl | rfl | rfl
  · exact sh_int
  · exact sh_int
  · exact sh_opt
theorem sh_mvs {ms : List Mv} : SeqAt.shaped (.list (ms.map pyMv)) = true := (sh_lst (n := 1) fun d hd => by
  obtain ⟨m, _, rfl⟩ := List.mem_map.mp hd
  exact sh_mv).shaped
theorem sh_lnil : SeqAt.shaped (.list []) = true := (sh_lst (n := 0) (by simp)).shaped
section
variable {K : PySem.W.Frag} {H : Hp} {Q : VK} {a b : Addr} {xs : List V} {ms : List Mv}
theorem st_neMv (ha : H a = some (.lst xs)) (hi : ImL H (ms.map pyMv) xs) (hb : H b = some (.lst [])) (q : Q (.bl (!ms.isEmpty)) H) : rNeD K (.ref a) (.ref b) H Q := by
  refine st_neD (lst_dp ha hi) (lst_dp hb iml_nil) sh_mvs sh_lnil ?_
  rw [eqv_lnil, show (ms.map pyMv).isEmpty = ms.isEmpty by cases ms <;> rfl]
  exact q
theorem st_eqMv (ha : H a = some (.lst xs)) (hi : ImL H (ms.map pyMv) xs) (hb : H b = some (.lst [])) (q : Q (.bl ms.isEmpty) H) : rEqD K (.ref a) (.ref b) H Q := by
  refine st_eqD (lst_dp ha hi) (lst_dp hb iml_nil) sh_mvs sh_lnil ?_
  rw [eqv_lnil, show (ms.map pyMv).isEmpty = ms.isEmpty by cases ms <;> rfl]
  exact q
end
end BC
/-! BCGo: the run as data: how far it goes, what grows. -/
namespace BC
open PySem PySem.Spec PyProof.Rows L2
/-- only memory, lines and rows differ; rows by n at the most -/
structure Grew (n : Nat) (M M2 : MS) : Prop where
  at_ : M2.at_ = M.at_
  beats : M2.beats = M.beats
  left : M2.left = M.left
  idle : M2.idle = M.idle
  rows : M2.rows.length ≤ M.rows.length + n
section
variable {M : MS}
theorem Grew.refl (n : Nat) (M : MS) : Grew n M M := ⟨rfl, rfl, rfl, rfl, Nat.le_add_right _ _⟩
theorem Grew.trans {a b : Nat} {M M1 M2 : MS} (h : Grew a M M1) (g : Grew b M1 M2) : Grew (a + b) M M2 :=
  ⟨g.at_.trans h.at_, g.beats.trans h.beats, g.left.trans h.left, g.idle.trans h.idle, by have := h.rows; have := g.rows; omega⟩
theorem Grew.mono {a b : Nat} {M M1 : MS} (h : Grew a M M1) (l : a ≤ b) : Grew b M M1 := ⟨h.at_, h.beats, h.left, h.idle, Nat.le_trans h.rows (by omega)⟩
theorem grew_note (w : Str) (p : Nat) (k : Int) : Grew 1 M (M.note w p k) := ⟨rfl, rfl, rfl, rfl, by simp [MS.note]⟩
theorem grew_take (l : Nat) : Grew 1 M (M.take l) := by
  unfold MS.take
  split
  · exact Grew.refl _ _
  · exact ⟨rfl, rfl, rfl, rfl, by simp [MS.note]⟩
theorem grew_read (c : Nat) : Grew 2 M (M.read c) := (grew_take _).trans (grew_note _ _ _)
theorem grew_put (l : Nat) (v : List Int × Bool) : Grew 0 M (M.put l v) := ⟨rfl, rfl, rfl, rfl, Nat.le_refl _⟩
theorem grew_write (c : Nat) (v : Int) : Grew 2 M (M.write c v) := ((grew_take (c / 4)).trans (grew_put (c / 4) _)).trans (grew_note "write" c v)
theorem grew_clean (l : Nat) : Grew 1 M (M.clean l) := by
  unfold MS.clean
  split
  · exact ⟨rfl, rfl, rfl, rfl, by simp [MS.note]⟩
  · exact Grew.refl _ _
theorem grew_drop (l : Nat) : Grew 1 M (M.drop l) := by
  unfold MS.drop
  split
  · exact ⟨rfl, rfl, rfl, rfl, by simp [MS.note]⟩
  · exact Grew.refl _ _
theorem grew_bell (o : Option Nat) : Grew 1 M (M.bell o) := by
  cases o with
  | none => exact Grew.refl _ _
  | some k => exact grew_note _ _ _
/-- what a deed does to the counts -/
theorem deed_grew {cells : Nat} {os : List Ord} (g : OrdsOk cells os) (h4 : os.length ≤ 4) (d : Deed) : (M.deed os d).at_ = M.at_ ∧ (M.deed os d).beats = M.beats ∧ (M.deed os d).idle = M.idle ∧ (M.deed os d).left.length ≤ M.left.length + 32 ∧ (M.deed os d).rows.length ≤ M.rows.length + 6 := by
  have u : ∀ {M2 : MS}, Grew 6 M M2 → M2.at_ = M.at_ ∧ M2.beats = M.beats ∧ M2.idle = M.idle ∧ M2.left.length ≤ M.left.length + 32 ∧ M2.rows.length ≤ M.rows.length + 6 := fun h => ⟨h.at_, h.beats, h.idle, by rw [h.left]; omega, h.rows⟩
  cases d with
  | set c k => exact u ((grew_write c _).mono (by decide))
  | add c o => exact u (((grew_read c).trans (grew_read o)).trans (grew_write c _))
  | say c => exact u (((grew_read c).trans (grew_note "say" c _)).mono (by decide))
  | start k =>
    have hl := moves_len g (os.length - k) k
    refine ⟨rfl, rfl, rfl, ?_, ?_⟩
    · show (M.left ++ movesOf os k).length ≤ _
      rw [List.length_append]
      have : (movesOf os k).length ≤ 8 * os.length := moves_len g _ _
      omega
    · show (M.rows ++ [_]).length ≤ _
      rw [List.length_append, List.length_singleton]
      omega
  | wait => exact u (Grew.refl _ _)
  | clean l => exact u ((grew_clean l).mono (by decide))
  | drop l => exact u ((grew_drop l).mono (by decide))
theorem carry_grew : M.carry.at_ = M.at_ ∧ M.carry.beats = M.beats ∧ M.carry.idle = M.idle ∧ M.carry.left = M.left.tail ∧ M.carry.rows.length ≤ M.rows.length + 3 := by
  unfold MS.carry
  split
  · rename_i e
    rw [e]
    exact ⟨rfl, rfl, rfl, rfl, Nat.le_add_right _ _⟩
  · rename_i m r e
    have h := grew_bell (M := ({ (({ M with left := r } : MS).note "fetch" m.src (M.mem.getD m.src 0)) with mem := M.mem.set m.dst (M.mem.getD m.src 0) } : MS).note "put" m.dst (M.mem.getD m.src 0)) m.bell
    refine ⟨h.at_, h.beats, h.idle, ?_, Nat.le_trans h.rows ?_⟩
    · rw [h.left, e]
      rfl
    · simp [MS.note]
end
/-- what holds while it goes -/
structure Going (b : Bd) (M : MS) : Prop where
  ok : M.Ok b.mem.length
  far : M.beats + M.fuel b ≤ 1980
  rows : M.rows.length ≤ 9 * M.beats
  le : M.at_ ≤ b.prog.length
theorem Going.left {b : Bd} {M : MS} (h : Going b M) : M.left.length ≤ 1980 := by
  have := h.far
  unfold MS.fuel at this
  omega
theorem Going.rows' {b : Bd} {M : MS} (h : Going b M) : M.rows.length ≤ 18000 := by
  have := h.far
  have := h.rows
  omega
theorem Going.init {b : Bd} (g : Good b) : Going b (MS.init b) := by
  have := g.len
  refine ⟨MS.Ok.init, ?_, Nat.le_refl _, Nat.zero_le _⟩
  simp only [MS.init, MS.fuel, List.length_nil]
  omega
section
variable {b : Bd} {M : MS}
/-- the processor's part -/
theorem process_grew (g : Good b) : (M.process b).beats = M.beats ∧ (M.process b).rows.length ≤ M.rows.length + 6 ∧ (M.process b).left.length ≤ M.left.length + 32 ∧
    ((M.process b).idle = true → (M.process b).left = M.left ∧ (M.process b).at_ = M.at_) ∧ ((M.process b).idle = false → (M.process b).fuel b + 1 ≤ M.fuel b) ∧ (M.process b).idle = M.isIdle b.prog := by
  unfold MS.process
  by_cases hi : M.isIdle b.prog = true
  · rw [if_pos hi]
    exact ⟨rfl, Nat.le_add_right _ _, Nat.le_add_right _ _, fun _ => ⟨rfl, rfl⟩, fun z => (by cases z), hi.symm⟩
  · rw [if_neg hi]
    have hlt : M.at_ < b.prog.length := by
      unfold MS.isIdle at hi
      simp only [Bool.or_eq_true, decide_eq_true_eq, not_or] at hi
      omega
    have e : b.prog[M.at_]? = some b.prog[M.at_] := List.getElem?_eq_getElem hlt
    rw [e]
    obtain ⟨h1, h2, h3, h4, h5⟩ := deed_grew (M := { M with idle := false, at_ := M.at_ + 1 }) g.ordsOk g.ords b.prog[M.at_]
    refine ⟨h2, h5, h4, fun z => ?_, fun _ => ?_, ?_⟩
    · have z' : (MS.deed b.ords { M with idle := false, at_ := M.at_ + 1 } b.prog[M.at_]).idle = true := z
      rw [h3] at z'
      cases z'
    · show (b.prog.length - (MS.deed b.ords { M with idle := false, at_ := M.at_ + 1 } b.prog[M.at_]).at_) * 33 + _ + 1 ≤ (b.prog.length - M.at_) * 33 + M.left.length
      rw [h1]
      have h4' : (MS.deed b.ords { M with idle := false, at_ := M.at_ + 1 } b.prog[M.at_]).left.length ≤ M.left.length + 32 := h4
      show (b.prog.length - (M.at_ + 1)) * 33 + (MS.deed b.ords { M with idle := false, at_ := M.at_ + 1 } b.prog[M.at_]).left.length + 1 ≤ _
      omega
    · refine Eq.trans h3 ?_
      show false = _
      exact ((Bool.not_eq_true _).mp hi).symm
theorem beat_less (g : Good b) (ho : M.over b = false) (pace : List Bool) : (M.beat b pace).fuel b < M.fuel b := by
  obtain ⟨h1, h2, h3, h4, h5, h6⟩ := process_grew (M := M) g
  obtain ⟨c1, c2, c3, c4, c5⟩ := carry_grew (M := M.process b)
  unfold MS.beat MS.tick MS.moved
  by_cases hi : (M.process b).idle = true
  · have hp : ((M.process b).pick pace).1 = true := by
      unfold MS.pick MS.mayRest
      rw [hi]
      simp
    rw [hp]
    obtain ⟨e1, e2⟩ := h4 hi
    have hne : M.left ≠ [] := by
      intro z
      rw [hi] at h6
      unfold MS.isIdle at h6
      unfold MS.over at ho
      rw [z] at h6 ho
      simp at h6 ho
      omega
    show (b.prog.length - (M.process b).carry.at_) * 33 + (M.process b).carry.left.length < _
    rw [c1, c4, e2, e1]
    unfold MS.fuel
    cases hl : M.left with
    | nil => exact absurd hl hne
    | cons m r => simp
  · have h5' := h5 (by simpa using hi)
    by_cases hm : ((M.process b).pick pace).1 = true
    · rw [if_pos hm]
      show (b.prog.length - (M.process b).carry.at_) * 33 + (M.process b).carry.left.length < _
      rw [c1, c4]
      unfold MS.fuel at h5' ⊢
      have : (M.process b).left.tail.length ≤ (M.process b).left.length := by simp
      omega
    · rw [if_neg hm]
      show (b.prog.length - (M.process b).at_) * 33 + (M.process b).left.length < _
      unfold MS.fuel at h5' ⊢
      omega
theorem Going.beat (h : Going b M) (g : Good b) (ho : M.over b = false) (pace : List Bool) : Going b (M.beat b pace) := by
  have hf := beat_less g ho pace
  obtain ⟨h1, h2, h3, h4, h5, h6⟩ := process_grew (M := M) g
  obtain ⟨c1, c2, c3, c4, c5⟩ := carry_grew (M := M.process b)
  have hb : (M.beat b pace).beats = M.beats + 1 := by
    unfold MS.beat MS.tick MS.moved
    split
    · show (M.process b).carry.beats + 1 = _
      rw [c2, h1]
    · show (M.process b).beats + 1 = _
      rw [h1]
  have hr : (M.beat b pace).rows.length ≤ M.rows.length + 9 := by
    unfold MS.beat MS.tick MS.moved
    split
    · show (M.process b).carry.rows.length ≤ _
      omega
    · show (M.process b).rows.length ≤ _
      omega
  have := h.far
  have := h.rows
  refine ⟨h.ok.beat g pace, by omega, by omega, ?_⟩
  have ha : (M.process b).at_ ≤ b.prog.length := by
    unfold MS.process
    split
    · exact h.le
    · split
      · rename_i d e
        have := (deed_grew (M := { M with idle := false, at_ := M.at_ + 1 }) g.ordsOk g.ords d).1
        rw [this]
        exact (List.getElem?_eq_some_iff.mp e).1
      · exact h.le
  unfold MS.beat MS.tick MS.moved
  split
  · show (M.process b).carry.at_ ≤ _
    rw [c1]
    exact ha
  · exact ha
end
/-! ### the end -/
theorem clean_out {M : MS} {l : Nat} (h : l ∉ M.held.map (·.1)) : M.clean l = M := by
  unfold MS.clean
  split
  · rename_i e
    have : (hget M.held l).isSome = true := by rw [e]; rfl
    exact absurd (hget_mem.mp this) h
  · rfl
theorem clean_keys (M : MS) (l : Nat) : (M.clean l).held.map (·.1) = M.held.map (·.1) := by
  unfold MS.clean
  split
  · show (hset M.held l _).map (·.1) = _
    rw [hset_keys]
  · rfl
theorem cleans_keys : ∀ (ls : List Nat) (M : MS), (ls.foldl MS.clean M).held.map (·.1) = M.held.map (·.1)
  | [], _ => rfl
  | l :: r, M => by
    rw [List.foldl_cons, cleans_keys r, clean_keys]
theorem cleans_filter : ∀ (ls : List Nat) (M : MS), ls.foldl MS.clean M = (ls.filter fun l => decide (l ∈ M.held.map (·.1))).foldl MS.clean M
  | [], _ => rfl
  | l :: r, M => by
    rw [List.foldl_cons, cleans_filter r, clean_keys]
    by_cases h : l ∈ M.held.map (·.1)
    · rw [List.filter_cons, if_pos (decide_eq_true h), List.foldl_cons]
    · rw [List.filter_cons, if_neg (by simpa using h), clean_out h]
theorem cleans_ok {n : Nat} : ∀ (ls : List Nat) {M : MS}, M.Ok n → (ls.foldl MS.clean M).Ok n
  | [], _, h => h
  | l :: r, M, h => by
    rw [List.foldl_cons]
    exact cleans_ok r (h.clean l)
theorem cleans_grew : ∀ (ls : List Nat) (M : MS), Grew ls.length M (ls.foldl MS.clean M)
  | [], _ => Grew.refl _ _
  | l :: r, M => by
    rw [List.foldl_cons]
    exact ((grew_clean l).trans (cleans_grew r _)).mono (by simp only [List.length_cons]; omega)
/-- the keys in order -/
theorem sorted_keys {n : Nat} {M : MS} (h : M.Ok n) (h16 : n / 4 ≤ 4) {ys : List Int} (hp : ys.Perm (M.held.map fun e => (e.1 : Int))) (hs : ys.Pairwise (· ≤ ·)) :
    ys = ((List.range 4).filter fun l => decide (l ∈ M.held.map (·.1))).map fun l : Nat => (l : Int) := by
  have inj : ∀ {a b : Nat}, (a : Int) = (b : Int) → a = b := fun h => Int.ofNat.inj h
  have nd1 : (M.held.map fun e => (e.1 : Int)).Nodup := by
    have e : (M.held.map fun e => (e.1 : Int)) = (M.held.map (·.1)).map fun l : Nat => (l : Int) := by rw [List.map_map]; rfl
    rw [e]
    exact List.Pairwise.map _ (fun a b hab z => hab (inj z)) h.nd
  have nd2 : (((List.range 4).filter fun l => decide (l ∈ M.held.map (·.1))).map fun l : Nat => (l : Int)).Nodup := by
    refine List.Pairwise.map _ (fun a b hab z => hab (inj z)) (List.Pairwise.filter _ List.nodup_range)
  refine List.Perm.eq_of_pairwise (le := (· ≤ ·)) (fun a b _ _ h1 h2 => Int.le_antisymm h1 h2) hs ?_ (hp.trans ?_)
  · refine List.Pairwise.map (R := fun a b : Nat => a < b) _ (fun a b hab => ?_) (List.Pairwise.filter _ List.pairwise_lt_range)
    show (a : Int) ≤ (b : Int)
    omega
  · rw [List.perm_ext_iff_of_nodup nd1 nd2]
    intro a
    simp only [List.mem_map, List.mem_filter, List.mem_range, decide_eq_true_eq]
    constructor
    · rintro ⟨e, he, rfl⟩
      have := (h.lines e he).1
      exact ⟨e.1, ⟨by omega, ⟨e, he, rfl⟩⟩, rfl⟩
    · rintro ⟨l, ⟨_, ⟨e, he, rfl⟩⟩, rfl⟩
      exact ⟨e, he, rfl⟩
/-! ### a board that a machine goes by -/
def BoardAt (H : Hp) (b : Bd) (vo vp : V) : Prop := Im H (pyOrds (b.ords.map Ord.raw)) vo ∧ Im H (pyProg (b.prog.map Deed.raw)) vp
theorem BoardAt.kp {H H2 : Hp} {b : Bd} {vo vp : V} (h : BoardAt H b vo vp) (k : Kp H H2) : BoardAt H2 b vo vp := ⟨h.1.kp k, h.2.kp k⟩
theorem eqv_wait (d : Deed) : PyData.eqv (pyDeed d.raw) (.tuple [.str "wait"]) = decide (d = .wait) := by
  cases d <;> simp [pyDeed, Deed.raw, PyData.eqv, PyData.eqvAll, ofS_inj, ofS_beq]
theorem sh_deed (d : Deed) : SeqAt.shaped (pyDeed d.raw) = true := by
  refine (sh_tup (n := 0) fun e he => ?_).shaped
  cases d <;> simp only [Deed.raw, List.map_cons, List.map_nil, List.mem_cons, List.not_mem_nil, or_false] at he
  · rcases he with rfl | rfl | rfl
    · exact sh_str (by decide +kernel)
    · exact sh_int
    · exact sh_int
  · rcases he with rfl | rfl | rfl
    · exact sh_str (by decide +kernel)
    · exact sh_int
    · exact sh_int
  · rcases he with rfl | rfl
    · exact sh_str (by decide +kernel)
    · exact sh_int
  · rcases he with rfl | rfl
    · exact sh_str (by decide +kernel)
    · exact sh_int
  · rcases he with rfl
    exact sh_str (by decide +kernel)
  · rcases he with rfl | rfl
    · exact sh_str (by decide +kernel)
    · exact sh_int
  · rcases he with rfl | rfl
    · exact sh_str (by decide +kernel)
    · exact sh_int
theorem st_eqWait {K : PySem.W.Frag} {H H0 : Hp} {Q : VK} {v : V} {t : Addr} {d : Deed} (h : Im H0 (pyDeed d.raw) v) (k : Kp H0 H) (ht : H t = some (.tup [.str "wait"])) (q : Q (.bl (decide (d = .wait))) H) : rEqD K v (.ref t) H Q := by
  refine st_eqD ((h.kp k).dp _ _) ((im_tup ht (iml_cons im_str iml_nil)).dp _ _) (sh_deed d) (sh_deed .wait) ?_
  rw [eqv_wait]
  exact q
theorem st_sorted {K : PySem.W.Frag} {H : Hp} {Q : VK} {a : Addr} {kvs : List (Key × V)} {es : List HE} {cs : List Addr} (h : H a = some (.dK kvs)) (hR : HeldR H kvs es cs) (hl : es.length < 64)
    (q : ∀ (ys : List Int) p H2, ys.Perm (es.map fun e => (e.1 : Int)) → ys.Pairwise (· ≤ ·) → H p = none → Ex H H2 → H2 p = some (.lst (ys.map V.int)) → Q (.ref p) H2) :
    ∃ (a' : Addr) (kvs : List (Key × V)) (ks : List Int), [V.ref a] = [.ref a'] ∧ Rd H a' (.dK kvs) ∧ kvs.map (·.1) = ks.map Sum.inl ∧ ks.length < 64 ∧
      ∀ (ys : List Int) (p : Addr), ys.Perm ks → ys.Pairwise (· ≤ ·) → H p = none → Q (.ref p) (upd H p (.lst (ys.map V.int))) :=
  ⟨a, kvs, _, rfl, .inl h, hR.keys, by rw [List.length_map]; exact hl, fun ys p h1 h2 hp => q ys p _ h1 h2 hp (Ex.new hp) upd_same⟩
theorem iml_bls {H : Hp} : ∀ {bs : List Bool}, ImL H (bs.map PyData.bool) (bs.map V.bl)
  | [] => iml_nil
  | _ :: _ => iml_cons im_bl iml_bls
theorem sh_bls {bs : List Bool} : SeqAt.shaped (.list (bs.map PyData.bool)) = true := (sh_lst (n := 0) fun d hd => by
  obtain ⟨m, _, rfl⟩ := List.mem_map.mp hd
  exact sh_bool).shaped
theorem st_neBl {K : PySem.W.Frag} {H : Hp} {Q : VK} {a b : Addr} {bs : List Bool} (ha : H a = some (.lst (bs.map V.bl))) (hb : H b = some (.lst [])) (q : Q (.bl (!bs.isEmpty)) H) : rNeD K (.ref a) (.ref b) H Q := by
  refine st_neD (lst_dp ha iml_bls) (lst_dp hb iml_nil) sh_bls sh_lnil ?_
  rw [eqv_lnil, show (bs.map PyData.bool).isEmpty = bs.isEmpty by cases bs <;> rfl]
  exact q
def saidOf (rs : List Row) : List Int := (rs.filter fun r => decide (r.2.1 = ("say" : Str))).map fun r => r.2.2.2
/-- [row[3] for row in rows if row[1] == "say"] -/
theorem st_said {K : PySem.W.Frag} {σ : L2.St} {H1 : Hp} {Q : VK} {l : Addr} {i : Nat} {own : List Nat} {rs : List Row} {xs : List V} (h : H1 l = some (.lst xs)) (hi : ImL H1 (rs.map pyRow) xs) (hn : rs.length ≤ 50000)
    (hv : ∀ v, ((wipe σ own).set i (some v))[i]? = some (some v)) (hw : ∀ v, wipe ((wipe σ own).set i (some v)) own = wipe σ own)
    (q : ∀ D H2, H1 D = none → Ex H1 H2 → H2 D = some (.lst ((saidOf rs).map V.int)) → Q (.ref D) H2) :
    LcL K (gName i) (tTest (tOp rEq (tOp (rIxT K) (tVar i) (tC (.int 1))) (tC (.str "say")))) (tOp (rIxT K) (tVar i) (tC (.int 3))) own σ (.ref l) H1 Q := by
  refine st_lcList (SqL.of h) fun D H2 nD e2 hD => ?_
  refine ⟨fun j H' => Ex H1 H' ∧ H' D = some (.lst ((saidOf (rs.take j)).map V.int)), ⟨e2, hD⟩, fun j H' hh => SqL.of (hh.1 _ _ h), fun j v H' hv1 hh => ?_, fun H' hh => ?_⟩
  · obtain ⟨e', hacc⟩ := hh
    obtain ⟨dd, g1, g2⟩ := hi.get' hv1
    obtain ⟨r, g3, rfl⟩ := map_at' g1
    refine st_name ⟨hw v, ?_⟩
    have g2' := g2.ex e'
    refine st_test (st_op (st_op (st_var (hv v) (st_c ?_))))
    refine st_ixT_str g2' (Kp.refl _) (atI_nat (j := 1) rfl) ?_
    refine st_c (st_eqS (st_bl ?_))
    have ht : rs.take (j + 1) = rs.take j ++ [r] := by rw [List.take_add_one, g3]; rfl
    refine st_D (fun hs => ?_) (fun hs => ?_)
    · refine st_op (st_var (hv v) (st_c ?_))
      refine st_ixT_int g2' (Kp.refl _) (atI_nat (j := 3) rfl) ?_
      have hl : ((saidOf (rs.take j)).map V.int).length ≤ rs.length := by
        rw [List.length_map]
        unfold saidOf
        rw [List.length_map]
        exact Nat.le_trans (List.length_filter_le _ _) (by rw [List.length_take]; omega)
      refine st_lcPut hacc (by omega) fun H5 f5 k5 h5 => ?_
      refine ⟨Fr.ex e' (fun a ha => by rw [List.mem_singleton.mp ha]; exact nD) f5, ?_⟩
      rw [h5, ht]
      unfold saidOf
      rw [List.filter_append, List.filter_cons, if_pos (decide_eq_true hs)]
      simp
    · refine ⟨e', ?_⟩
      rw [hacc, ht]
      unfold saidOf
      rw [List.filter_append, List.filter_cons, if_neg (by simpa using hs)]
      simp
  · obtain ⟨e', hacc⟩ := hh
    rw [hi.length, List.length_map, List.take_length] at hacc
    exact q D H' nD e' hacc
/-- how much a run tells -/
theorem run_going {b : Bd} (g : Good b) : ∀ (n : Nat) {M : MS} (pace : List Bool), Going b M → Going b (MS.run b n M pace)
  | 0, _, _, h => h
  | n + 1, M, pace, h => by
    show Going b (if M.over b = true then M else _)
    by_cases ho : M.over b = true
    · rw [if_pos ho]
      exact h
    · rw [if_neg ho]
      exact run_going g n _ (h.beat g (by simpa using ho) pace)
theorem gone_ok {b : Bd} (g : Good b) (pace : List Bool) : (goneOf b pace).Ok b.mem.length ∧ (goneOf b pace).rows.length ≤ 18010 ∧ (goneOf b pace).beats ≤ 1980 := by
  have h := run_going g 1980 pace (Going.init g)
  have gr := cleans_grew (List.range 4) (MS.run b 1980 (MS.init b) pace)
  have h1 := h.rows'
  have h2 := h.far
  have h3 := gr.rows
  have h4 := gr.beats
  rw [List.length_range] at h3
  have e : goneOf b pace = (List.range 4).foldl MS.clean (MS.run b 1980 (MS.init b) pace) := rfl
  rw [e]
  exact ⟨cleans_ok _ h.ok, by omega, by rw [h4]; omega⟩
def MS.start (ns : List Int) : MS := ⟨ns, [], [], 0, 0, [], false, 0, 0⟩
/-- the parts of a board, memory a list or a tuple -/
def Parts (H : Hp) (x vo vp : V) (ns : List Int) : Prop := ∃ ax am, x = .ref ax ∧ H ax = some (.tup [.ref am, vo, vp]) ∧ (H am = some (.lst (ns.map V.int)) ∨ H am = some (.tup (ns.map V.int)))
theorem Im.parts {H : Hp} {b : Bd} {x : V} (h : Im H (pyB b.raw) x) : ∃ vo vp, Parts H x vo vp b.mem ∧ BoardAt H b vo vp := by
  obtain ⟨ax, xs, rfl, hax, hxs⟩ := h.tup
  obtain ⟨vm, xs, rfl, hm, hxs⟩ := hxs.cons_inv
  obtain ⟨vo, xs, rfl, hos, hxs⟩ := hxs.cons_inv
  obtain ⟨vp, xs, rfl, hpr, hxs⟩ := hxs.cons_inv
  cases hxs.nil_inv
  obtain ⟨am, xm, rfl, ham, hxm⟩ := hm.tup
  cases ImL.ints.mp hxm
  exact ⟨vo, vp, ⟨ax, am, rfl, hax, .inr ham⟩, hos, hpr⟩
theorem BoxAt.new {H : Hp} {b l D : Addr} (h : BoxAt H b l) (n : H D = none) : D ∉ [b, l] := by
  obtain ⟨_, h1, _⟩ := h.box
  obtain ⟨_, h2⟩ := h.nums
  simp only [List.mem_cons, List.not_mem_nil, or_false, not_or]
  exact ⟨fun z => (by rw [z, h1] at n; cases n), fun z => (by rw [z, h2] at n; cases n)⟩
theorem Dr.free {b l D : Addr} {H H1 : Hp} (d : Dr b l H H1) (n : H1 D = none) : H D = none := by
  cases e : H D with
  | none => rfl
  | some o =>
    have := d.1 D o e (d.2.2.new n)
    rw [this] at n
    cases n
theorem log_small {z : Int} (hz : z.natAbs < 512) : z.natAbs.log2 < 9000 := by
  have := Nat.log2_le_self z.natAbs
  omega
/-! ### the words of the rows -/
def RowsOk (M : MS) : Prop := ∀ r ∈ M.rows, PyData.strOk r.2.1 = true
section
variable {M : MS}
theorem RowsOk.note (h : RowsOk M) {w : Str} (hw : PyData.strOk w = true) (p : Nat) (k : Int) : RowsOk (M.note w p k) := fun r hr => by
  rcases List.mem_append.mp hr with hr | hr
  · exact h r hr
  · rw [List.mem_singleton.mp hr]
    exact hw
theorem RowsOk.take (h : RowsOk M) (l : Nat) : RowsOk (M.take l) := by
  unfold MS.take
  split
  · exact h
  · exact RowsOk.note (M := { M with held := _ }) h (by decide +kernel) _ _
theorem RowsOk.read (h : RowsOk M) (c : Nat) : RowsOk (M.read c) := (h.take _).note (by decide +kernel) _ _
theorem RowsOk.write (h : RowsOk M) (c : Nat) (v : Int) : RowsOk (M.write c v) := RowsOk.note (M := (M.take (c / 4)).put (c / 4) _) (h.take _) (by decide +kernel) _ _
theorem RowsOk.clean (h : RowsOk M) (l : Nat) : RowsOk (M.clean l) := by
  unfold MS.clean
  split
  · exact RowsOk.note (M := { M with mem := _, held := _ }) h (by decide +kernel) _ _
  · exact h
theorem RowsOk.drop (h : RowsOk M) (l : Nat) : RowsOk (M.drop l) := by
  unfold MS.drop
  split
  · exact RowsOk.note (M := { M with held := _ }) h (by decide +kernel) _ _
  · exact h
theorem RowsOk.deed (h : RowsOk M) (os : List Ord) (d : Deed) : RowsOk (M.deed os d) := by
  cases d with
  | set c k => exact h.write c _
  | add c o => exact ((h.read c).read o).write c _
  | say c => exact (h.read c).note (by decide +kernel) _ _
  | start k => exact RowsOk.note (M := { M with left := _ }) h (by decide +kernel) _ _
  | wait => exact h
  | clean l => exact h.clean l
  | drop l => exact h.drop l
theorem RowsOk.process (h : RowsOk M) (b : Bd) : RowsOk (M.process b) := by
  unfold MS.process
  split
  · exact h
  · split
    · exact RowsOk.deed (M := { M with idle := false, at_ := M.at_ + 1 }) h _ _
    · exact h
theorem RowsOk.bell (h : RowsOk M) (o : Option Nat) : RowsOk (M.bell o) := by
  cases o with
  | none => exact h
  | some k => exact h.note (by decide +kernel) _ _
theorem RowsOk.carry (h : RowsOk M) : RowsOk M.carry := by
  unfold MS.carry
  split
  · exact h
  · rename_i m r e
    have h1 : RowsOk (({ M with left := r } : MS).note "fetch" m.src (M.mem.getD m.src 0)) := RowsOk.note (M := { M with left := r }) h (by decide +kernel) _ _
    exact RowsOk.bell (RowsOk.note (M := { (({ M with left := r } : MS).note "fetch" m.src (M.mem.getD m.src 0)) with mem := M.mem.set m.dst (M.mem.getD m.src 0) }) h1 (by decide +kernel) _ _) _
theorem RowsOk.beat (h : RowsOk M) (b : Bd) (pace : List Bool) : RowsOk (M.beat b pace) := by
  unfold MS.beat MS.tick MS.moved
  split
  · exact (h.process b).carry
  · exact h.process b
theorem RowsOk.run (b : Bd) : ∀ (n : Nat) {M : MS} (pace : List Bool), RowsOk M → RowsOk (MS.run b n M pace)
  | 0, _, _, h => h
  | n + 1, M, pace, h => by
    show RowsOk (if M.over b = true then M else _)
    split
    · exact h
    · exact RowsOk.run b n _ (h.beat b pace)
theorem RowsOk.cleans : ∀ (ls : List Nat) {M : MS}, RowsOk M → RowsOk (ls.foldl MS.clean M)
  | [], _, h => h
  | l :: r, M, h => by
    rw [List.foldl_cons]
    exact RowsOk.cleans r (h.clean l)
theorem gone_rows (b : Bd) (pace : List Bool) : RowsOk (goneOf b pace) := RowsOk.cleans _ (RowsOk.run b 1980 pace fun r hr => by cases hr)
end
theorem al_rows {n : Nat} {M : MS} (h : RowsOk M) (hl : M.rows.length ≤ 100000) : Al (n + 2) (.list (M.rows.map pyRow)) := al_lst (by rw [List.length_map]; omega) fun d hd => by
  obtain ⟨r, hr, rfl⟩ := List.mem_map.mp hd
  refine al_tup (by simp) fun e he => ?_
  simp only [List.mem_cons, List.not_mem_nil, or_false] at he
  rcases he with rfl | rfl | rfl | rfl
  · exact al_int
  · exact al_str (h r hr)
  · exact al_int
  · exact al_int
theorem saidOf_len (rs : List Row) : (saidOf rs).length ≤ rs.length := by
  unfold saidOf
  rw [List.length_map]
  exact List.length_filter_le _ _
theorem st_neSame {K : PySem.W.Frag} {H : Hp} {Q : VK} {a b : Addr} {bs : List Bool} (ha : H a = some (.lst (bs.map V.bl))) (hb : H b = some (.lst (bs.map V.bl))) (q : Q (.bl false) H) : rNeD K (.ref a) (.ref b) H Q := by
  refine st_neD (lst_dp ha iml_bls) (lst_dp hb iml_bls) sh_bls sh_bls ?_
  rw [eqv_same (n := 1) (sh_lst fun d hd => by
    obtain ⟨m, _, rfl⟩ := List.mem_map.mp hd
    exact sh_bool)]
  exact q
end BC
/-! BCAmiss: the readings of a run stand in turn with those that are due. -/
namespace BC
open PySem PySem.Spec PyProof.Rows L2
def cellsOf (w : Str) (rs : List Row) : List Nat := (rs.filter fun r => decide (r.2.1 = w)).map fun r => r.2.2.1
theorem cellsOf_snoc (w w' : Str) (rs : List Row) (t p : Nat) (k : Int) : cellsOf w (rs ++ [(t, w', p, k)]) = cellsOf w rs ++ (if w' = w then [p] else []) := by
  unfold cellsOf
  rw [List.filter_append, List.filter_cons]
  by_cases h : w' = w
  · rw [if_pos (decide_eq_true h), if_pos h]
    simp
  · rw [if_neg (by simpa using h), if_neg h]
    simp
def readsOf : Deed → List Nat
  | .add c o => [c, o]
  | .say c => [c]
  | _ => []
def startMoves (os : List Ord) : Deed → List Mv
  | .start k => movesOf os k
  | _ => []
/-- what the rows tell more -/
structure Tells (M M2 : MS) (rd ft : List Nat) : Prop where
  rd : cellsOf "read" M2.rows = cellsOf "read" M.rows ++ rd
  ft : cellsOf "fetch" M2.rows = cellsOf "fetch" M.rows ++ ft
section
variable {M : MS}
theorem Tells.none {M2 : MS} (h : M2.rows = M.rows) : Tells M M2 [] [] := ⟨by rw [h]; simp, by rw [h]; simp⟩
theorem Tells.trans {M1 M2 : MS} {a b c d : List Nat} (h : Tells M M1 a b) (g : Tells M1 M2 c d) : Tells M M2 (a ++ c) (b ++ d) := ⟨by rw [g.rd, h.rd, List.append_assoc], by rw [g.ft, h.ft, List.append_assoc]⟩
theorem tells_note {w : Str} {p : Nat} {k : Int} : Tells M (M.note w p k) (if w = ("read" : Str) then [p] else []) (if w = ("fetch" : Str) then [p] else []) := ⟨cellsOf_snoc _ _ _ _ _ _, cellsOf_snoc _ _ _ _ _ _⟩
theorem tells_other {w : String} {p : Nat} {k : Int} (h1 : w ≠ "read") (h2 : w ≠ "fetch") : Tells M (M.note (Str.ofString w) p k) [] [] := by
  have := tells_note (M := M) (w := Str.ofString w) (p := p) (k := k)
  rwa [if_neg (fun z => h1 (ofS_inj.mp z)), if_neg (fun z => h2 (ofS_inj.mp z))] at this
theorem tells_via {M0 : MS} {w : String} {p : Nat} {k : Int} (h : M0.rows = M.rows) (h1 : w ≠ "read") (h2 : w ≠ "fetch") : Tells M (M0.note (Str.ofString w) p k) [] [] := by
  have := tells_other (M := M0) (p := p) (k := k) h1 h2
  exact ⟨by rw [this.rd, h], by rw [this.ft, h]⟩
theorem tells_take (l : Nat) : Tells M (M.take l) [] [] := by
  unfold MS.take
  split
  · exact Tells.none rfl
  · exact tells_via (w := "take") rfl (by decide) (by decide)
theorem tells_read (c : Nat) : Tells M (M.read c) [c] [] := by
  have h : Tells (M.take (c / 4)) (M.read c) [c] [] := by
    have := tells_note (M := M.take (c / 4)) (w := "read") (p := c) (k := M.val c)
    rwa [if_pos rfl, if_neg (fun z => by have := ofS_inj.mp z; simp at this)] at this
  exact (tells_take _).trans h
theorem tells_write (c : Nat) (v : Int) : Tells M (M.write c v) [] [] := by
  exact (tells_take (c / 4)).trans (tells_via (w := "write") (M0 := (M.take (c / 4)).put (c / 4) (((M.take (c / 4)).cells (c / 4)).set (c % 4) v, true)) rfl (by decide) (by decide))
theorem tells_clean (l : Nat) : Tells M (M.clean l) [] [] := by
  unfold MS.clean
  split
  · exact tells_via (w := "clean") rfl (by decide) (by decide)
  · exact Tells.none rfl
theorem tells_drop (l : Nat) : Tells M (M.drop l) [] [] := by
  unfold MS.drop
  split
  · exact tells_via (w := "drop") rfl (by decide) (by decide)
  · exact Tells.none rfl
theorem tells_deed (os : List Ord) (d : Deed) : Tells M (M.deed os d) (readsOf d) [] := by
  cases d with
  | set c k => exact tells_write c _
  | add c o => exact ((tells_read c).trans (tells_read o)).trans (tells_write c _)
  | say c => exact (tells_read c).trans (tells_other (w := "say") (by decide) (by decide))
  | start k => exact tells_via (w := "start") rfl (by decide) (by decide)
  | wait => exact Tells.none rfl
  | clean l => exact tells_clean l
  | drop l => exact tells_drop l
theorem deed_left (os : List Ord) (d : Deed) : (M.deed os d).left = M.left ++ startMoves os d ∧ (M.deed os d).at_ = M.at_ := by
  cases d with
  | set c k => exact ⟨by rw [show (M.deed os (.set c k)).left = M.left from (grew_write c _).left]; simp [startMoves], (grew_write c _).at_⟩
  | add c o =>
    have h := ((grew_read (M := M) c).trans (grew_read o)).trans (grew_write c ((M.val c + (M.read c).val o) % 10))
    exact ⟨by rw [show (M.deed os (.add c o)).left = M.left from h.left]; simp [startMoves], h.at_⟩
  | say c => exact ⟨by rw [show (M.deed os (.say c)).left = M.left from (grew_read c).left]; simp [startMoves], (grew_read c).at_⟩
  | start k => exact ⟨rfl, rfl⟩
  | wait => exact ⟨by simp [MS.deed, startMoves], rfl⟩
  | clean l => exact ⟨by rw [show (M.deed os (.clean l)).left = M.left from (grew_clean l).left]; simp [startMoves], (grew_clean l).at_⟩
  | drop l => exact ⟨by rw [show (M.deed os (.drop l)).left = M.left from (grew_drop l).left]; simp [startMoves], (grew_drop l).at_⟩
theorem tells_bell (o : Option Nat) : Tells M (M.bell o) [] [] := by
  cases o with
  | none => exact Tells.none rfl
  | some k => exact tells_other (w := "bell") (by decide) (by decide)
theorem tells_carry : Tells M M.carry [] (M.left.take 1 |>.map (·.src)) := by
  unfold MS.carry
  split
  · rename_i e
    rw [e]
    exact Tells.none rfl
  · rename_i m r e
    rw [e]
    have h1 : Tells ({ M with left := r } : MS) (({ M with left := r } : MS).note "fetch" m.src (M.mem.getD m.src 0)) [] [m.src] := by
      have := tells_note (M := { M with left := r }) (w := "fetch") (p := m.src) (k := M.mem.getD m.src 0)
      rwa [if_neg (fun z => by have := ofS_inj.mp z; simp at this), if_pos rfl] at this
    have h2 := (Tells.none (M := (({ M with left := r } : MS).note "fetch" m.src (M.mem.getD m.src 0))) (M2 := { (({ M with left := r } : MS).note "fetch" m.src (M.mem.getD m.src 0)) with mem := M.mem.set m.dst (M.mem.getD m.src 0) }) rfl).trans (tells_other (w := "put") (p := m.dst) (k := M.mem.getD m.src 0) (by decide) (by decide))
    exact (((Tells.none (M := M) (M2 := { M with left := r }) rfl).trans h1).trans h2).trans (tells_bell m.bell)
end
/-- the rows so far tell of just what is done so far -/
structure Told (b : Bd) (M : MS) : Prop where
  rd : cellsOf "read" M.rows = (b.prog.take M.at_).flatMap readsOf
  ft : cellsOf "fetch" M.rows ++ M.left.map (·.src) = ((b.prog.take M.at_).flatMap (startMoves b.ords)).map (·.src)
theorem Told.init (b : Bd) : Told b (MS.init b) := ⟨by simp [MS.init, cellsOf], by simp [MS.init, cellsOf]⟩
section
variable {b : Bd} {M : MS}
theorem Told.process (h : Told b M) : Told b (M.process b) := by
  unfold MS.process
  split
  · exact ⟨h.rd, h.ft⟩
  · split
    · rename_i d e
      obtain ⟨h1, h2⟩ := deed_left (M := { M with idle := false, at_ := M.at_ + 1 }) b.ords d
      have t := tells_deed (M := { M with idle := false, at_ := M.at_ + 1 }) b.ords d
      have et : b.prog.take (M.at_ + 1) = b.prog.take M.at_ ++ [d] := by rw [List.take_add_one, e]; rfl
      constructor
      · rw [t.rd, h2]
        show cellsOf "read" M.rows ++ readsOf d = (b.prog.take (M.at_ + 1)).flatMap readsOf
        rw [et, h.rd, List.flatMap_append]
        simp
      · rw [t.ft, h1, h2]
        show (cellsOf "fetch" M.rows ++ []) ++ (M.left ++ startMoves b.ords d).map (·.src) = ((b.prog.take (M.at_ + 1)).flatMap (startMoves b.ords)).map (·.src)
        rw [et, List.flatMap_append, List.map_append, List.map_append, ← h.ft]
        simp
    · exact h
theorem Told.carry (h : Told b M) : Told b M.carry := by
  obtain ⟨c1, c2, c3, c4, c5⟩ := carry_grew (M := M)
  have t := tells_carry (M := M)
  constructor
  · rw [t.rd, c1, List.append_nil]
    exact h.rd
  · rw [t.ft, c1, c4, ← h.ft, List.append_assoc]
    congr 1
    cases M.left <;> simp
theorem Told.beat (h : Told b M) (pace : List Bool) : Told b (M.beat b pace) := by
  unfold MS.beat MS.tick MS.moved
  split
  · exact ⟨h.process.carry.rd, h.process.carry.ft⟩
  · exact ⟨h.process.rd, h.process.ft⟩
theorem Told.run (b : Bd) : ∀ (n : Nat) {M : MS} (pace : List Bool), Told b M → Told b (MS.run b n M pace)
  | 0, _, _, h => h
  | n + 1, M, pace, h => by
    show Told b (if M.over b = true then M else _)
    split
    · exact h
    · exact Told.run b n _ (h.beat pace)
theorem run_over (g : Good b) : ∀ (n : Nat) {M : MS} (pace : List Bool), M.fuel b ≤ n → (MS.run b n M pace).over b = true
  | 0, M, _, h => by
    show M.over b = true
    unfold MS.fuel at h
    unfold MS.over
    rw [List.length_eq_zero_iff.mp (show M.left.length = 0 by omega), decide_eq_true (by omega)]
    rfl
  | n + 1, M, pace, h => by
    show (if M.over b = true then M else _).over b = true
    by_cases ho : M.over b = true
    · rw [if_pos ho]
      exact ho
    · rw [if_neg ho]
      have := beat_less g (by simpa using ho) pace
      exact run_over g n _ (by omega)
theorem cleans_tells : ∀ (ls : List Nat) (M : MS), Tells M (ls.foldl MS.clean M) [] []
  | [], _ => Tells.none rfl
  | l :: r, M => by
    rw [List.foldl_cons]
    exact (tells_clean l).trans (cleans_tells r _)
end
/-- the whole run -/
theorem gone_told {b : Bd} (g : Good b) (pace : List Bool) : cellsOf "read" (goneOf b pace).rows = b.prog.flatMap readsOf ∧ cellsOf "fetch" (goneOf b pace).rows = (b.prog.flatMap (startMoves b.ords)).map (·.src) := by
  have h := Told.run b 1980 pace (Told.init b)
  have ho := run_over g 1980 pace (show (MS.init b).fuel b ≤ 1980 by have := (Going.init g).far; omega)
  have t := cleans_tells (List.range 4) (MS.run b 1980 (MS.init b) pace)
  have e : goneOf b pace = (List.range 4).foldl MS.clean (MS.run b 1980 (MS.init b) pace) := rfl
  rw [e, t.rd, t.ft, List.append_nil, List.append_nil]
  unfold MS.over at ho
  simp only [Bool.and_eq_true, decide_eq_true_eq, List.isEmpty_iff] at ho
  have h1 := h.rd
  have h2 := h.ft
  rw [List.take_of_length_le ho.1] at h1 h2
  rw [ho.2] at h2
  exact ⟨h1, by simpa using h2⟩
theorem plain_fetches : ∀ (ms : List Mv) (S : PS), (ms.foldl PS.move S).fetches.map (·.1) = S.fetches.map (·.1) ++ ms.map (·.src) ∧ (ms.foldl PS.move S).reads = S.reads
  | [], S => by simp
  | m :: r, S => by
    obtain ⟨h1, h2⟩ := plain_fetches r (S.move m)
    rw [List.foldl_cons, h1, h2]
    simp [PS.move]
theorem plain_deed (os : List Ord) (S : PS) (d : Deed) : (PS.deed os S d).reads.map (·.1) = S.reads.map (·.1) ++ readsOf d ∧ (PS.deed os S d).fetches.map (·.1) = S.fetches.map (·.1) ++ (startMoves os d).map (·.src) := by
  cases d with
  | start k =>
    obtain ⟨h1, h2⟩ := plain_fetches (movesOf os k) S
    exact ⟨by show (((movesOf os k).foldl PS.move S).reads).map _ = _; rw [h2]; simp [readsOf], h1⟩
  | _ => simp [PS.deed, PS.set, PS.look, readsOf, startMoves]
theorem plain_told (os : List Ord) : ∀ (p : List Deed) (S : PS), (p.foldl (PS.deed os) S).reads.map (·.1) = S.reads.map (·.1) ++ p.flatMap readsOf ∧ (p.foldl (PS.deed os) S).fetches.map (·.1) = S.fetches.map (·.1) ++ (p.flatMap (startMoves os)).map (·.src)
  | [], S => by simp
  | d :: r, S => by
    obtain ⟨h1, h2⟩ := plain_told os r (PS.deed os S d)
    obtain ⟨g1, g2⟩ := plain_deed os S d
    rw [List.foldl_cons, h1, h2, g1, g2]
    simp
/-- as many readings as are due -/
theorem reads_due {b : Bd} (g : Good b) (pace : List Bool) : cellsOf "read" (goneOf b pace).rows = (plainOf b).reads.map (·.1) ∧ cellsOf "fetch" (goneOf b pace).rows = (plainOf b).fetches.map (·.1) := by
  obtain ⟨h1, h2⟩ := gone_told g pace
  obtain ⟨p1, p2⟩ := plain_told b.ords b.prog (PS.init b.mem)
  constructor
  · rw [h1]
    exact p1.symm
  · rw [h2]
    exact p2.symm
/-! ### what is amiss -/
structure AS where
  rs : List (Nat × Int)
  fs : List (Nat × Int)
  found : List Row
def AS.step (S : AS) (r : Row) : AS :=
  if r.2.1 = ("read" : Str) then { S with rs := S.rs.tail, found := S.found ++ (if S.rs.head? = some r.2.2 then [] else [r]) }
  else if r.2.1 = ("fetch" : Str) then { S with fs := S.fs.tail, found := S.found ++ (if S.fs.head? = some r.2.2 then [] else [r]) } else S
def endRow (beats : Nat) (mem aim : List Int) (c : Nat) : List Row := if mem.getD c 0 = aim.getD c 0 then [] else [(beats, "end", c, mem.getD c 0)]
def amissRows (b : Bd) (pace : List Bool) : AS := (goneOf b pace).rows.foldl AS.step ⟨(plainOf b).reads, (plainOf b).fetches, []⟩
def amissOf (b : Bd) (pace : List Bool) : List Row := (amissRows b pace).found ++ (List.range (goneOf b pace).mem.length).flatMap (endRow (goneOf b pace).beats (goneOf b pace).mem (plainOf b).mem)
theorem step_lens (rows : List Row) (S : AS) : (rows.foldl AS.step S).rs.length = S.rs.length - (cellsOf "read" rows).length ∧ (rows.foldl AS.step S).fs.length = S.fs.length - (cellsOf "fetch" rows).length ∧ (rows.foldl AS.step S).found.length ≤ S.found.length + rows.length := by
  induction rows generalizing S with
  | nil => simp [cellsOf]
  | cons r rest ih =>
    obtain ⟨h1, h2, h3⟩ := ih (S.step r)
    have ne : (Str.ofString "fetch") ≠ Str.ofString "read" := fun z => by have := ofS_inj.mp z; simp at this
    rw [List.foldl_cons, h1, h2]
    unfold AS.step at h3 ⊢
    by_cases e1 : r.2.1 = ("read" : Str)
    · rw [if_pos e1] at h3 ⊢
      have c1 : cellsOf "read" (r :: rest) = r.2.2.1 :: cellsOf "read" rest := by
        unfold cellsOf
        rw [List.filter_cons, if_pos (decide_eq_true e1)]
        rfl
      have c2 : cellsOf "fetch" (r :: rest) = cellsOf "fetch" rest := by
        unfold cellsOf
        rw [List.filter_cons, if_neg (by rw [e1]; simpa using ne.symm)]
      rw [c1, c2]
      refine ⟨by simp; omega, rfl, Nat.le_trans h3 ?_⟩
      simp only [List.length_append, List.length_cons]
      split <;> simp <;> omega
    · rw [if_neg e1] at h3 ⊢
      have c1 : cellsOf "read" (r :: rest) = cellsOf "read" rest := by
        unfold cellsOf
        rw [List.filter_cons, if_neg (by simpa using e1)]
      rw [c1]
      by_cases e2 : r.2.1 = ("fetch" : Str)
      · rw [if_pos e2] at h3 ⊢
        have c2 : cellsOf "fetch" (r :: rest) = r.2.2.1 :: cellsOf "fetch" rest := by
          unfold cellsOf
          rw [List.filter_cons, if_pos (decide_eq_true e2)]
          rfl
        rw [c2]
        refine ⟨rfl, by simp; omega, Nat.le_trans h3 ?_⟩
        simp only [List.length_append, List.length_cons]
        split <;> simp <;> omega
      · rw [if_neg e2] at h3 ⊢
        have c2 : cellsOf "fetch" (r :: rest) = cellsOf "fetch" rest := by
          unfold cellsOf
          rw [List.filter_cons, if_neg (by simpa using e2)]
        rw [c2]
        exact ⟨rfl, rfl, by simp only [List.length_cons]; omega⟩
/-- where the next row is a read there is one that is due -/
theorem due_left {b : Bd} (g : Good b) (pace : List Bool) {i : Nat} {r : Row} (hi : (goneOf b pace).rows[i]? = some r) :
    (r.2.1 = ("read" : Str) → (((goneOf b pace).rows.take i).foldl AS.step ⟨(plainOf b).reads, (plainOf b).fetches, []⟩).rs ≠ []) ∧ (r.2.1 = ("fetch" : Str) → (((goneOf b pace).rows.take i).foldl AS.step ⟨(plainOf b).reads, (plainOf b).fetches, []⟩).fs ≠ []) := by
  obtain ⟨d1, d2⟩ := reads_due g pace
  obtain ⟨s1, s2, _⟩ := step_lens ((goneOf b pace).rows.take i) ⟨(plainOf b).reads, (plainOf b).fetches, []⟩
  have key : ∀ (w : Str), r.2.1 = w → (cellsOf w ((goneOf b pace).rows.take i)).length < (cellsOf w (goneOf b pace).rows).length := by
    intro w hw
    have e : (goneOf b pace).rows = (goneOf b pace).rows.take i ++ r :: (goneOf b pace).rows.drop (i + 1) := by
      have := List.getElem?_eq_some_iff.mp hi
      obtain ⟨h, e⟩ := this
      rw [← e, ← List.drop_eq_getElem_cons h, List.take_append_drop]
    rw [e]
    unfold cellsOf
    simp only [List.take_append_drop, List.filter_append, List.map_append, List.length_append, List.filter_cons, if_pos (decide_eq_true hw), List.map_cons, List.length_cons]
    rw [← e]
    omega
  constructor
  · intro hw z
    have := key _ hw
    rw [d1] at this
    rw [z] at s1
    simp at s1 this
    omega
  · intro hw z
    have := key _ hw
    rw [d2] at this
    rw [z] at s2
    simp at s2 this
    omega
theorem amissOf_len {b : Bd} (g : Good b) (pace : List Bool) : (amissOf b pace).length ≤ 18100 := by
  obtain ⟨g1, g2, g3⟩ := gone_ok g pace
  obtain ⟨_, _, s3⟩ := step_lens (goneOf b pace).rows ⟨(plainOf b).reads, (plainOf b).fetches, []⟩
  have hl := g1.len
  have gl := g.lines
  have key : ∀ (ls : List Nat), (ls.flatMap (endRow (goneOf b pace).beats (goneOf b pace).mem (plainOf b).mem)).length ≤ ls.length := by
    intro ls
    induction ls with
    | nil => simp
    | cons l r ih =>
      rw [List.flatMap_cons, List.length_append, List.length_cons]
      have : (endRow (goneOf b pace).beats (goneOf b pace).mem (plainOf b).mem l).length ≤ 1 := by
        unfold endRow
        split <;> simp
      omega
  unfold amissOf
  rw [List.length_append]
  have h1 := key (List.range (goneOf b pace).mem.length)
  rw [List.length_range] at h1
  have h2 : (amissRows b pace).found.length ≤ 0 + (goneOf b pace).rows.length := s3
  omega
end BC
/-! BCMore: enumerate over a list, ends of rows, what is compared. -/
namespace BC
open PySem PySem.Spec PyProof.Rows L2
def EnL (K : PySem.W.Frag) (g : TG) (tb : TS) (D : Ends) (σ : L2.St) (us : List V) (H1 : Hp) : Prop := ∃ a xs, us = [.ref a] ∧ SqL K H1 a xs ∧ ∃ W : Nat → Nat → L2.St → Hp → Prop, (∃ m, W 0 m σ H1) ∧ ∀ i m σ H, W i m σ H →
  ((Ite K a).stop i H ∧ D.nx σ H) ∨ ((Ite K a).go i H ∧ ∃ N : L2.St → Hp → Prop, (∀ σ' H', N σ' H' → ∃ m', m' < m ∧ W (i + 1) m' σ' H') ∧ ∀ x H', (Ite K a).yld i H x H' → g x σ H' fun σ2 H2 => tb { D with nx := N, ct := N, bk := D.nx } σ2 H2)
section
variable {K : PySem.W.Frag} {σ : L2.St} {H H0 H1 : Hp} {D : Ends} {Q : VK} {te : TE} {ta : TA} {g : TG} {tb : TS} {x : V} {l : Addr} {xs : List V} {ds : List PyData}
theorem st_wE (h : ta σ H fun us H1 => EnL K g tb D σ us H1) : tFor (iEnum K ta) g tb D σ H := h
theorem st_walkE {m1 m2 : Nat} (h : H l = some (.lst xs)) (Pv : Nat → L2.St → Hp → Prop) (h0 : Pv 0 σ H) (hk : ∀ m σ' H', Pv m σ' H' → H' l = some (.lst xs))
    (hs : ∀ (m : Nat) v σ' H' H'', xs[m]? = some v → Pv m σ' H' → Ex H' H'' → tb { D with nx := Pv (m + 1), ct := Pv (m + 1), bk := D.nx } ((σ'.set m1 (some (.int (m : Int)))).set m2 (some v)) H'')
    (hd : ∀ σ' H', Pv xs.length σ' H' → D.nx σ' H') : EnL K (gTup K 2 (gCons (gName m1) (gCons (gName m2) gNil))) tb D σ [.ref l] H := by
  refine ⟨l, xs, rfl, SqL.of h, for_it (walk_enum (K := K) (a := l) (xs := xs)) Pv h0 (fun m σ' H' _ p => SqL.of (hk m σ' H' p)) (fun m v σ' H' H'' hlt p y => ?_) hd⟩
  obtain ⟨T, y1, y2, rfl, f, rfl, ee1, e2⟩ := y
  have ee1' : y1 = .int (m : Int) := (Option.some.inj ee1).symm
  subst ee1'
  refine ⟨T, [.int (m : Int), y2], rfl, SqT.of upd_same, rfl, _, [y2], rfl, y2, [], rfl, rfl, ?_⟩
  exact hs m y2 σ' H' _ e2 p (Ex.new f)
/-- t[k:] of what never changes -/
theorem st_slFrom {k : Nat} (h : Im H0 (.tuple ds) x) (k0 : Kp H0 H) (hk : k ≤ ds.length) (q : ∀ v H2, Ex H H2 → Im H2 (.tuple (ds.drop k)) v → Q v H2) : rSlA K x (some (k : Int)) none H Q := by
  obtain ⟨a, xs, rfl, ha, ix⟩ := (h.kp k0).tup
  have hl := ix.length
  refine ⟨a, xs, rfl, SqT.of ha, fun z => ?_, fun _ p hp => ?_⟩
  · rw [HT.sIx_nat] at z
    have : k = 0 := by omega
    subst this
    exact q _ H (Ex.refl _) (im_tup ha ix)
  · rw [cut_from (by omega)]
    exact q _ _ (Ex.new hp) (im_tup upd_same ((ix.ex (Ex.new hp)).drop k))
end
theorem eqv_seen (a b : Nat × Int) : PyData.eqv (pySeen a) (pySeen b) = decide (a = b) := by
  obtain ⟨a1, a2⟩ := a
  obtain ⟨b1, b2⟩ := b
  by_cases h1 : a1 = b1
  · by_cases h2 : a2 = b2
    · simp [pySeen, PyData.eqv, PyData.eqvAll, h1, h2]
    · simp [pySeen, PyData.eqv, PyData.eqvAll, h1, h2]
  · have : ((a1 : Int) = (b1 : Int)) = False := by simp; omega
    simp [pySeen, PyData.eqv, PyData.eqvAll, h1, this]
theorem sh_seen {n : Nat} (s : Nat × Int) : Sh (n + 1) (pySeen s) := sh_tup fun d hd => by
  simp only [List.mem_cons, List.not_mem_nil, or_false] at hd
  rcases hd with rfl | rfl
  · exact sh_int
  · exact sh_int
theorem st_neSeen {K : PySem.W.Frag} {H H0 H1 : Hp} {Q : VK} {x y : V} {a b : Nat × Int} (hx : Im H0 (pySeen a) x) (k0 : Kp H0 H) (hy : Im H1 (pySeen b) y) (k1 : Kp H1 H) (q : Q (.bl (!decide (a = b))) H) : rNeD K x y H Q := by
  refine st_neD ((hx.kp k0).dp _ _) ((hy.kp k1).dp _ _) (sh_seen (n := 0) a).shaped (sh_seen (n := 0) b).shaped ?_
  rw [eqv_seen]
  exact q
/-! the lists of what is due, and of what is found -/
structure AmL (H : Hp) (rd ff fo : Addr) (S : AS) : Prop where
  r : ∃ xs, H rd = some (.lst xs) ∧ ImL H (S.rs.map pySeen) xs
  f : ∃ xs, H ff = some (.lst xs) ∧ ImL H (S.fs.map pySeen) xs
  o : ∃ xs, H fo = some (.lst xs) ∧ ImL H (S.found.map pyRow) xs
section
variable {H H2 : Hp} {rd ff fo : Addr} {S : AS}
theorem AmL.ex (h : AmL H rd ff fo S) (e : Ex H H2) : AmL H2 rd ff fo S := by
  obtain ⟨⟨x, a1, a2⟩, ⟨y, b1, b2⟩, ⟨z, c1, c2⟩⟩ := h
  exact ⟨⟨x, e _ _ a1, a2.ex e⟩, ⟨y, e _ _ b1, b2.ex e⟩, ⟨z, e _ _ c1, c2.ex e⟩⟩
theorem AmL.setR (h : AmL H rd ff fo S) (n : [rd, ff, fo].Nodup) (f : Fr [rd] H H2) (k : Kp H H2) {rs : List (Nat × Int)} {xs : List V} (h2 : H2 rd = some (.lst xs)) (i2 : ImL H2 (rs.map pySeen) xs) : AmL H2 rd ff fo { S with rs := rs } := by
  simp only [List.nodup_cons, List.mem_cons, List.not_mem_nil, or_false, not_or] at n
  obtain ⟨_, ⟨y, b1, b2⟩, ⟨z, c1, c2⟩⟩ := h
  exact ⟨⟨xs, h2, i2⟩, ⟨y, fr1 f b1 (fun z => n.1.1 z.symm), b2.kp k⟩, ⟨z, fr1 f c1 (fun z => n.1.2 z.symm), c2.kp k⟩⟩
theorem AmL.setF (h : AmL H rd ff fo S) (n : [rd, ff, fo].Nodup) (f : Fr [ff] H H2) (k : Kp H H2) {fs : List (Nat × Int)} {xs : List V} (h2 : H2 ff = some (.lst xs)) (i2 : ImL H2 (fs.map pySeen) xs) : AmL H2 rd ff fo { S with fs := fs } := by
  simp only [List.nodup_cons, List.mem_cons, List.not_mem_nil, or_false, not_or] at n
  obtain ⟨⟨x, a1, a2⟩, _, ⟨z, c1, c2⟩⟩ := h
  exact ⟨⟨x, fr1 f a1 (fun z => n.1.1 z), a2.kp k⟩, ⟨xs, h2, i2⟩, ⟨z, fr1 f c1 (fun z => n.2.1 z.symm), c2.kp k⟩⟩
theorem AmL.setO (h : AmL H rd ff fo S) (n : [rd, ff, fo].Nodup) (f : Fr [fo] H H2) (k : Kp H H2) {rows : List Row} {xs : List V} (h2 : H2 fo = some (.lst xs)) (i2 : ImL H2 (rows.map pyRow) xs) : AmL H2 rd ff fo { S with found := rows } := by
  simp only [List.nodup_cons, List.mem_cons, List.not_mem_nil, or_false, not_or] at n
  obtain ⟨⟨x, a1, a2⟩, ⟨y, b1, b2⟩, _⟩ := h
  exact ⟨⟨x, fr1 f a1 (fun z => n.1.2 z), a2.kp k⟩, ⟨y, fr1 f b1 (fun z => n.2.1 z), b2.kp k⟩, ⟨xs, h2, i2⟩⟩
end
end BC
/-! BCText: boards as texts: words, rows, what a text reads as. -/
namespace BC
open PySem PySem.Spec PyProof.Rows L2 TL
/-! ### words -/
def numS (n : Int) : Str := Str.ofString (toString n)
def optS : Option Int → Str
  | none => "-"
  | some n => numS n
abbrev wMem (m : List Int) : List Str := "memory" :: m.map numS
abbrev wOrd (o : ROrd) : List Str := ["order", numS o.1, numS o.2.1, numS o.2.2.1, optS o.2.2.2]
abbrev wDeed (d : RDeed) : List Str := d.1 :: d.2.map numS
def rowsW (b : RB) : List (List Str) := wMem b.mem :: (b.ords.map wOrd ++ b.prog.map wDeed)
def rowT (ws : List Str) : Str := Txt.join " " ws
def textOf (b : RB) : Str := Txt.join "\n" ((rowsW b).map rowT)
/-! ### signs -/
theorem tl_sp : tl (" " : Str) = [32] := by decide +kernel
theorem tl_nl : tl ("\n" : Str) = [10] := by decide +kernel
theorem joinL_cons (S p : List Nat) : ∀ ps : List (List Nat), joinL S (p :: ps) = p ++ ps.flatMap (S ++ ·)
  | [] => by simp [joinL]
  | q :: r => by
    show p ++ (S ++ joinL S (q :: r)) = _
    rw [joinL_cons S q r, List.flatMap_cons, List.append_assoc]
theorem tl_rowT (w : Str) (ws : List Str) : tl (rowT (w :: ws)) = tl w ++ ws.flatMap fun x => 32 :: tl x := by
  unfold rowT
  rw [join_eq, tl_join, tl_sp, List.map_cons, joinL_cons, List.flatMap_map]
  rfl
theorem tl_rows (p : Str) (ps : List Str) : tl (Txt.join "\n" (p :: ps)) = tl p ++ ps.flatMap fun x => 10 :: tl x := by
  rw [join_eq, tl_join, tl_nl, List.map_cons, joinL_cons, List.flatMap_map]
  rfl
/-- a word that may stand in a row -/
structure OkW (w : Str) : Prop where
  len : w.length ≤ 20
  nl : 10 ∉ tl w
  sp : 32 ∉ tl w
  ok : ∀ c ∈ tl w, c < 1114112
theorem OkW.by {w : Str} (h : (decide (w.length ≤ 20) && (tl w).all fun c => decide (c ≠ 10) && decide (c ≠ 32) && decide (c < 1114112)) = true) : OkW w := by
  simp only [Bool.and_eq_true, decide_eq_true_eq, List.all_eq_true] at h
  exact ⟨h.1, fun z => (h.2 _ z).1.1 rfl, fun z => (h.2 _ z).1.2 rfl, fun c z => (h.2 c z).2⟩
theorem okW_num100 : ∀ n : Nat, n < 100 → (decide ((numS (n : Int)).length ≤ 20) && (tl (numS (n : Int))).all fun c => decide (c ≠ 10) && decide (c ≠ 32) && decide (c < 1114112)) = true := by decide +kernel
/-- a number that a good board holds -/
def Sm (i : Int) : Prop := 0 ≤ i ∧ i < 100
theorem Sm.nat {i : Int} (h : Sm i) : ∃ n : Nat, n < 100 ∧ i = (n : Int) := ⟨i.toNat, by have := h.1; have := h.2; omega, by have := h.1; omega⟩
theorem okW_num {i : Int} (h : Sm i) : OkW (numS i) := by
  obtain ⟨n, hn, rfl⟩ := h.nat
  exact .by (okW_num100 n hn)
theorem okW_opt {o : Option Int} (h : ∀ i, o = some i → Sm i) : OkW (optS o) := by
  cases o with
  | none => exact .by (by decide +kernel)
  | some i => exact okW_num (h i rfl)
theorem okW_memory : OkW "memory" := .by (by decide +kernel)
theorem okW_order : OkW "order" := .by (by decide +kernel)
theorem okW_words : (["set", "add", "say", "start", "wait", "clean", "drop"] : List Str).all (fun w => decide (w.length ≤ 20) && (tl w).all fun c => decide (c ≠ 10) && decide (c ≠ 32) && decide (c < 1114112)) = true := by decide +kernel
theorem okW_deed (d : Deed) : OkW d.raw.1 := .by (List.all_eq_true.mp okW_words _ (by cases d <;> simp [Deed.raw]))
theorem join_len (y : Str) (ps : List Str) : (Txt.join y ps).length ≤ (ps.map (·.length)).sum + ps.length * y.length := by
  rw [join_eq, len_tl, tl_join]
  cases ps with
  | nil => simp [joinL]
  | cons p ps =>
    rw [List.map_cons, joinL_cons, List.length_append, List.map_cons, List.sum_cons, List.length_cons, len_tl p, len_tl y, Nat.succ_mul]
    have : ∀ qs : List Str, ((qs.map tl).flatMap (tl y ++ ·)).length ≤ (qs.map (·.length)).sum + qs.length * (tl y).length := by
      intro qs
      induction qs with
      | nil => simp
      | cons q qs ih =>
        rw [List.map_cons, List.flatMap_cons, List.length_append, List.length_append, List.map_cons, List.sum_cons, List.length_cons, Nat.succ_mul, len_tl q]
        omega
    have := this ps
    omega
theorem sum_le {α : Type} {f : α → Nat} {k : Nat} : ∀ {l : List α}, (∀ x ∈ l, f x ≤ k) → (l.map f).sum ≤ l.length * k
  | [], _ => by simp
  | x :: l, h => by
    rw [List.map_cons, List.sum_cons, List.length_cons, Nat.succ_mul]
    have := sum_le (l := l) fun y hy => h y (List.mem_cons_of_mem _ hy)
    have := h x List.mem_cons_self
    omega
theorem rowT_len {ws : List Str} (h : ∀ w ∈ ws, OkW w) : (rowT ws).length ≤ ws.length * 21 := by
  have h1 := join_len " " ws
  have h2 := sum_le (f := fun w : Str => w.length) (k := 20) (l := ws) fun w hw => (h w hw).len
  have h3 : (" " : Str).length = 1 := by decide +kernel
  rw [h3] at h1
  unfold rowT
  have : (ws.map fun w : Str => w.length) = ws.map (·.length) := rfl
  omega
theorem row_len {ws : List Str} (h : ∀ w ∈ ws, OkW w) : (ws.map (·.length)).sum + ws.length * (" " : Str).length ≤ ws.length * 21 := by
  have h2 := sum_le (f := fun w : Str => w.length) (k := 20) (l := ws) fun w hw => (h w hw).len
  have h3 : (" " : Str).length = 1 := by decide +kernel
  rw [h3]
  omega
theorem rowT_free {ws : List Str} (h : ∀ w ∈ ws, OkW w) : 10 ∉ tl (rowT ws) ∧ ∀ c ∈ tl (rowT ws), c < 1114112 := by
  cases ws with
  | nil => exact ⟨by decide +kernel, by decide +kernel⟩
  | cons w ws =>
    have key : ∀ c ∈ tl (rowT (w :: ws)), c = 32 ∨ ∃ x ∈ w :: ws, c ∈ tl x := fun c hc => by
      rw [tl_rowT] at hc
      rcases List.mem_append.mp hc with hc | hc
      · exact .inr ⟨w, List.mem_cons_self, hc⟩
      · obtain ⟨x, hx, hc⟩ := List.mem_flatMap.mp hc
        rcases List.mem_cons.mp hc with rfl | hc
        · exact .inl rfl
        · exact .inr ⟨x, List.mem_cons_of_mem _ hx, hc⟩
    refine ⟨fun z => ?_, fun c hc => ?_⟩
    · rcases key _ z with z | ⟨x, hx, hc⟩
      · cases z
      · exact (h x hx).nl hc
    · rcases key c hc with rfl | ⟨x, hx, hc⟩
      · decide
      · exact (h x hx).ok c hc
theorem split_row {ws : List Str} (h : ∀ w ∈ ws, OkW w) (hn : ws ≠ []) : Txt.split (rowT ws) " " = ws := split_join tl_sp (by decide +kernel) hn fun w hw => (h w hw).sp
theorem split_rows {ps : List Str} (h : ∀ p ∈ ps, 10 ∉ tl p) (hn : ps ≠ []) : Txt.split (Txt.join "\n" ps) "\n" = ps := split_join tl_nl (by decide +kernel) hn h
/-! ### the numbers of a good board -/
structure SmB (b : RB) : Prop where
  mem : ∀ n ∈ b.mem, Sm n
  ords : ∀ o ∈ b.ords, Sm o.1 ∧ Sm o.2.1 ∧ Sm o.2.2.1 ∧ ∀ i, o.2.2.2 = some i → Sm i
  prog : ∀ d ∈ b.prog, OkW d.1 ∧ (∀ n ∈ d.2, Sm n) ∧ d.2.length ≤ 2
theorem Good.sm {b : Bd} (g : Good b) : SmB b.raw := by
  have h16 : b.mem.length ≤ 19 := by
    have := g.lines
    omega
  have h4 := g.ords
  refine ⟨fun n hn => ?_, fun o ho => ?_, fun d hd => ?_⟩
  · have := g.digits n hn
    exact ⟨this.1, by omega⟩
  · obtain ⟨o, ho', rfl⟩ := List.mem_map.mp ho
    obtain ⟨k, hk⟩ := List.getElem?_of_mem ho'
    obtain ⟨_, h2, h3, h5, h6⟩ := g.ordsOk.ok k o hk
    refine ⟨⟨Int.natCast_nonneg _, by show ((o.src : Nat) : Int) < 100; omega⟩, ⟨Int.natCast_nonneg _, by show ((o.dst : Nat) : Int) < 100; omega⟩, ⟨Int.natCast_nonneg _, by show ((o.many : Nat) : Int) < 100; omega⟩, fun i hi => ?_⟩
    cases hl : o.later with
    | none =>
      have hi : oN o.later = some i := hi
      rw [hl] at hi
      cases hi
    | some m =>
      have hi : oN o.later = some i := hi
      rw [hl] at hi
      cases hi
      have := (h6 m hl).2
      exact ⟨Int.natCast_nonneg _, by omega⟩
  · obtain ⟨d, hd', rfl⟩ := List.mem_map.mp hd
    have hk := g.deeds d hd'
    have hw : OkW d.raw.1 := okW_deed d
    refine ⟨hw, ?_, by cases d <;> simp [Deed.raw]⟩
    cases d with
    | set c n =>
      intro x hx
      have hk : c < b.mem.length ∧ n ≤ 9 := hk
      have hx : x ∈ [(c : Int), (n : Int)] := hx
      simp only [List.mem_cons, List.not_mem_nil, or_false] at hx
      rcases hx with rfl | rfl <;> exact ⟨Int.natCast_nonneg _, by omega⟩
    | add c o =>
      intro x hx
      have hk : c < b.mem.length ∧ o < b.mem.length := hk
      have hx : x ∈ [(c : Int), (o : Int)] := hx
      simp only [List.mem_cons, List.not_mem_nil, or_false] at hx
      rcases hx with rfl | rfl <;> exact ⟨Int.natCast_nonneg _, by omega⟩
    | say c =>
      intro x hx
      have hk : c < b.mem.length := hk
      have hx : x ∈ [(c : Int)] := hx
      simp only [List.mem_cons, List.not_mem_nil, or_false] at hx
      subst hx
      exact ⟨Int.natCast_nonneg _, by omega⟩
    | start k =>
      intro x hx
      have hk : k < b.ords.length := hk
      have hx : x ∈ [(k : Int)] := hx
      simp only [List.mem_cons, List.not_mem_nil, or_false] at hx
      subst hx
      exact ⟨Int.natCast_nonneg _, by omega⟩
    | wait =>
      intro x hx
      have hx : x ∈ ([] : List Int) := hx
      cases hx
    | clean l =>
      intro x hx
      have hk : l < b.mem.length / 4 := hk
      have hx : x ∈ [(l : Int)] := hx
      simp only [List.mem_cons, List.not_mem_nil, or_false] at hx
      subst hx
      exact ⟨Int.natCast_nonneg _, by omega⟩
    | drop l =>
      intro x hx
      have hk : l < b.mem.length / 4 := hk
      have hx : x ∈ [(l : Int)] := hx
      simp only [List.mem_cons, List.not_mem_nil, or_false] at hx
      subst hx
      exact ⟨Int.natCast_nonneg _, by omega⟩
theorem SmB.wm {b : RB} (h : SmB b) : ∀ w ∈ wMem b.mem, OkW w := fun w hw => by
  rcases List.mem_cons.mp hw with rfl | hw
  · exact okW_memory
  · obtain ⟨n, hn, rfl⟩ := List.mem_map.mp hw
    exact okW_num (h.mem n hn)
theorem SmB.wo {b : RB} (h : SmB b) {o : ROrd} (ho : o ∈ b.ords) : ∀ w ∈ wOrd o, OkW w := fun w hw => by
  obtain ⟨h1, h2, h3, h4⟩ := h.ords o ho
  simp only [List.mem_cons, List.not_mem_nil, or_false] at hw
  rcases hw with rfl | rfl | rfl | rfl | rfl
  · exact okW_order
  · exact okW_num h1
  · exact okW_num h2
  · exact okW_num h3
  · exact okW_opt h4
theorem SmB.wd {b : RB} (h : SmB b) {d : RDeed} (hd : d ∈ b.prog) : ∀ w ∈ wDeed d, OkW w := fun w hw => by
  obtain ⟨h1, h2, _⟩ := h.prog d hd
  rcases List.mem_cons.mp hw with rfl | hw
  · exact h1
  · obtain ⟨n, hn, rfl⟩ := List.mem_map.mp hw
    exact okW_num (h2 n hn)
theorem SmB.rows {b : RB} (h : SmB b) : ∀ r ∈ rowsW b, ∀ w ∈ r, OkW w := fun r hr => by
  rcases List.mem_cons.mp hr with rfl | hr
  · exact h.wm
  · rcases List.mem_append.mp hr with hr | hr
    · obtain ⟨o, ho, rfl⟩ := List.mem_map.mp hr
      exact h.wo ho
    · obtain ⟨d, hd, rfl⟩ := List.mem_map.mp hr
      exact h.wd hd
theorem rowsW_len (b : RB) : (rowsW b).length = 1 + b.ords.length + b.prog.length := by
  unfold rowsW
  rw [List.length_cons, List.length_append, List.length_map, List.length_map]
  omega
theorem rowsW_ne {b : RB} : ∀ r ∈ rowsW b, r ≠ [] := fun r hr => by
  rcases List.mem_cons.mp hr with rfl | hr
  · simp
  · rcases List.mem_append.mp hr with hr | hr
    · obtain ⟨o, ho, rfl⟩ := List.mem_map.mp hr
      simp
    · obtain ⟨d, hd, rfl⟩ := List.mem_map.mp hr
      simp
/-- few words in each row -/
theorem SmB.few {b : RB} (h : SmB b) (hm : b.mem.length ≤ 19) : ∀ r ∈ rowsW b, r.length ≤ 20 := fun r hr => by
  rcases List.mem_cons.mp hr with rfl | hr
  · rw [List.length_cons, List.length_map]; omega
  · rcases List.mem_append.mp hr with hr | hr
    · obtain ⟨o, ho, rfl⟩ := List.mem_map.mp hr
      simp
    · obtain ⟨d, hd, rfl⟩ := List.mem_map.mp hr
      rw [List.length_cons, List.length_map]
      have := (h.prog d hd).2.2
      omega
theorem SmB.rowLen {b : RB} (h : SmB b) (hm : b.mem.length ≤ 19) : ∀ p ∈ (rowsW b).map rowT, p.length ≤ 420 := fun p hp => by
  obtain ⟨r, hr, rfl⟩ := List.mem_map.mp hp
  have h1 := rowT_len (h.rows r hr)
  have h2 := h.few hm r hr
  have : r.length * 21 ≤ 20 * 21 := Nat.mul_le_mul_right _ h2
  omega
theorem SmB.joinLen {b : RB} (h : SmB b) (hm : b.mem.length ≤ 19) (hr : (rowsW b).length ≤ 100) : (((rowsW b).map rowT).map (·.length)).sum + ((rowsW b).map rowT).length * ("\n" : Str).length ≤ 50000 := by
  have h2 := sum_le (f := fun w : Str => w.length) (k := 420) (l := (rowsW b).map rowT) (h.rowLen hm)
  have h3 : ("\n" : Str).length = 1 := by decide +kernel
  rw [h3]
  rw [List.length_map] at h2 ⊢
  have : (rowsW b).length * 420 ≤ 100 * 420 := Nat.mul_le_mul_right _ hr
  omega
theorem SmB.textLen {b : RB} (h : SmB b) (hm : b.mem.length ≤ 19) (hr : (rowsW b).length ≤ 100) : (textOf b).length ≤ 50000 := Nat.le_trans (join_len _ _) (h.joinLen hm hr)
theorem SmB.split {b : RB} (h : SmB b) : Txt.split (textOf b) "\n" = (rowsW b).map rowT := split_rows (fun p hp => by
  obtain ⟨r, hr, rfl⟩ := List.mem_map.mp hp
  exact (rowT_free (h.rows r hr)).1) (by unfold rowsW; simp)
theorem SmB.strOk {b : RB} (h : SmB b) : PyData.strOk (textOf b) = true := by
  have key : ∀ c ∈ tl (textOf b), c < 1114112 := by
    unfold textOf rowsW
    rw [List.map_cons, tl_rows]
    intro c hc
    rcases List.mem_append.mp hc with hc | hc
    · exact (rowT_free h.wm).2 c hc
    · obtain ⟨p, hp, hc⟩ := List.mem_flatMap.mp hc
      rcases List.mem_cons.mp hc with rfl | hc
      · decide
      · obtain ⟨r, hr, rfl⟩ := List.mem_map.mp hp
        exact (rowT_free (h.rows r (List.mem_cons_of_mem _ hr))).2 c hc
  unfold PyData.strOk
  rw [← Array.all_toList, List.all_eq_true]
  exact fun c hc => decide_eq_true (key c hc)
/-! ### what a word, a row reads as -/
def fig (c : Nat) : Bool := decide (48 ≤ c) && decide (c ≤ 57)
def numOf (w : Str) : Option Int :=
  if w = "" then none else if 9 < w.length then none else if (tl w).headD 0 = 48 ∧ w ≠ "0" then none else if (tl w).all fig = true then some ((NumText.digitsVal (tl w) : Nat) : Int) else none
theorem numOf_100 : ∀ n : Nat, n < 100 → numOf (numS (n : Int)) = some (n : Int) := by decide +kernel
theorem numOf_num {i : Int} (h : Sm i) : numOf (numS i) = some i := by
  obtain ⟨n, hn, rfl⟩ := h.nat
  exact numOf_100 n hn
theorem numOf_dash : numOf "-" = none := by decide +kernel
theorem numOf_opt {o : Option Int} (h : ∀ i, o = some i → Sm i) : numOf (optS o) = o := by
  cases o with
  | none => exact numOf_dash
  | some i => exact numOf_num (h i rfl)
theorem map_numOf : ∀ {ns : List Int}, (∀ n ∈ ns, Sm n) → (ns.map numS).map numOf = ns.map some
  | [], _ => rfl
  | n :: ns, h => by
    rw [List.map_cons, List.map_cons, List.map_cons, numOf_num (h n List.mem_cons_self), map_numOf fun m hm => h m (List.mem_cons_of_mem _ hm)]
def countsL : List (Str × Int) := [("set", 2), ("add", 2), ("say", 1), ("start", 1), ("wait", 0), ("clean", 1), ("drop", 1)]
def countOf (w : Str) : Int := (countsL.lookup w).getD (-1)
def rowOf (ws : List Str) : Option (Str × List (Option Int)) := match ws with
  | [] => none
  | w :: r =>
    let ns := r.map numOf
    if w = "order" then
      if ns.length ≠ 4 then none else if none ∈ ns.take 3 then none else if ns[3]? = some none ∧ r[3]? ≠ some ("-" : Str) then none else some (w, ns)
    else if none ∈ ns then none else if w ≠ "memory" ∧ countOf w ≠ (ns.length : Int) then none else some (w, ns)
theorem none_some (ns : List Int) : none ∉ ns.map (some : Int → Option Int) := fun h => by
  obtain ⟨_, _, z⟩ := List.mem_map.mp h
  cases z
theorem rowOf_mem {b : RB} (h : SmB b) : rowOf (wMem b.mem) = some (("memory" : Str), b.mem.map some) := by
  unfold rowOf
  simp only [map_numOf h.mem]
  rw [if_neg (by decide), if_neg (none_some _), if_neg (fun z => z.1 rfl)]
theorem rowOf_ord {b : RB} (h : SmB b) {o : ROrd} (ho : o ∈ b.ords) : rowOf (wOrd o) = some (("order" : Str), [some o.1, some o.2.1, some o.2.2.1, o.2.2.2]) := by
  obtain ⟨h1, h2, h3, h4⟩ := h.ords o ho
  unfold rowOf
  simp only [List.map_cons, List.map_nil, numOf_num h1, numOf_num h2, numOf_num h3, numOf_opt h4]
  rw [if_pos trivial, if_neg (by simp), if_neg (by simp), if_neg]
  rintro ⟨z1, z2⟩
  simp only [List.getElem?_cons_succ, List.getElem?_cons_zero, Option.some.injEq] at z1 z2
  rw [z1] at z2
  exact z2 rfl
theorem no_orders : (["set", "add", "say", "start", "wait", "clean", "drop"] : List Str).all (fun w => decide (w ≠ "order") && decide (w ≠ "memory")) = true := by decide +kernel
theorem deed_word (d : Deed) : d.raw.1 ∈ (["set", "add", "say", "start", "wait", "clean", "drop"] : List Str) := by cases d <;> simp [Deed.raw]
theorem no_order (d : Deed) : d.raw.1 ≠ "order" := by
  have := List.all_eq_true.mp no_orders _ (deed_word d)
  rw [Bool.and_eq_true, decide_eq_true_eq] at this
  exact this.1
theorem no_memory (d : Deed) : d.raw.1 ≠ "memory" := by
  have := List.all_eq_true.mp no_orders _ (deed_word d)
  rw [Bool.and_eq_true, decide_eq_true_eq, decide_eq_true_eq] at this
  exact this.2
theorem rowOf_deed {b : Bd} (g : Good b) {d : Deed} (hd : d ∈ b.prog) : rowOf (wDeed d.raw) = some (d.raw.1, d.raw.2.map some) := by
  have h := (g.sm.prog d.raw (List.mem_map_of_mem hd)).2.1
  unfold rowOf
  simp only [map_numOf h]
  have h1 : d.raw.1 ≠ "order" := no_order d
  have h2 : countOf d.raw.1 = ((d.raw.2.map (some : Int → Option Int)).length : Int) := by
    rw [List.length_map]
    cases d <;> (simp only [Deed.raw, List.length_cons, List.length_nil]; decide +kernel)
  rw [if_neg h1, if_neg (none_some _), if_neg (fun z => z.2 h2)]
end BC
/-! BCTextW: steps of walks over texts, lists of texts, a written dict's get. -/
namespace BC
open PySem PySem.Spec PyProof.Rows L2 TL
/-! ### a written dict of texts and numbers -/
def EntS : List DictEntry → List (Str × Int) → Prop
  | [], [] => True
  | e :: es, p :: ps => (∃ t, e.key = .str p.1 t) ∧ (∃ t, e.val = .int p.2 t) ∧ EntS es ps
  | _, _ => False
structure KTab (K : PySem.W.Frag) (w : World) (a : Addr) (ps : List (Str × Int)) : Prop where
  ex : ∃ es n, K.lookup a = some ⟨.type "dict", none, .dict es n, #[]⟩ ∧ PySem.W.KeysLit w.params es.toList ∧ EntS es.toList ps
  sys : (a == sysModules) = false
theorem entS_find {z : Str} : ∀ {es : List DictEntry} {ps : List (Str × Int)}, EntS es ps → RelO ((ps.lookup z).map V.int) ((es.find? fun e => Value.isStrOf z e.key).map (·.val))
  | [], [], _ => True.intro
  | e :: es, p :: ps, h => by
    obtain ⟨⟨t, h1⟩, ⟨u, h2⟩, h3⟩ := h
    obtain ⟨k, i⟩ := p
    have hb : Value.isStrOf z e.key = (z == k) := by
      rw [h1]
      show (k == z) = (z == k)
      exact Bool.eq_iff_iff.mpr ⟨fun q => by rw [beq_iff_eq.mp q]; exact beq_self_eq_true _, fun q => by rw [beq_iff_eq.mp q]; exact beq_self_eq_true _⟩
    rw [List.find?_cons, hb]
    simp only [List.lookup]
    cases z == k with
    | true => exact ⟨u, h2⟩
    | false => exact entS_find h3
  | [], _ :: _, h => h.elim
  | _ :: _, [], h => h.elim
def tKGet2 (K : PySem.W.Frag) (w : World) (td ty tx : TE) : TE := fun σ H Q => td σ H fun x H1 => ∃ a ps, x = .ref a ∧ KTab K w a ps ∧ ty σ H1 fun y H2 => ∃ z, y = .str z ∧ tx σ H2 fun d H3 => Q (((ps.lookup z).map V.int).getD d) H3
theorem pe_kget2 {X : Cx} {o e f : Expr} {apos cpos : Pos} {td ty tx : TE} (ho : PE X o td) (he : PE X e ty) (hf : PE X f tx) (m : M2 X o "get" apos e f cpos) : PE X (.Call (.Attribute o "get" apos) [e, f] [] cpos) (tKGet2 X.K X.w td ty tx) := by
  refine ⟨fun pins s σ H Q I h => ?_⟩
  refine wpAny_Call_method m.base m.few m.line PySem.F.plainAttrs_dict PySem.F.slot_dict_get PySem.F.type_dict_get (thn (ho.run pins s σ H _ I h) fun u s1 ⟨x, H1, I1, rx, a, ps, ex, d, q1⟩ => ?_)
  subst ex
  obtain rfl : u = Value.ref a := rx
  obtain ⟨⟨es, n, hl, hk, hes⟩, hs⟩ := d
  have hm1 := PySem.W.mapOf_K (prog := X.prog) (w := X.w) I1.kIn hl hk
  refine ⟨hm1.typeIs, fun b q => by cases q; exact ⟨_, I1.kIn _ _ hl, rfl⟩, ?_⟩
  rw [m.trees]
  refine Calls.callWith_builtin rfl (Calls.evalArgs_plain (Calls.spliced_cons (thn (he.run pins s1 σ H1 _ I1 q1) fun iv s2 ⟨y, H2, I2, ry, z, ey, q2⟩ =>
    Calls.spliced_cons (thn (hf.run pins s2 σ H2 _ I2 q2) fun fv s3 ⟨dv, H3, I3, rz, q3⟩ => Calls.spliced_nil ?_))))
  subst ey
  obtain ⟨t, rfl⟩ := (show ∃ t, iv = Value.str z t from ry)
  have hm3 := PySem.W.mapOf_K (prog := X.prog) (w := X.w) I3.kIn hl hk
  refine call_meetsIn PySem.F.slot_dict_get hm3.typeIs PySem.F.entry_dict_get (PySem.F.args_dict_get_3 _ _ _) (meets_dict_get_default (strKind X.prog X.w) a (strKind_is X.prog X.w z t) hs fv) ⟨_, hm3, ?_⟩
  refine ⟨_, H3, I3.tok _, ?_, q3⟩
  have r := entS_find (z := z) hes
  have e : findBy Value.isStrOf es z = (es.toList.find? fun e => Value.isStrOf z e.key).map (·.val) := by
    unfold findBy
    rw [Array.find?_toList]
  rw [e]
  exact RelO.getD r rz
def rJoin (K : PySem.W.Frag) : V → List V → Hp → VK → Prop := fun x xs H Q => ∃ a p, ∃ ys : List Str, x = .str a ∧ xs = [.ref p] ∧ (SqL K H p (ys.map V.str) ∨ SqT K H p (ys.map V.str)) ∧
    (ys.map (·.length)).sum + ys.length * a.length ≤ 16777216 ∧ Q (.str (Txt.join a ys)) H
theorem pe_joinR {X : Cx} {o e : Expr} {to te : TE} {apos pos : Pos} (ho : PE X o to) (he : PE X e te) (hs : starEach [e] X.env = [(false, eval e X.env)] := by rfl) (hbase : attributeBase o "join" X.env (eval o X.env) = eval o X.env := by rfl) (hline : (apos.endLine == pos.line) = true := by rfl) :
    PE X (.Call (.Attribute o "join" apos) [e] [] pos) (tM1 (rJoin X.K) to te) := pe_join ho he hs hbase hline
/-! ### steps -/
section
variable {K : PySem.W.Frag} {σ : L2.St} {H H0 H1 : Hp} {D : Ends} {Q : VK} {te to tl' : TE} {ta : TA} {g : TG} {tb : TS} {x : V} {l : Addr} {xs : List V} {ds es : List PyData}
theorem st_tM1 {r : V → List V → Hp → VK → Prop} (h : to σ H fun x H1 => (∃ a, x = .str a) ∧ te σ H1 fun y H2 => r x [y] H2 Q) : tM1 r to te σ H Q := h
theorem tyS {s : Str} {A : Prop} (h : A) : (∃ a, V.str s = .str a) ∧ A := ⟨⟨_, rfl⟩, h⟩
theorem st_str {i : Int} (h : Sm i) (q : Q (.str (numS i)) H) : rStrI [.int i] H Q := by
  obtain ⟨n, hn, rfl⟩ := h.nat
  refine ⟨_, rfl, ?_, q⟩
  have : ((n : Int)).natAbs = n := rfl
  rw [this]
  exact Nat.lt_of_le_of_lt (Nat.log2_le_self n) (by omega)
theorem st_addS {i j : Str} (hl : i.length + j.length ≤ 1000000) (q : Q (.str (i ++ j)) H) : rAddS (.str i) (.str j) H Q := ⟨i, j, rfl, rfl, Nat.le_trans hl (by decide), q⟩
theorem st_join {a : Str} {p : Addr} {ys : List Str} (h : SqL K H p (ys.map V.str)) (hl : (ys.map (·.length)).sum + ys.length * a.length ≤ 1000000) (q : Q (.str (Txt.join a ys)) H) : rJoin K (.str a) [.ref p] H Q :=
  ⟨a, p, ys, rfl, rfl, .inl h, Nat.le_trans hl (by decide), q⟩
theorem st_split {a b : Str} (hb : (b.length == 0) = false) (hl : a.length ≤ 1000000) (q : ∀ p H2, H p = none → Ex H H2 → H2 p = some (.lst ((Txt.split a b).map V.str)) → Q (.ref p) H2) :
    ∃ a' b', V.str a = .str a' ∧ [V.str b] = [.str b'] ∧ (b'.length == 0) = false ∧ a'.length + 2 ≤ sizeLine ∧ rNewStrs (Txt.split a' b') H Q :=
  ⟨a, b, rfl, rfl, hb, Nat.le_trans (Nat.add_le_add_right hl 2) (by decide), fun p hp => q p _ hp (Ex.new hp) upd_same⟩
/-- two tuples -/
theorem tx_catT {y : V} (hx : Im H0 (.tuple ds) x) (kx : Kp H0 H) (hy : Im H1 (.tuple es) y) (ky : Kp H1 H) (hl : ds.length + es.length ≤ 100000) (q : ∀ v H2, Ex H H2 → Im H2 (.tuple (ds ++ es)) v → Q v H2) : rCatA K x y H Q := by
  obtain ⟨a, xs, rfl, h1, h2⟩ := (hx.kp kx).tup
  obtain ⟨b, ys, rfl, g1, g2⟩ := (hy.kp ky).tup
  refine ⟨a, b, xs, ys, rfl, rfl, SqT.of h1, SqT.of g1, by rw [h2.length, g2.length]; exact sz_le hl, fun e => ?_, fun e1 e2 => ?_, fun e1 e2 p np => ?_⟩
  · subst e
    have : ds = [] := List.length_eq_zero_iff.mp h2.length.symm
    subst this
    exact q _ H (Ex.refl _) (im_tup g1 g2)
  · subst e2
    have : es = [] := List.length_eq_zero_iff.mp g2.length.symm
    subst this
    exact q _ H (Ex.refl _) (by rw [List.append_nil]; exact im_tup h1 h2)
  · exact q _ _ (Ex.new np) (im_tup upd_same ((h2.append g2).kp (Ex.new np).kp))
/-- two new lists in one -/
theorem tx_cat {a b : Addr} {ys : List V} (ha : H a = some (.lst xs)) (hb : H b = some (.lst ys)) (hl : xs.length + ys.length ≤ 100000) (q : ∀ p H2, H p = none → Ex H H2 → H2 p = some (.lst (xs ++ ys)) → Q (.ref p) H2) : rCat (.ref a) (.ref b) H Q :=
  ⟨a, b, xs, ys, rfl, rfl, ha, hb, sz_le hl, fun p hp => q p _ hp (Ex.new hp) upd_same⟩
/-- xs != [], both empty; and not -/
theorem tx_neNil0 {a b : Addr} (ha : H a = some (.lst [])) (hb : H b = some (.lst [])) (q : Q (.bl false) H) : rNeD K (.ref a) (.ref b) H Q := by
  refine st_neD (lst_dp ha iml_nil) (lst_dp hb iml_nil) sh_lnil sh_lnil ?_
  rw [eqv_lnil]
  exact q
end
/-! ### lists of texts -/
def RowsA (H : Hp) : List (List Str) → List V → Prop
  | [], xs => xs = []
  | r :: rs, xs => ∃ a vs, xs = .ref a :: vs ∧ H a = some (.lst (r.map V.str)) ∧ RowsA H rs vs
theorem RowsA.ex {H H' : Hp} (e : Ex H H') : ∀ {rs : List (List Str)} {xs : List V}, RowsA H rs xs → RowsA H' rs xs
  | [], _, h => h
  | r :: rs, _, h => by
    obtain ⟨a, vs, rfl, h1, h2⟩ := h
    exact ⟨a, vs, rfl, e _ _ h1, h2.ex e⟩
theorem RowsA.append {H : Hp} {qs : List (List Str)} {ys : List V} (g : RowsA H qs ys) : ∀ {rs : List (List Str)} {xs : List V}, RowsA H rs xs → RowsA H (rs ++ qs) (xs ++ ys)
  | [], _, h => by
    cases (show _ = [] from h)
    exact g
  | r :: rs, _, h => by
    obtain ⟨a, vs, rfl, h1, h2⟩ := h
    exact ⟨a, vs ++ ys, rfl, h1, g.append h2⟩
theorem RowsA.length {H : Hp} : ∀ {rs : List (List Str)} {xs : List V}, RowsA H rs xs → xs.length = rs.length
  | [], _, h => by
    cases (show _ = [] from h)
    rfl
  | r :: rs, _, h => by
    obtain ⟨a, vs, rfl, h1, h2⟩ := h
    rw [List.length_cons, List.length_cons, h2.length]
theorem RowsA.at {H : Hp} {v : V} : ∀ {rs : List (List Str)} {xs : List V} {i : Nat}, RowsA H rs xs → xs[i]? = some v → ∃ a r, v = .ref a ∧ rs[i]? = some r ∧ H a = some (.lst (r.map V.str))
  | [], _, _, h, e => by
    cases (show _ = [] from h)
    simp at e
  | r :: rs, _, 0, h, e => by
    obtain ⟨a, vs, rfl, h1, h2⟩ := h
    simp at e
    exact ⟨a, r, e.symm, by simp, h1⟩
  | r :: rs, _, i + 1, h, e => by
    obtain ⟨a, vs, rfl, h1, h2⟩ := h
    obtain ⟨a', r', e1, e2, e3⟩ := h2.at (i := i) (by simpa using e)
    exact ⟨a', r', e1, by simpa using e2, e3⟩
theorem RowsA.one {H : Hp} {a : Addr} {r : List Str} (h : H a = some (.lst (r.map V.str))) : RowsA H [r] [.ref a] := ⟨a, [], rfl, h, rfl⟩
/-! ### comprehensions that make texts -/
section
variable {K : PySem.W.Frag} {σ : L2.St} {H H0 H1 : Hp} {Q : VK} {te : TE} {own : List Nat} {x : V} {l : Addr} {xs : List V} {ds : List PyData} {i : Nat}
/-- [.. for d in t], each a text -/
theorem st_lcStr {f : PyData → Str} (h : Im H0 (.tuple ds) x) (k0 : Kp H0 H1) (hn : ds.length ≤ 50000) (hw : ∀ v, wipe ((wipe σ own).set i (some v)) own = wipe σ own)
    (turn : ∀ d v H R, d ∈ ds → Ex H1 H → Im H d v → (∀ H', Ex H H' → R (.str (f d)) H') → te ((wipe σ own).set i (some v)) H R)
    (q : ∀ D H2, H1 D = none → Ex H1 H2 → H2 D = some (.lst ((ds.map f).map V.str)) → Q (.ref D) H2) : LcU K (gName i) tYes te own σ x H1 Q := by
  refine st_lcTup h k0 fun D H2 nD e2 hD => ?_
  refine ⟨fun j H' => Ex H1 H' ∧ H' D = some (.lst (((ds.take j).map f).map V.str)), ⟨e2, hD⟩, fun j H' p => k0.trans p.1.kp, fun j d v H' hd hv p => ?_, fun H' p => ?_⟩
  · refine ⟨hw v, ?_⟩
    with_reducible refine st_yes ?_
    with_reducible refine st_T ?_
    have hj : j < ds.length := (List.getElem?_eq_some_iff.mp hd).1
    refine turn d v H' _ (List.mem_of_getElem? hd) p.1 hv fun H3 e3 => ?_
    refine st_lcPut (e3 _ _ p.2) (by rw [List.length_map, List.length_map, List.length_take]; omega) fun H5 f5 k5 h5 => ?_
    refine ⟨Fr.ex (p.1.trans e3) (fun a ha => by rw [List.mem_singleton.mp ha]; exact nD) f5, ?_⟩
    rw [h5, List.take_add_one, hd, List.map_append, List.map_append]
    rfl
  · obtain ⟨p1, p2⟩ := p
    rw [List.take_length] at p2
    exact q D H' nD p1 p2
/-- [.. for d in t], each a new list of texts -/
theorem st_lcRows {f : PyData → List Str} (h : Im H0 (.tuple ds) x) (k0 : Kp H0 H1) (hn : ds.length ≤ 50000) (hw : ∀ v, wipe ((wipe σ own).set i (some v)) own = wipe σ own)
    (turn : ∀ d v H R, d ∈ ds → Ex H1 H → Im H d v → (∀ a H', H a = none → Ex H H' → H' a = some (.lst ((f d).map V.str)) → R (.ref a) H') → te ((wipe σ own).set i (some v)) H R)
    (q : ∀ D H2 xs, H1 D = none → Ex H1 H2 → H2 D = some (.lst xs) → RowsA H2 (ds.map f) xs → Q (.ref D) H2) : LcU K (gName i) tYes te own σ x H1 Q := by
  refine st_lcTup h k0 fun D H2 nD e2 hD => ?_
  refine ⟨fun j H' => ∃ xs, Ex H1 H' ∧ H' D = some (.lst xs) ∧ xs.length = j ∧ (∀ H'', Fr [D] H' H'' → RowsA H'' ((ds.take j).map f) xs), ⟨[], e2, hD, rfl, fun _ _ => by simp [RowsA]⟩, fun j H' p => k0.trans p.choose_spec.1.kp, fun j d v H' hd hv p => ?_, fun H' p => ?_⟩
  · obtain ⟨xs, p1, p2, p3, p4⟩ := p
    refine ⟨hw v, ?_⟩
    with_reducible refine st_yes ?_
    with_reducible refine st_T ?_
    have hj : j < ds.length := (List.getElem?_eq_some_iff.mp hd).1
    refine turn d v H' _ (List.mem_of_getElem? hd) p1 hv fun a H3 na e3 ha => ?_
    have haD : a ∉ [D] := fun z => by
      rw [List.mem_singleton.mp z, p2] at na
      cases na
    refine st_lcPut (e3 _ _ p2) (by omega) fun H5 f5 k5 h5 => ?_
    refine ⟨xs ++ [.ref a], Fr.ex (p1.trans e3) (fun a ha => by rw [List.mem_singleton.mp ha]; exact nD) f5, h5, by simp [p3], fun H6 f6 => ?_⟩
    rw [List.take_add_one, hd, List.map_append]
    exact (RowsA.one (f6 _ _ (f5 _ _ ha haD) haD)).append (p4 H6 ((e3.fr.trans f5).trans f6))
  · obtain ⟨xs, p1, p2, p3, p4⟩ := p
    rw [List.take_length] at p4
    exact q D H' xs nD p1 p2 (p4 H' (Fr.refl _ _))
/-- [.. for row in rows], each a text -/
theorem st_lcJoins {rs : List (List Str)} {f : List Str → Str} (h : H1 l = some (.lst xs)) (hr : RowsA H1 rs xs) (hn : rs.length ≤ 50000) (hw : ∀ v, wipe ((wipe σ own).set i (some v)) own = wipe σ own)
    (turn : ∀ r a H R, r ∈ rs → Ex H1 H → H a = some (.lst (r.map V.str)) → R (.str (f r)) H → te ((wipe σ own).set i (some (.ref a))) H R)
    (q : ∀ D H2, H1 D = none → Ex H1 H2 → H2 D = some (.lst ((rs.map f).map V.str)) → Q (.ref D) H2) : LcL K (gName i) tYes te own σ (.ref l) H1 Q := by
  refine st_lcList (SqL.of h) fun D H2 nD e2 hD => ?_
  refine ⟨fun j H' => Ex H1 H' ∧ H' D = some (.lst (((rs.take j).map f).map V.str)), ⟨e2, hD⟩, fun j H' p => SqL.of (p.1 _ _ h), fun j v H' hv p => ?_, fun H' p => ?_⟩
  · refine ⟨hw v, ?_⟩
    with_reducible refine st_yes ?_
    with_reducible refine st_T ?_
    obtain ⟨a, r, rfl, hrr, ha⟩ := hr.at hv
    have hj : j < rs.length := (List.getElem?_eq_some_iff.mp hrr).1
    refine turn r a H' _ (List.mem_of_getElem? hrr) p.1 (p.1 _ _ ha) ?_
    refine st_lcPut p.2 (by rw [List.length_map, List.length_map, List.length_take]; omega) fun H5 f5 k5 h5 => ?_
    refine ⟨Fr.ex p.1 (fun a ha => by rw [List.mem_singleton.mp ha]; exact nD) f5, ?_⟩
    rw [h5, List.take_add_one, hrr, List.map_append, List.map_append]
    rfl
  · obtain ⟨p1, p2⟩ := p
    rw [hr.length, List.take_length] at p2
    exact q D H' nD p1 p2
/-- [.. for word in words], words a list of texts; what is made is V-valued -/
theorem st_lcWords {ws : List Str} {f : Str → V} (h : H1 l = some (.lst (ws.map V.str))) (hn : ws.length ≤ 50000) (hw : ∀ v, wipe ((wipe σ own).set i (some v)) own = wipe σ own)
    (turn : ∀ w H R, w ∈ ws → Ex H1 H → (∀ H', Ex H H' → R (f w) H') → te ((wipe σ own).set i (some (.str w))) H R)
    (q : ∀ D H2, H1 D = none → Ex H1 H2 → H2 D = some (.lst (ws.map f)) → Q (.ref D) H2) : LcL K (gName i) tYes te own σ (.ref l) H1 Q := by
  refine st_lcList (SqL.of h) fun D H2 nD e2 hD => ?_
  refine ⟨fun j H' => Ex H1 H' ∧ H' D = some (.lst ((ws.take j).map f)), ⟨e2, hD⟩, fun j H' p => SqL.of (p.1 _ _ h), fun j v H' hv p => ?_, fun H' p => ?_⟩
  · refine ⟨hw v, ?_⟩
    with_reducible refine st_yes ?_
    with_reducible refine st_T ?_
    obtain ⟨w, hw', rfl⟩ := map_at' hv
    have hj : j < ws.length := (List.getElem?_eq_some_iff.mp hw').1
    refine turn w H' _ (List.mem_of_getElem? hw') p.1 fun H3 e3 => ?_
    refine st_lcPut (e3 _ _ p.2) (by rw [List.length_map, List.length_take]; omega) fun H5 f5 k5 h5 => ?_
    refine ⟨Fr.ex (p.1.trans e3) (fun a ha => by rw [List.mem_singleton.mp ha]; exact nD) f5, ?_⟩
    rw [h5, List.take_add_one, hw', List.map_append]
    rfl
  · obtain ⟨p1, p2⟩ := p
    rw [List.length_map, List.take_length] at p2
    exact q D H' nD p1 p2
/-- the turns of a comprehension over a text's signs -/
def LcS (g : TG) (tt : TT) (te : TE) (own : List Nat) (σ : L2.St) (x : V) (H1 : Hp) (Q : VK) : Prop := ∃ z, x = .str z ∧ LcT (Its z) g tt te own σ H1 Q
theorem st_lcS {tl' : TE} {g : TG} {tt : TT} (h : tl' σ H fun x H1 => LcS g tt te own σ x H1 Q) : tLc (iStr tl') g tt te own σ H Q := h
theorem st_lcSigns {z : Str} {f : Nat → V} (hn : (tl z).length ≤ 50000) (hw : ∀ v, wipe ((wipe σ own).set i (some v)) own = wipe σ own)
    (turn : ∀ c H R, c ∈ tl z → Ex H1 H → R (f c) H → te ((wipe σ own).set i (some (.str ⟨#[c]⟩))) H R)
    (q : ∀ D H2, H1 D = none → Ex H1 H2 → H2 D = some (.lst ((tl z).map f)) → Q (.ref D) H2) : LcS (gName i) tYes te own σ (.str z) H1 Q := by
  refine ⟨z, rfl, fun D nD => ?_⟩
  refine lc_it (walk_str (z := z)) (fun j H' => Ex H1 H' ∧ H' D = some (.lst (((tl z).take j).map f))) ⟨Ex.new nD, by rw [upd_same]; rfl⟩ (fun _ _ _ _ => True.intro) (fun j x H H' hj p y => ?_) fun H' p => ?_
  · obtain ⟨rfl, c, hc, rfl⟩ := y
    refine ⟨hw _, ?_⟩
    with_reducible refine st_yes ?_
    with_reducible refine st_T ?_
    have hc' : (tl z)[j]? = some c := by
      rw [← hc]
      exact Array.getElem?_toList
    refine turn c H' _ (List.mem_of_getElem? hc') p.1 ?_
    have hl : j < (tl z).length := (List.getElem?_eq_some_iff.mp hc').1
    refine ⟨_, p.2, sz_lt (by rw [List.length_map, List.length_take]; omega), Ex.mut nD p.1, ?_⟩
    rw [upd_same, List.take_add_one, hc', List.map_append]
    rfl
  · obtain ⟨p1, p2⟩ := p
    rw [show z.cps.size = (tl z).length from Array.length_toList.symm, List.take_length] at p2
    exact q D H' nD p1 p2
end
end BC
namespace BC
open PySem PySem.Spec PyProof.Rows L2 TL
def rInSign : R2 := fun x y H Q => ∃ (c : Nat) (z : Str), x = .str ⟨#[c]⟩ ∧ y = .str z ∧ Q (.bl (decide (c ∈ z.cps.toList))) H
theorem o_inSign {X : Cx} : OpR X (compareOp .In) rInSign := op_in_sign
def rIntS : List V → Hp → VK → Prop := fun xs H Q => ∃ a n, xs = [.str a] ∧ PySem.intText? a = some n ∧ a.length ≤ 640 ∧ Q (.int n) H
theorem c_intS {X : Cx} : CallR X (.type "int") rIntS := call_int_str
def strD : PyData → Str
  | .int i => numS i
  | .none => "-"
  | .str s => s
  | _ => ""
def wordsO : PyData → List Str
  | .tuple ds => "order" :: ds.map strD
  | _ => []
def wordsP : PyData → List Str
  | .tuple (d :: ds) => strD d :: ds.map strD
  | _ => []
theorem strD_ints (ns : List Int) : (ns.map PyData.int).map strD = ns.map numS := by
  rw [List.map_map]
  rfl
theorem strD_opt (o : Option Int) : strD (pyOpt o) = optS o := by cases o <;> rfl
theorem wordsO_ords (os : List ROrd) : (os.map pyOrd).map wordsO = os.map wOrd := by
  rw [List.map_map]
  refine List.map_congr_left fun o _ => ?_
  show ("order" : Str) :: [numS o.1, numS o.2.1, numS o.2.2.1, strD (pyOpt o.2.2.2)] = wOrd o
  rw [strD_opt]
theorem wordsP_prog (p : List RDeed) : (p.map pyDeed).map wordsP = p.map wDeed := by
  rw [List.map_map]
  refine List.map_congr_left fun d _ => ?_
  show d.1 :: (d.2.map PyData.int).map strD = wDeed d
  rw [strD_ints]
theorem sm_opt {H : Hp} {v : V} {d : PyData} {o : ROrd} (hd : d ∈ [PyData.int o.1, .int o.2.1, .int o.2.2.1, pyOpt o.2.2.2]) (hs : Sm o.1 ∧ Sm o.2.1 ∧ Sm o.2.2.1 ∧ ∀ i, o.2.2.2 = some i → Sm i) (hv : Im H d v) :
    ∃ u : Option Int, v = vOpt u ∧ (∀ i, u = some i → Sm i) ∧ optS u = strD d := by
  obtain ⟨h1, h2, h3, h4⟩ := hs
  simp only [List.mem_cons, List.not_mem_nil, or_false] at hd
  rcases hd with rfl | rfl | rfl | rfl
  · exact ⟨some o.1, Im.int_iff.mp hv, fun i e => by cases e; exact h1, rfl⟩
  · exact ⟨some o.2.1, Im.int_iff.mp hv, fun i e => by cases e; exact h2, rfl⟩
  · exact ⟨some o.2.2.1, Im.int_iff.mp hv, fun i e => by cases e; exact h3, rfl⟩
  · exact ⟨o.2.2.2, im_opt.mp hv, h4, (strD_opt _).symm⟩
theorem tl_figures : tl ("0123456789" : Str) = [48, 49, 50, 51, 52, 53, 54, 55, 56, 57] := by decide +kernel
theorem fig_in (c : Nat) : decide (c ∈ tl ("0123456789" : Str)) = fig c := by
  rw [tl_figures]
  unfold fig
  rw [Bool.eq_iff_iff, decide_eq_true_eq, Bool.and_eq_true, decide_eq_true_eq, decide_eq_true_eq]
  simp only [List.mem_cons, List.not_mem_nil, or_false]
  omega
theorem tl_zero : tl ("0" : Str) = [48] := by decide +kernel
theorem sign_zero (c : Nat) : ((⟨#[c]⟩ : Str) = "0") ↔ c = 48 := by
  constructor
  · intro h
    have : tl (⟨#[c]⟩ : Str) = tl "0" := by rw [h]
    rw [tl_zero] at this
    exact (List.cons.inj this).1
  · rintro rfl
    refine ext_tl ?_
    rw [tl_zero]
theorem empty_tl (w : Str) : w = "" ↔ tl w = [] := by
  constructor
  · rintro rfl
    decide +kernel
  · intro h
    refine ext_tl ?_
    rw [h]
    decide +kernel
theorem inV_none : ∀ ns : List (Option Int), inV .non (ns.map vOpt) = decide (none ∈ ns)
  | [] => by simp [inV]
  | o :: ns => by
    have ih := inV_none ns
    unfold inV at ih ⊢
    rw [List.map_cons, List.any_cons, ih]
    cases o with
    | none => simp [vOpt, eqV]
    | some i =>
      rw [Bool.eq_iff_iff]
      simp [vOpt, eqV]
theorem vOpt_non (o : Option Int) : decide (vOpt o = .non) = o.isNone := by cases o <;> simp [vOpt]
theorem flat_opts (ns : List (Option Int)) : (ns.map vOpt).all flatV = true := by
  rw [List.all_eq_true]
  intro v hv
  obtain ⟨o, _, rfl⟩ := List.mem_map.mp hv
  cases o <;> rfl
theorem im_opts {H : Hp} : ∀ ns : List (Option Int), ImL H (ns.map pyOpt) (ns.map vOpt)
  | [] => iml_nil
  | o :: ns => iml_cons (im_opt.mpr rfl) (im_opts ns)
end BC
namespace BC
open PySem PySem.Spec PyProof.Rows L2 TL
theorem rowT_snoc (w : Str) (ws : List Str) (x : Str) : rowT (w :: ws) ++ (" " : Str) ++ x = rowT (w :: (ws ++ [x])) := by
  refine ext_tl ?_
  rw [tl_append, tl_append, tl_rowT, tl_rowT, tl_sp, List.flatMap_append]
  simp
theorem rowT_one (w : Str) : rowT [w] = w := by
  refine ext_tl ?_
  rw [tl_rowT]
  simp
theorem join_snoc {ps : List Str} (h : ps ≠ []) (p : Str) : Txt.join "\n" ps ++ ("\n" : Str) ++ p = Txt.join "\n" (ps ++ [p]) := by
  cases ps with
  | nil => exact absurd rfl h
  | cons a r =>
    refine ext_tl ?_
    rw [List.cons_append, tl_append, tl_append, tl_rows, tl_rows, tl_nl, List.flatMap_append]
    simp
theorem join_ext {ps : List Str} (h : ps ≠ []) (p x : Str) : Txt.join "\n" (ps ++ [p]) ++ x = Txt.join "\n" (ps ++ [p ++ x]) := by
  cases ps with
  | nil => exact absurd rfl h
  | cons a r =>
    refine ext_tl ?_
    rw [List.cons_append, List.cons_append, tl_append, tl_rows, tl_rows, List.flatMap_append, List.flatMap_append]
    simp only [List.flatMap_cons, List.flatMap_nil, List.append_nil, List.append_assoc, List.cons_append, tl_append]
theorem join_one (p : Str) : Txt.join "\n" [p] = p := by
  refine ext_tl ?_
  rw [tl_rows]
  simp
theorem nl_order : ("\norder" : Str) = ("\n" : Str) ++ ("order" : Str) := by decide +kernel
theorem join_small {ps : List Str} (h : ∀ p ∈ ps, p.length ≤ 500) (hn : ps.length ≤ 100) : (Txt.join "\n" ps).length ≤ 60000 := by
  have h1 := join_len "\n" ps
  have h2 := sum_le (f := fun w : Str => w.length) (k := 500) (l := ps) h
  have h3 : ("\n" : Str).length = 1 := by decide +kernel
  rw [h3] at h1
  have h4 : ps.length * 500 ≤ 100 * 500 := Nat.mul_le_mul_right _ hn
  have : (ps.map fun w : Str => w.length) = ps.map (·.length) := rfl
  omega
theorem len_app (a b : Str) : (a ++ b).length = a.length + b.length := by
  rw [len_tl, len_tl a, len_tl b, tl_append, List.length_append]
/-- what the rows of a good board read as, row by row -/
theorem row_at {b : Bd} (g : Good b) {i : Nat} {r : List Str} (h : (rowsW b.raw)[i]? = some r) : ∃ (w : Str) (ns : List (Option Int)), rowOf r = some (w, ns) ∧ decide (w = "memory") = decide ((i : Int) = 0) ∧
    (w = "order" → 1 ≤ i ∧ i ≤ b.raw.ords.length ∧ ∃ o, b.raw.ords[i - 1]? = some o ∧ PyData.tuple (ns.map pyOpt) = pyOrd o) ∧ (i = 0 → w ≠ "order" ∧ ns.map pyOpt = b.raw.mem.map .int) ∧
    (i ≠ 0 → w ≠ "order" → b.raw.ords.length + 1 ≤ i ∧ ∃ d, b.raw.prog[i - 1 - b.raw.ords.length]? = some d ∧ PyData.tuple (.str w :: ns.map pyOpt) = pyDeed d) := by
  have sm := g.sm
  have e0 : ∀ ns : List Int, (ns.map (some : Int → Option Int)).map pyOpt = ns.map .int := fun ns => by
    rw [List.map_map]
    rfl
  cases i with
  | zero =>
    have : r = wMem b.raw.mem := by
      unfold rowsW at h
      rw [List.getElem?_cons_zero] at h
      exact (Option.some.inj h).symm
    subst this
    exact ⟨_, _, rowOf_mem sm, by decide +kernel, fun z => absurd z (by decide +kernel), fun _ => ⟨by decide +kernel, e0 _⟩, fun z => absurd rfl z⟩
  | succ i =>
    unfold rowsW at h
    rw [List.getElem?_cons_succ] at h
    by_cases hi : i < b.raw.ords.length
    · rw [List.getElem?_append_left (by rw [List.length_map]; exact hi)] at h
      obtain ⟨o, ho, rfl⟩ := map_at' h
      refine ⟨_, _, rowOf_ord sm (List.mem_of_getElem? ho), ?_, fun _ => ⟨by omega, by omega, o, by simpa using ho, rfl⟩, fun z => absurd z (by omega), fun _ z => absurd rfl z⟩
      rw [decide_eq_false (show ¬ (("order" : Str) = "memory") by decide +kernel), decide_eq_false (by omega)]
    · rw [List.getElem?_append_right (by rw [List.length_map]; omega), List.length_map] at h
      obtain ⟨d, hd, rfl⟩ := map_at' h
      obtain ⟨d', hd', rfl⟩ := List.mem_map.mp (List.mem_of_getElem? hd)
      refine ⟨_, _, rowOf_deed g hd', ?_, fun z => absurd z (no_order d'), fun z => absurd z (by omega), fun _ _ => ⟨by omega, d'.raw, by simpa [Nat.add_sub_cancel] using hd, by rw [e0]⟩⟩
      rw [decide_eq_false (no_memory d'), decide_eq_false (by omega)]
end BC
namespace BC
open PySem PySem.Spec PyProof.Rows L2 TL
theorem tx_al_deed {n : Nat} (d : Deed) : Al (n + 1) (pyDeed d.raw) := by
  have w : ∀ s ∈ [("set" : Str), "add", "say", "start", "wait", "clean", "drop"], PyData.strOk s = true := by decide +kernel
  have hs : PyData.strOk d.raw.1 = true := w _ (by cases d <;> simp [Deed.raw])
  have hl : d.raw.2.length ≤ 2 := by cases d <;> simp [Deed.raw]
  refine al_tup (by simp; omega) fun e he => ?_
  rcases List.mem_cons.mp he with rfl | he
  · exact al_str hs
  · exact al_ints e he
theorem tx_al_board {n : Nat} {b : Bd} (g : Good b) : Al (n + 3) (pyB b.raw) := by
  have h1 := g.lines
  have h2 := g.ords
  have h3 := g.len
  refine al_tup (by simp) fun e he => ?_
  simp only [List.mem_cons, List.not_mem_nil, or_false] at he
  rcases he with rfl | rfl | rfl
  · exact al_tup (by rw [List.length_map]; show b.mem.length ≤ _; omega) al_ints
  · refine al_tup (by rw [List.length_map, List.length_map]; omega) fun d hd => ?_
    obtain ⟨o, _, rfl⟩ := List.mem_map.mp hd
    refine al_tup (by simp) fun e he => ?_
    simp only [List.mem_cons, List.not_mem_nil, or_false] at he
    rcases he with rfl | rfl | rfl | rfl
    · exact al_int
    · exact al_int
    · exact al_int
    · exact al_opt
  · refine al_tup (by rw [List.length_map, List.length_map]; omega) fun d hd => ?_
    rw [List.map_map] at hd
    obtain ⟨d, _, rfl⟩ := List.mem_map.mp hd
    exact tx_al_deed d
end BC
/-! the law's own text: where each def stands, what the top has written. -/
namespace BC
open PySem PySem.Spec PyProof.Rows L2
open C8 (tCut pss_cut)
def topS (i : Nat) : Stmt := PySem.Challenge.pw_blockcarrier_k14_written_and_read.main.body.getD i (.Pass ⟨0, 0, 0, 0⟩)
abbrev s_is_from : Stmt := topS 12
abbrev s_lines_in : Stmt := topS 13
abbrev s_memory_fault : Stmt := topS 14
abbrev s_is_order : Stmt := topS 15
abbrev s_is_deed : Stmt := topS 16
abbrev s_check_board : Stmt := topS 17
abbrev s_number_text : Stmt := topS 22
abbrev s_written : Stmt := topS 23
abbrev s_number_of : Stmt := topS 24
abbrev s_row_of : Stmt := topS 25
abbrev s_read_board : Stmt := topS 26
abbrev s__law_begun : Stmt := topS 28
abbrev s__law_take : Stmt := topS 29
abbrev s__law_alike : Stmt := topS 30
abbrev s__law_order : Stmt := topS 31
abbrev s__law_deed : Stmt := topS 32
abbrev s__law_board : Stmt := topS 33
abbrev s__law_text : Stmt := topS 34
abbrev s__law_kinds : Stmt := topS 35
abbrev s_law : Stmt := topS 36
/-- where the classes stand -/
structure Cl where
  none : Unit
/-- what the top has written -/
structure Txt (K : PySem.W.Frag) (mg : Str → Option Value) (c : Cl) : Prop where
  len : mg "len" = none
  range : mg "range" = none
  min : mg "min" = none
  int : mg "int" = none
  list : mg "list" = none
  tuple : mg "tuple" = none
  enumerate : mg "enumerate" = none
  isinstance : mg "isinstance" = none
  bool : mg "bool" = none
  str : mg "str" = none
  all : mg "all" = none
  ValueError : mg "ValueError" = none
  g_WIDE : HasC mg "WIDE" (.int 4)
  g_MOST_LINES : HasC mg "MOST_LINES" (.int 4)
  g_MOST_DIGIT : HasC mg "MOST_DIGIT" (.int 9)
  g_MOST_ORDERS : HasC mg "MOST_ORDERS" (.int 4)
  g_MOST_CELLS : HasC mg "MOST_CELLS" (.int 8)
  g_MOST_DEEDS : HasC mg "MOST_DEEDS" (.int 60)
  g_MOST_STARTS : HasC mg "MOST_STARTS" (.int 3)
  g_MOST_FIGURES : HasC mg "MOST_FIGURES" (.int 9)
  g_FIGURES : HasC mg "FIGURES" (.str "0123456789")
  F_is_from : ∃ f fd, Fun K "is_from" "is_from" s_is_from f fd ∧ mg "is_from" = some (.ref f)
  F_lines_in : ∃ f fd, Fun K "lines_in" "lines_in" s_lines_in f fd ∧ mg "lines_in" = some (.ref f)
  F_memory_fault : ∃ f fd, Fun K "memory_fault" "memory_fault" s_memory_fault f fd ∧ mg "memory_fault" = some (.ref f)
  F_is_order : ∃ f fd, Fun K "is_order" "is_order" s_is_order f fd ∧ mg "is_order" = some (.ref f)
  F_is_deed : ∃ f fd, Fun K "is_deed" "is_deed" s_is_deed f fd ∧ mg "is_deed" = some (.ref f)
  F_check_board : ∃ f fd, Fun K "check_board" "check_board" s_check_board f fd ∧ mg "check_board" = some (.ref f)
  F_number_text : ∃ f fd, Fun K "number_text" "number_text" s_number_text f fd ∧ mg "number_text" = some (.ref f)
  F_written : ∃ f fd, Fun K "written" "written" s_written f fd ∧ mg "written" = some (.ref f)
  F_number_of : ∃ f fd, Fun K "number_of" "number_of" s_number_of f fd ∧ mg "number_of" = some (.ref f)
  F_row_of : ∃ f fd, Fun K "row_of" "row_of" s_row_of f fd ∧ mg "row_of" = some (.ref f)
  F_read_board : ∃ f fd, Fun K "read_board" "read_board" s_read_board f fd ∧ mg "read_board" = some (.ref f)
  F__law_begun : ∃ f fd, Fun K "_law_begun" "_law_begun" s__law_begun f fd ∧ mg "_law_begun" = some (.ref f)
  F__law_take : ∃ f fd, Fun K "_law_take" "_law_take" s__law_take f fd ∧ mg "_law_take" = some (.ref f)
  F__law_alike : ∃ f fd, Fun K "_law_alike" "_law_alike" s__law_alike f fd ∧ mg "_law_alike" = some (.ref f)
  F__law_order : ∃ f fd, Fun K "_law_order" "_law_order" s__law_order f fd ∧ mg "_law_order" = some (.ref f)
  F__law_deed : ∃ f fd, Fun K "_law_deed" "_law_deed" s__law_deed f fd ∧ mg "_law_deed" = some (.ref f)
  F__law_board : ∃ f fd, Fun K "_law_board" "_law_board" s__law_board f fd ∧ mg "_law_board" = some (.ref f)
  F__law_text : ∃ f fd, Fun K "_law_text" "_law_text" s__law_text f fd ∧ mg "_law_text" = some (.ref f)
  F__law_kinds : ∃ f fd, Fun K "_law_kinds" "_law_kinds" s__law_kinds f fd ∧ mg "_law_kinds" = some (.ref f)
  F_law : ∃ f fd, Fun K "law" "law" s_law f fd ∧ mg "law" = some (.ref f)
/-- the written counts -/
structure CTxt (w : World) (K : PySem.W.Frag) (mg : Str → Option Value) : Prop where
  g_COUNTS : ∃ a, HasC mg "COUNTS" (.ref a) ∧ KTab K w a countsL
end BC
namespace BC
open PySem PySem.Spec PyProof.Rows L2
open C8 (tCut pss_cut)
local macro_rules | `(tactic| walk_at "kp") => `(tactic| first
  | exact Kp.refl _ | assumption | exact Ex.kp (by assumption)
  | (refine Kp.new (by assumption) ?_; walk_at "kp")
  | (refine Kp.mut (nt_of (by assumption) trivial) ?_; walk_at "kp")
  | (refine Kp.trans ?_ (by assumption); walk_at "kp")
  | (refine Kp.trans ?_ (Ex.kp (by assumption)); walk_at "kp"))
local macro_rules | `(tactic| walk_at "ex") => `(tactic| first
  | exact Ex.refl _ | assumption
  | (refine Ex.trans ?_ (Ex.new (by assumption)); walk_at "ex")
  | (refine Ex.trans ?_ (by assumption); walk_at "ex"))
local macro_rules | `(tactic| walk_at "rd1") => `(tactic| first
  | with_reducible refine st_seq ?_ | with_reducible refine st_asg ?_ | with_reducible refine st_ret ?_ | with_reducible refine st_retN ?_ | with_reducible refine st_drop ?_ | with_reducible refine st_ifS ?_ | with_reducible refine st_name ?_
  | with_reducible refine st_var rfl ?_ | with_reducible refine st_c ?_ | with_reducible refine st_op ?_ | with_reducible refine st_un ?_ | with_reducible refine st_if ?_
  | with_reducible refine st_cons ?_ | with_reducible refine st_nil ?_ | with_reducible refine st_call ?_ | with_reducible refine st_CB ?_ | with_reducible refine st_tup ?_ | with_reducible refine st_lst ?_
  | with_reducible refine st_test ?_ | with_reducible refine st_tB ?_ | with_reducible refine st_and ?_ | with_reducible refine st_or ?_ | with_reducible refine st_not ?_ | with_reducible refine st_andV ?_ | with_reducible refine st_orV ?_ | with_reducible refine st_notV ?_
  | with_reducible refine st_bl ?_ | with_reducible refine st_T ?_ | with_reducible refine st_F ?_ | with_reducible refine st_next ?_ | with_reducible refine st_brk ?_ | with_reducible refine st_cont ?_
  | with_reducible refine st_I0 ?_ | with_reducible refine st_eqI ?_ | with_reducible refine st_neI ?_ | with_reducible refine st_eqS ?_ | with_reducible refine st_neS ?_ | with_reducible refine st_eqB ?_ | with_reducible refine st_neB ?_
  | with_reducible refine st_isN0 ?_ | with_reducible refine st_isNI ?_ | with_reducible refine st_isNR ?_ | with_reducible refine st_notN0 ?_ | with_reducible refine st_notNI ?_ | with_reducible refine st_notNR ?_ | with_reducible refine st_isN ?_ | with_reducible refine st_notN ?_
  | with_reducible refine st_intS ?_ | with_reducible refine st_intN (by decide) ?_ | with_reducible refine st_intB ?_ | with_reducible refine st_oT1 ?_ | with_reducible refine st_oT2 ?_ | with_reducible refine st_oF (by decide) (by decide) ?_ | with_reducible refine st_min ?_ | with_reducible refine st_gnil ?_ | with_reducible refine st_gcons ?_ | with_reducible refine st_bm ?_ | with_reducible refine st_bm0 ?_ | with_reducible refine st_yes ?_ | with_reducible refine st_lcR ?_ | with_reducible refine st_lcL ?_ | with_reducible refine st_lcU ?_ | with_reducible refine st_lcS ?_ | with_reducible refine st_sT ?_ | with_reducible refine st_sF (by decide) ?_ | with_reducible refine st_wL ?_ | with_reducible refine st_wT ?_ | with_reducible refine st_wR ?_ | with_reducible refine st_wE ?_ | with_reducible refine st_NT ?_ | with_reducible refine st_NF ?_ | with_reducible refine st_fld ?_ | with_reducible refine st_sfld ?_ | with_reducible refine st_meth ?_ | with_reducible refine st_make ?_ | with_reducible refine st_fldaug ?_ | with_reducible refine st_gsub ?_ | with_reducible refine st_dget ?_ | with_reducible refine st_din ?_ | with_reducible refine st_dnotin ?_ | with_reducible refine st_dput ?_ | with_reducible refine st_dupd ?_ | with_reducible refine st_dpop ?_ | with_reducible refine st_pcons ?_ | with_reducible refine st_pnil ?_ | with_reducible refine st_sl ?_ | with_reducible refine st_npart ?_ | with_reducible refine st_part ?_ | with_reducible refine st_pint ?_ | with_reducible refine st_aug rfl ?_ | with_reducible refine st_ip ?_ | with_reducible refine st_fdiv ⟨by decide, by decide⟩ ?_ | with_reducible refine st_mod (by decide) ?_)
local macro_rules | `(tactic| walk_at "rd") => `(tactic| repeat walk_at "rd1")
/-! ### is_from -/
theorem sc_is_from : FnScope ["number", "least", "most"] ["number", "least", "most"] (defScope s_is_from) := ⟨rfl, rfl, rfl, by decide +kernel, rfl, by decide +kernel, by decide +kernel⟩
def sp_is_from : Sp := fun vs H Q _ => ∃ a b c : Int, vs = [.int a, .int b, .int c] ∧ Q (.bl (decide (b ≤ a ∧ a ≤ c))) H
theorem cal_is_from {P w base K mg c} (T : Txt K mg c) : Cal CX0 P w K mg base 1 "is_from" sp_is_from := by
  obtain ⟨f, fd, F, m⟩ := T.F_is_from
  refine cal_of F m (fun _ _ _ _ _ _ us hl => match us, hl with | [_, _, _], _ => rfl) sc_is_from (fun vs H Q E h => ?_) (fun cdv A outer s H vs Q E hr h => ?_)
  · obtain ⟨a, b, c, rfl, _⟩ := h
    rfl
  · obtain ⟨a, b, c, rfl, q⟩ := h
    refine ⟨_, (pss_one (ps_ret (pe_and (pe_cmpR op_le (pv 1) (pv 0) (nomark _)) (pe_one (pe_cmpR op_le (pv 0) (pv 2) (nomark _)))))), ?_⟩
    walk_at "rd"
    refine st_D (fun h1 => ?_) (fun h1 => ?_)
    · walk_at "rd"
      rw [show decide (b ≤ a ∧ a ≤ c) = decide (a ≤ c) from decide_eq_decide.mpr ⟨fun h => h.2, fun h => ⟨h1, h⟩⟩] at q
      exact q
    · rw [decide_eq_false (fun h : b ≤ a ∧ a ≤ c => h1 h.1)] at q
      exact q
/-! ### lines_in -/
theorem sc_lines_in : FnScope ["memory"] ["memory"] (defScope s_lines_in) := ⟨rfl, rfl, rfl, by decide +kernel, rfl, by decide +kernel, by decide +kernel⟩
def sp_lines_in : Sp := fun vs H Q _ => ∃ (x : V) (ds : List PyData), vs = [x] ∧ Im H (.tuple ds) x ∧ Q (.int ((ds.length / 4 : Nat) : Int)) H
theorem cal_lines_in {P w base K mg c} (T : Txt K mg c) : Cal CX0 P w K mg base 1 "lines_in" sp_lines_in := by
  obtain ⟨f, fd, F, m⟩ := T.F_lines_in
  refine cal_of F m (fun _ _ _ _ _ _ us hl => match us, hl with | [_], _ => rfl) sc_lines_in (fun vs H Q E h => ?_) (fun cdv A outer s H vs Q E hr h => ?_)
  · obtain ⟨x, ds, rfl, _⟩ := h
    rfl
  · obtain ⟨x, ds, rfl, hx, q⟩ := h
    refine ⟨_, (pss_one (ps_ret (pe_op op_fdiv (pe_callB c_len (by rfl) T.len PySem.boot_len (pa_cons (pv 0) pa_nil)) (pe_gc (by rfl) T.g_WIDE)))), ?_⟩
    walk_at "rd"
    refine st_lenT hx (Kp.refl _) ?_
    walk_at "rd"
    exact q
/-! ### memory_fault -/
theorem sc_memory_fault : FnScope ["memory", "place", "number"] ["memory"] (defScope s_memory_fault) := ⟨rfl, rfl, rfl, by decide +kernel, rfl, by decide +kernel, by decide +kernel⟩
def vNat : Option Nat → V
  | none => .non
  | some n => .int (n : Int)
def sp_memory_fault : Sp := fun vs H Q _ => ∃ (x : V) (m : List Int), vs = [x] ∧ Im H (pyMem m) x ∧ ∀ H', Ex H H' → Q (vNat (memFault m)) H'
theorem cal_memory_fault {P w base K mg c} (T : Txt K mg c) : Cal CX0 P w K mg base 2 "memory_fault" sp_memory_fault := by
  obtain ⟨f, fd, F, m⟩ := T.F_memory_fault
  have c_is_from := cal_is_from (P := P) (w := w) (base := base) T
  have c_lines_in := cal_lines_in (P := P) (w := w) (base := base) T
  refine cal_of F m (fun _ _ _ _ _ _ us hl => match us, hl with | [_], _ => rfl) sc_memory_fault (fun vs H Q E h => ?_) (fun cdv A outer s H vs Q E hr h => ?_)
  · obtain ⟨x, ds, rfl, _⟩ := h
    rfl
  · obtain ⟨x, m, rfl, hx, q⟩ := h
    refine ⟨_, (pss_cons (ps_if (PW.pt (pw_or (pt_cmpR op_ne (pe_op op_mod (pe_callB c_len (by rfl) T.len PySem.boot_len (pa_cons (pv 0) pa_nil)) (pe_gc (by rfl) T.g_WIDE)) pe_int (nomark _)) (pw_or1 (pt_not (pt_val (pe_c c_is_from hr (by decide) (by rfl) (pa_cons (pe_c c_lines_in hr (by decide) (by rfl) (pa_cons (pv 0) pa_nil)) (pa_cons pe_int (pa_cons (pe_gc (by rfl) T.g_MOST_LINES) pa_nil))))))))) (pss_one (ps_ret pe_int)) pss_nil)
      (pss_cons (ps_for PassesOwn.never rfl (pi_enumT (by rfl) T.enumerate (pa_cons (pv 0) pa_nil)) (pg_tup (n := 2) rfl (pgs_cons (pg_name (i := 1) sc_memory_fault.nd rfl (.inl rfl)) (pgs_cons (pg_name (i := 2) sc_memory_fault.nd rfl (.inl rfl)) pgs_nil)))
      (pss_one (ps_if (pt_not (pt_val (pe_c c_is_from hr (by decide) (by rfl) (pa_cons (pv 2) (pa_cons pe_int (pa_cons (pe_gc (by rfl) T.g_MOST_DIGIT) pa_nil)))))) (pss_one (ps_ret (pv 1))) pss_nil)))
      (pss_one (ps_ret pe_non)))), ?_⟩
    walk_at "rd"
    refine st_lenT hx (Kp.refl _) ?_
    walk_at "rd"
    have ez : ((m.map PyData.int).length : Int) % 4 = ((m.length % 4 : Nat) : Int) := by
      rw [List.length_map]
      omega
    rw [ez]
    have bad : (m.length % 4 ≠ 0 ∨ ¬ (1 ≤ m.length / 4 ∧ m.length / 4 ≤ 4)) → Q (.int 0) H := fun h => by
      have e : memFault m = some 0 := by
        unfold memFault
        rw [if_pos h]
      rw [e] at q
      exact q H (Ex.refl H)
    have main : ¬ (m.length % 4 ≠ 0 ∨ ¬ (1 ≤ m.length / 4 ∧ m.length / 4 ≤ 4)) → (tFor (iEnumT K (tCons (tVar 0) tNil)) (gTup K 2 (gCons (gName 1) (gCons (gName 2) gNil)))
        (tIfS (tNot (tB (tCall sp_is_from [] L2.E0 (tCons (tVar 2) (tCons (tC (.int 0)) (tCons (tC (.int 9)) tNil)))))) (tRet (tVar 1)) tNext)) ⟨tRet (tC .non) { nx := fun _ H' => Q .non H', rt := Q }, Q, fun _ _ => False, fun _ _ => False⟩ (L2.start ["memory", "place", "number"] [x]) H := fun hg => by
      have e0 : memFault m = m.findIdx? fun n => !digit n := by
        unfold memFault
        rw [if_neg hg]
      refine st_forET (H0 := H) (fun i σ H' => ∃ y z, σ = [some x, y, z] ∧ Ex H H' ∧ ∀ j n, j < i → m[j]? = some n → digit n = true) rfl hx (Kp.refl _) ⟨none, none, rfl, Ex.refl _, fun j n hj => absurd hj (Nat.not_lt_zero _)⟩ (fun i σ H' p => ?_) (fun i d v σ H' H'' hd p ht hv => ?_) (fun σ H' p => ?_)
      · obtain ⟨_, _, _, e, _⟩ := p
        exact e.kp
      · obtain ⟨y, z, rfl, e, hj⟩ := p
        obtain ⟨n, en, rfl⟩ := map_at' hd
        rw [Im.int_iff.mp hv]
        walk_at "rd"
        refine ⟨_, _, _, rfl, ?_⟩
        walk_at "rd"
        refine st_ND (fun h => ?_) (fun h => ?_)
        · walk_at "rd"
          have hd : digit n = false := decide_eq_false h
          have e1 : m.findIdx? (fun n => !digit n) = some i := by
            rw [List.findIdx?_eq_some_iff_getElem]
            obtain ⟨hi, g⟩ := List.getElem?_eq_some_iff.mp en
            refine ⟨hi, by rw [g, hd]; rfl, fun j hj' => ?_⟩
            rw [hj j m[j] hj' (List.getElem?_eq_getElem (by omega))]
            simp
          rw [e0, e1] at q
          exact q _ (e.trans ht)
        · walk_at "rd"
          refine ⟨some (.int (i : Int)), some (.int n), rfl, e.trans ht, fun j n' hj' en' => ?_⟩
          rcases Nat.lt_succ_iff_lt_or_eq.mp hj' with h1 | h1
          · exact hj j n' h1 en'
          · subst h1
            rw [en] at en'
            cases en'
            exact decide_eq_true h
      · obtain ⟨y, z, rfl, e, hj⟩ := p
        walk_at "rd"
        have e1 : m.findIdx? (fun n => !digit n) = none := by
          rw [List.findIdx?_eq_none_iff]
          intro n hn
          obtain ⟨j, h1, h2⟩ := List.mem_iff_getElem.mp hn
          rw [hj j n (by simpa using h1) (by rw [List.getElem?_eq_getElem h1, h2])]
          rfl
        rw [e0, e1] at q
        exact q _ e
    refine st_ND (fun h => ?_) (fun h => ?_)
    · walk_at "rd"
      exact bad (.inl fun z => h (by rw [z]; rfl))
    · walk_at "rd"
      refine ⟨x, _, rfl, hx, ?_⟩
      walk_at "rd"
      refine ⟨_, _, _, rfl, ?_⟩
      walk_at "rd"
      rw [List.length_map]
      refine st_ND (fun h2 => ?_) (fun h2 => ?_)
      · walk_at "rd"
        exact bad (.inr fun z => h2 (by omega))
      · walk_at "rd"
        exact main fun z => z.elim (fun z => z (by omega)) fun z => z (by omega)
/-! ### is_order -/
theorem sc_is_order : FnScope ["board", "number", "memory", "orders", "program", "source", "goal", "many", "later"] ["board", "number"] (defScope s_is_order) := ⟨rfl, rfl, rfl, by decide +kernel, rfl, by decide +kernel, by decide +kernel⟩
def sp_is_order : Sp := fun vs H Q _ => ∃ (x : V) (b : RB) (i : Nat) (o : ROrd), vs = [x, .int (i : Int)] ∧ Im H (pyB b) x ∧ b.ords[i]? = some o ∧ Q (.bl (ordOk b.mem.length b.ords.length i o)) H
theorem cal_is_order {P w base K mg c} (T : Txt K mg c) : Cal CX0 P w K mg base 2 "is_order" sp_is_order := by
  obtain ⟨f, fd, F, m⟩ := T.F_is_order
  have c_is_from := cal_is_from (P := P) (w := w) (base := base) T
  refine cal_of F m (fun _ _ _ _ _ _ us hl => match us, hl with | [_, _], _ => rfl) sc_is_order (fun vs H Q E h => ?_) (fun cdv A outer s H vs Q E hr h => ?_)
  · obtain ⟨x, b, i, o, rfl, _⟩ := h
    rfl
  · obtain ⟨x, b, i, o, rfl, hx, ho, q⟩ := h
    refine ⟨_, (pss_cons (ps_asg (pv 0) (pg_tup (n := 3) rfl (pgs_cons (pg_name (i := 2) sc_is_order.nd rfl (.inl rfl)) (pgs_cons (pg_name (i := 3) sc_is_order.nd rfl (.inl rfl)) (pgs_cons (pg_name (i := 4) sc_is_order.nd rfl (.inl rfl)) pgs_nil)))))
      (pss_cons (ps_asg (pe_ix ix_tup (pv 3) (pv 1) (fun _ _ => rfl)) (pg_tup (n := 4) rfl (pgs_cons (pg_name (i := 5) sc_is_order.nd rfl (.inl rfl)) (pgs_cons (pg_name (i := 6) sc_is_order.nd rfl (.inl rfl)) (pgs_cons (pg_name (i := 7) sc_is_order.nd rfl (.inl rfl)) (pgs_cons (pg_name (i := 8) sc_is_order.nd rfl (.inl rfl)) pgs_nil))))))
      (pss_cons (ps_if (pt_not (pt_val (pe_c c_is_from hr (by decide) (by rfl) (pa_cons (pv 7) (pa_cons pe_int (pa_cons (pe_gc (by rfl) T.g_MOST_CELLS) pa_nil)))))) (pss_one (ps_ret pe_bl)) pss_nil)
      (pss_cons (ps_if (PW.pt (pw_or (pt_not (pt_val (pe_c c_is_from hr (by decide) (by rfl) (pa_cons (pv 5) (pa_cons pe_int (pa_cons (pe_op op_sub (pe_callB c_len (by rfl) T.len PySem.boot_len (pa_cons (pv 2) pa_nil)) (pv 7)) pa_nil)))))) (pw_or1 (pt_not (pt_val (pe_c c_is_from hr (by decide) (by rfl) (pa_cons (pv 6) (pa_cons pe_int (pa_cons (pe_op op_sub (pe_callB c_len (by rfl) T.len PySem.boot_len (pa_cons (pv 2) pa_nil)) (pv 7)) pa_nil))))))))) (pss_one (ps_ret pe_bl)) pss_nil)
      (pss_one (ps_ret (pe_or (pe_cmpR o_isN (pv 8) pe_non (nomark _)) (pe_one (pe_c c_is_from hr (by decide) (by rfl) (pa_cons (pv 8) (pa_cons (pe_op op_add (pv 1) pe_int) (pa_cons (pe_op op_sub (pe_callB c_len (by rfl) T.len PySem.boot_len (pa_cons (pv 3) pa_nil)) pe_int) pa_nil)))))))))))), ?_⟩
    walk_at "rd"
    refine st_gtup hx (Kp.refl _) rfl fun xs hxs => ?_
    obtain ⟨vm, xs, rfl, hm, hxs⟩ := hxs.cons_inv
    obtain ⟨vo, xs, rfl, hos, hxs⟩ := hxs.cons_inv
    obtain ⟨vp, xs, rfl, hp, hxs⟩ := hxs.cons_inv
    cases hxs.nil_inv
    walk_at "rd"
    refine st_ixT hos (Kp.refl _) (atI_nat (map_at ho)) fun v hv => ?_
    refine st_gtup hv (Kp.refl _) rfl fun xs hxs => ?_
    cases ord_inv hxs
    walk_at "rd"
    refine ⟨_, _, _, rfl, ?_⟩
    walk_at "rd"
    unfold ordOk at q
    refine st_ND (fun h1 => ?_) (fun h1 => ?_)
    · walk_at "rd"
      rw [decide_eq_false h1] at q
      exact q
    rw [decide_eq_true h1] at q
    walk_at "rd"
    refine st_lenT hm (Kp.refl _) ?_
    walk_at "rd"
    refine ⟨_, _, _, rfl, ?_⟩
    walk_at "rd"
    rw [List.length_map]
    refine st_ND (fun h2 => ?_) (fun h2 => ?_)
    · walk_at "rd"
      rw [decide_eq_false h2] at q
      exact q
    rw [decide_eq_true h2] at q
    walk_at "rd"
    refine st_lenT hm (Kp.refl _) ?_
    walk_at "rd"
    refine ⟨_, _, _, rfl, ?_⟩
    walk_at "rd"
    rw [List.length_map]
    refine st_ND (fun h3 => ?_) (fun h3 => ?_)
    · walk_at "rd"
      rw [decide_eq_false h3] at q
      exact q
    rw [decide_eq_true h3] at q
    walk_at "rd"
    cases e : o.2.2.2 with
    | none =>
      rw [e] at q
      show if decide (V.non = V.non) = true then _ else _
      rw [decide_eq_true rfl]
      walk_at "rd"
      exact q
    | some l =>
      rw [e] at q
      show if decide (V.int l = V.non) = true then _ else _
      rw [decide_eq_false (fun z => by cases z)]
      walk_at "rd"
      refine st_lenT hos (Kp.refl _) ?_
      walk_at "rd"
      refine ⟨_, _, _, rfl, ?_⟩
      rw [List.length_map]
      exact q
/-! ### is_deed -/
theorem sc_is_deed : FnScope ["board", "deed", "memory", "orders", "program", "word"] ["board", "deed"] (defScope s_is_deed) := ⟨rfl, rfl, rfl, by decide +kernel, rfl, by decide +kernel, by decide +kernel⟩
def sp_is_deed : Sp := fun vs H Q _ => ∃ (x y : V) (b : RB) (d : RDeed), vs = [x, y] ∧ Im H (pyB b) x ∧ Im H (pyDeed d) y ∧ ∀ H', Ex H H' → Q (.bl (deedOk b.mem.length b.ords.length d)) H'
theorem deed_len (d : RDeed) : ((PyData.str d.1 :: d.2.map .int).length : Int) = (d.2.length : Int) + 1 := by
  rw [List.length_cons, List.length_map]
  rfl
theorem cal_is_deed {P w base K mg c} (T : Txt K mg c) : Cal CX0 P w K mg base 2 "is_deed" sp_is_deed := by
  obtain ⟨f, fd, F, m⟩ := T.F_is_deed
  have c_is_from := cal_is_from (P := P) (w := w) (base := base) T
  have c_lines_in := cal_lines_in (P := P) (w := w) (base := base) T
  refine cal_of F m (fun _ _ _ _ _ _ us hl => match us, hl with | [_, _], _ => rfl) sc_is_deed (fun vs H Q E h => ?_) (fun cdv A outer s H vs Q E hr h => ?_)
  · obtain ⟨x, y, b, d, rfl, _⟩ := h
    rfl
  · obtain ⟨x, y, b, d, rfl, hx, hy, q⟩ := h
    refine ⟨_, (pss_cons (ps_asg (pv 0) (pg_tup (n := 3) rfl (pgs_cons (pg_name (i := 2) sc_is_deed.nd rfl (.inl rfl)) (pgs_cons (pg_name (i := 3) sc_is_deed.nd rfl (.inl rfl)) (pgs_cons (pg_name (i := 4) sc_is_deed.nd rfl (.inl rfl)) pgs_nil)))))
      (pss_cons (ps_set (i := 5) sc_is_deed.nd rfl (.inl rfl) (pe_ix ix_tup (pv 1) pe_int (fun _ _ => rfl)))
      (pss_cons (ps_if (pt_cmpR op_eq (pv 5) pe_str (nomark _)) (pss_one (ps_ret (pe_cmpR op_eq (pe_callB c_len (by rfl) T.len PySem.boot_len (pa_cons (pv 1) pa_nil)) pe_int (nomark _)))) pss_nil)
      (pss_cons (ps_if (pt_cmpR op_in_seq (pv 5) (pe_tup (pa_cons pe_str (pa_cons pe_str pa_nil))) (by rfl)) (pss_cons (ps_if (PW.pt (pw_or (pt_cmpR op_ne (pe_callB c_len (by rfl) T.len PySem.boot_len (pa_cons (pv 1) pa_nil)) pe_int (nomark _)) (pw_or1 (pt_not (pt_val (pe_c c_is_from hr (by decide) (by rfl) (pa_cons (pe_ix ix_tup (pv 1) pe_int (fun _ _ => rfl)) (pa_cons pe_int (pa_cons (pe_op op_sub (pe_callB c_len (by rfl) T.len PySem.boot_len (pa_cons (pv 2) pa_nil)) pe_int) pa_nil))))))))) (pss_one (ps_ret pe_bl)) pss_nil)
      (pss_one (ps_ret (pe_c c_is_from hr (by decide) (by rfl) (pa_cons (pe_ix ix_tup (pv 1) pe_int (fun _ _ => rfl)) (pa_cons pe_int (pa_cons (pe_ifExp (pt_cmpR op_eq (pv 5) pe_str (nomark _)) (pe_gc (by rfl) T.g_MOST_DIGIT) (pe_op op_sub (pe_callB c_len (by rfl) T.len PySem.boot_len (pa_cons (pv 2) pa_nil)) pe_int)) pa_nil))))))) pss_nil)
      (pss_cons (ps_if (pt_cmpR op_ne (pe_callB c_len (by rfl) T.len PySem.boot_len (pa_cons (pv 1) pa_nil)) pe_int (nomark _)) (pss_one (ps_ret pe_bl)) pss_nil)
      (pss_cons (ps_if (pt_cmpR op_eq (pv 5) pe_str (nomark _)) (pss_one (ps_ret (pe_c c_is_from hr (by decide) (by rfl) (pa_cons (pe_ix ix_tup (pv 1) pe_int (fun _ _ => rfl)) (pa_cons pe_int (pa_cons (pe_op op_sub (pe_callB c_len (by rfl) T.len PySem.boot_len (pa_cons (pv 2) pa_nil)) pe_int) pa_nil)))))) pss_nil)
      (pss_cons (ps_if (pt_cmpR op_eq (pv 5) pe_str (nomark _)) (pss_one (ps_ret (pe_c c_is_from hr (by decide) (by rfl) (pa_cons (pe_ix ix_tup (pv 1) pe_int (fun _ _ => rfl)) (pa_cons pe_int (pa_cons (pe_op op_sub (pe_callB c_len (by rfl) T.len PySem.boot_len (pa_cons (pv 3) pa_nil)) pe_int) pa_nil)))))) pss_nil)
      (pss_one (ps_ret (pe_and (pe_cmpR op_in_seq (pv 5) (pe_tup (pa_cons pe_str (pa_cons pe_str pa_nil))) (by rfl)) (pe_one (pe_c c_is_from hr (by decide) (by rfl) (pa_cons (pe_ix ix_tup (pv 1) pe_int (fun _ _ => rfl)) (pa_cons pe_int (pa_cons (pe_op op_sub (pe_c c_lines_in hr (by decide) (by rfl) (pa_cons (pv 2) pa_nil)) pe_int) pa_nil))))))))))))))), ?_⟩
    walk_at "rd"
    refine st_gtup hx (Kp.refl _) rfl fun xs hxs => ?_
    obtain ⟨vm, xs, rfl, hm, hxs⟩ := hxs.cons_inv
    obtain ⟨vo, xs, rfl, hos, hxs⟩ := hxs.cons_inv
    obtain ⟨vp, xs, rfl, hp, hxs⟩ := hxs.cons_inv
    cases hxs.nil_inv
    walk_at "rd"
    refine st_ixT_str hy (Kp.refl _) (atI_nat (j := 0) rfl) ?_
    walk_at "rd"
    have fin : ∀ (v : Bool), deedOk b.mem.length b.ords.length d = v → ∀ H', Ex H H' → Q (.bl v) H' := fun v e H' e' => by
      rw [← e]
      exact q H' e'
    clear q
    unfold deedOk at fin
    obtain ⟨w0, ns⟩ := d
    have hL : ∀ H', Ex H H' → Im H' (.tuple (.str w0 :: ns.map .int)) y := fun H' e => hy.ex e
    refine st_D (fun h1 => ?_) (fun h1 => ?_)
    · walk_at "rd"
      refine st_lenT hy (Kp.refl _) ?_
      walk_at "rd"
      refine fin _ ?_ H (Ex.refl H)
      rw [if_pos h1, deed_len, Bool.eq_iff_iff, beq_iff_eq, decide_eq_true_eq]
      simp only
      omega
    rw [if_neg h1] at fin
    walk_at "rd"
    refine st_newT (by simp) fun p H1 hp e1 t1 => ?_
    refine st_in2 t1 ?_
    walk_at "rd"
    refine st_D (fun h2 => ?_) (fun h2 => ?_)
    · rw [if_pos h2] at fin
      walk_at "rd"
      refine st_lenT hy e1.kp ?_
      walk_at "rd"
      refine st_ND (fun h3 => ?_) (fun h3 => ?_)
      · walk_at "rd"
        refine fin _ ?_ H1 e1
        rw [deed_len] at h3
        match ns, h3 with
        | [], _ => rfl
        | [_], _ => rfl
        | [_, _], h3 => exact absurd rfl h3
        | _ :: _ :: _ :: _, _ => rfl
      rw [deed_len] at h3
      obtain ⟨x1, y1, rfl⟩ : ∃ x1 y1, ns = [x1, y1] := by
        match ns, h3 with
        | [x1, y1], _ => exact ⟨x1, y1, rfl⟩
        | [], h3 => exact absurd h3 (by simp)
        | [_], h3 => exact absurd h3 (by simp)
        | _ :: _ :: _ :: _, h3 => exact absurd h3 (by simp only [List.length_cons]; omega)
      walk_at "rd"
      refine st_ixT_int hy e1.kp (atI_nat (j := 1) rfl) ?_
      walk_at "rd"
      refine st_lenT hm e1.kp ?_
      walk_at "rd"
      refine ⟨_, _, _, rfl, ?_⟩
      walk_at "rd"
      rw [List.length_map]
      refine st_ND (fun h4 => ?_) (fun h4 => ?_)
      · walk_at "rd"
        refine fin _ ?_ H1 e1
        show (decide (0 ≤ x1 ∧ x1 ≤ (b.mem.length : Int) - 1) && _) = _
        rw [decide_eq_false h4]
        rfl
      walk_at "rd"
      refine st_ixT_int hy e1.kp (atI_nat (j := 2) rfl) ?_
      walk_at "rd"
      refine st_D (fun h5 => ?_) (fun h5 => ?_)
      · walk_at "rd"
        refine ⟨_, _, _, rfl, ?_⟩
        refine fin _ ?_ H1 e1
        show (decide (0 ≤ x1 ∧ x1 ≤ (b.mem.length : Int) - 1) && _) = _
        rw [decide_eq_true h4, Bool.true_and]
        simp only [if_pos h5]
      · walk_at "rd"
        refine st_lenT hm e1.kp ?_
        walk_at "rd"
        refine ⟨_, _, _, rfl, ?_⟩
        refine fin _ ?_ H1 e1
        show (decide (0 ≤ x1 ∧ x1 ≤ (b.mem.length : Int) - 1) && _) = _
        rw [decide_eq_true h4, Bool.true_and, List.length_map]
        simp only [if_neg h5]
    rw [if_neg h2] at fin
    walk_at "rd"
    refine st_lenT hy e1.kp ?_
    walk_at "rd"
    refine st_ND (fun h3 => ?_) (fun h3 => ?_)
    · walk_at "rd"
      refine fin _ ?_ H1 e1
      rw [deed_len] at h3
      match ns, h3 with
      | [], _ => rfl
      | [_], h3 => exact absurd rfl h3
      | _ :: _ :: _, _ => rfl
    rw [deed_len] at h3
    obtain ⟨x1, rfl⟩ : ∃ x1, ns = [x1] := by
      match ns, h3 with
      | [x1], _ => exact ⟨x1, rfl⟩
      | [], h3 => exact absurd h3 (by simp)
      | _ :: _ :: _, h3 => exact absurd h3 (by simp only [List.length_cons]; omega)
    have fin' : ∀ (v : Bool), (if w0 = "say" then decide (0 ≤ x1 ∧ x1 ≤ (b.mem.length : Int) - 1) else if w0 = "start" then decide (0 ≤ x1 ∧ x1 ≤ (b.ords.length : Int) - 1) else decide (w0 = "clean" ∨ w0 = "drop") && decide (0 ≤ x1 ∧ x1 ≤ ((b.mem.length / 4 : Nat) : Int) - 1)) = v → ∀ H', Ex H H' → Q (.bl v) H' := fin
    clear fin
    walk_at "rd"
    refine st_D (fun h4 => ?_) (fun h4 => ?_)
    · rw [if_pos h4] at fin'
      walk_at "rd"
      refine st_ixT_int hy e1.kp (atI_nat (j := 1) rfl) ?_
      walk_at "rd"
      refine st_lenT hm e1.kp ?_
      walk_at "rd"
      refine ⟨_, _, _, rfl, ?_⟩
      refine fin' _ ?_ H1 e1
      rw [List.length_map]
    rw [if_neg h4] at fin'
    walk_at "rd"
    refine st_D (fun h5 => ?_) (fun h5 => ?_)
    · rw [if_pos h5] at fin'
      walk_at "rd"
      refine st_ixT_int hy e1.kp (atI_nat (j := 1) rfl) ?_
      walk_at "rd"
      refine st_lenT hos e1.kp ?_
      walk_at "rd"
      refine ⟨_, _, _, rfl, ?_⟩
      refine fin' _ ?_ H1 e1
      rw [List.length_map]
    rw [if_neg h5] at fin'
    walk_at "rd"
    refine st_newT (by simp) fun p2 H2 hp2 e2 t2 => ?_
    refine st_in2 t2 ?_
    walk_at "rd"
    refine st_D (fun h6 => ?_) (fun h6 => ?_)
    · rw [decide_eq_true h6, Bool.true_and] at fin'
      walk_at "rd"
      refine st_ixT_int hy (e1.trans e2).kp (atI_nat (j := 1) rfl) ?_
      walk_at "rd"
      refine ⟨_, _, rfl, hm.ex (e1.trans e2), ?_⟩
      walk_at "rd"
      refine ⟨_, _, _, rfl, ?_⟩
      refine fin' _ ?_ H2 (e1.trans e2)
      rw [List.length_map]
    · refine fin' _ ?_ H2 (e1.trans e2)
      rw [decide_eq_false h6]
      rfl
/-! ### check_board -/
theorem sc_check_board : FnScope ["board", "memory", "orders", "program", "place", "number", "starts", "deed"] ["board"] (defScope s_check_board) := ⟨rfl, rfl, rfl, by decide +kernel, rfl, by decide +kernel, by decide +kernel⟩
def sp_check_board : Sp := fun vs H Q _ => ∃ (x : V) (b : RB), vs = [x] ∧ Im H (pyB b) x ∧ RGood b ∧ ∀ H', Ex H H' → Q .non H'
theorem cal_check_board {P w base K mg c} (T : Txt K mg c) : Cal CX0 P w K mg base 3 "check_board" sp_check_board := by
  obtain ⟨f, fd, F, m⟩ := T.F_check_board
  have c_memory_fault := cal_memory_fault (P := P) (w := w) (base := base) T
  have c_is_order := cal_is_order (P := P) (w := w) (base := base) T
  have c_is_deed := cal_is_deed (P := P) (w := w) (base := base) T
  refine cal_of F m (fun _ _ _ _ _ _ us hl => match us, hl with | [_], _ => rfl) sc_check_board (fun vs H Q E h => ?_) (fun cdv A outer s H vs Q E hr h => ?_)
  · obtain ⟨x, b, rfl, _⟩ := h
    rfl
  · obtain ⟨x, b, rfl, hx, g, q⟩ := h
    refine ⟨_, (pss_cons (ps_asg (pv 0) (pg_tup (n := 3) rfl (pgs_cons (pg_name (i := 1) sc_check_board.nd rfl (.inl rfl)) (pgs_cons (pg_name (i := 2) sc_check_board.nd rfl (.inl rfl)) (pgs_cons (pg_name (i := 3) sc_check_board.nd rfl (.inl rfl)) pgs_nil)))))
      (pss_cons (ps_set (i := 4) sc_check_board.nd rfl (.inl rfl) (pe_c c_memory_fault hr (by decide) (by rfl) (pa_cons (pv 1) pa_nil)))
      (pss_cons (ps_if (pt_cmpR o_notN (pv 4) pe_non (nomark _)) (pss_one ps_never) pss_nil)
      (pss_cons (ps_for PassesOwn.never rfl (pi_range1 rfl T.range (pa_cons (pe_callB c_len (by rfl) T.len PySem.boot_len (pa_cons (pv 2) pa_nil)) pa_nil)) (pg_name (i := 5) sc_check_board.nd rfl (.inl rfl))
      (pss_one (ps_if (PW.pt (pw_or (pt_cmpR op_ge (pv 5) (pe_gc (by rfl) T.g_MOST_ORDERS) (nomark _)) (pw_or1 (pt_not (pt_val (pe_c c_is_order hr (by decide) (by rfl) (pa_cons (pv 0) (pa_cons (pv 5) pa_nil)))))))) (pss_one ps_never) pss_nil)))
      (pss_cons (ps_set (i := 6) sc_check_board.nd rfl (.inl rfl) pe_int)
      (pss_one (ps_for PassesOwn.never rfl (pi_enumT (by rfl) T.enumerate (pa_cons (pv 3) pa_nil)) (pg_tup (n := 2) rfl (pgs_cons (pg_name (i := 5) sc_check_board.nd rfl (.inl rfl)) (pgs_cons (pg_name (i := 7) sc_check_board.nd rfl (.inl rfl)) pgs_nil)))
      (pss_cons (ps_if (PW.pt (pw_or (pt_cmpR op_ge (pv 5) (pe_gc (by rfl) T.g_MOST_DEEDS) (nomark _)) (pw_or1 (pt_not (pt_val (pe_c c_is_deed hr (by decide) (by rfl) (pa_cons (pv 0) (pa_cons (pv 7) pa_nil)))))))) (pss_one ps_never) pss_nil)
      (pss_cons (ps_aug (i := 6) sc_check_board.nd rfl (.inl rfl) (pe_callTy c_int (by rfl) T.int (by decide +kernel) (pa_cons (pe_cmpR op_eq (pe_ix ix_tup (pv 7) pe_int (fun _ _ => rfl)) pe_str (nomark _)) pa_nil)) ip_add)
      (pss_one (ps_if (pt_cmpR op_gt (pv 6) (pe_gc (by rfl) T.g_MOST_STARTS) (nomark _)) (pss_one ps_never) pss_nil))))))))))), ?_⟩
    walk_at "rd"
    refine st_gtup hx (Kp.refl _) rfl fun xs hxs => ?_
    obtain ⟨vm, xs, rfl, hm, hxs⟩ := hxs.cons_inv
    obtain ⟨vo, xs, rfl, hos, hxs⟩ := hxs.cons_inv
    obtain ⟨vp, xs, rfl, hp, hxs⟩ := hxs.cons_inv
    cases hxs.nil_inv
    walk_at "rd"
    refine ⟨_, _, rfl, hm, fun H1 e1 => ?_⟩
    rw [g.mem]
    simp only [vNat]
    walk_at "rd"
    refine st_lenT hos e1.kp ?_
    walk_at "rd"
    rw [List.length_map]
    have hlen4 := g.ords.1
    refine st_walkR (n := b.ords.length) (by omega) (fun i σ H' => ∃ y, σ = [some x, some vm, some vo, some vp, some .non, y, none, none] ∧ Ex H H') ⟨none, rfl, e1⟩ (fun i σ' H' hi p => ?_) (fun σ' H' p => ?_)
    · obtain ⟨y, rfl, e⟩ := p
      have hi' : i < b.ords.length := by omega
      have h4 := g.ords.1
      walk_at "rd"
      refine st_D (fun h => absurd h (by omega)) (fun _ => ?_)
      walk_at "rd"
      refine ⟨x, b, i, b.ords[i], rfl, hx.ex e, List.getElem?_eq_getElem hi', ?_⟩
      rw [g.ords.2 i _ (List.getElem?_eq_getElem hi')]
      walk_at "rd"
      exact ⟨_, rfl, e⟩
    · obtain ⟨y, rfl, e⟩ := p
      walk_at "rd"
      refine st_forET (H0 := H) (fun i σ H' => ∃ y z, σ = [some x, some vm, some vo, some vp, some .non, y, some (.int (((b.prog.take i).filter isStart).length : Int)), z] ∧ Ex H H') rfl hp e.kp ⟨y, none, rfl, e⟩ (fun i σ H' p => ?_) (fun i d v σ H' H'' hd p ht hv => ?_) (fun σ H' p => ?_)
      · obtain ⟨_, _, _, e⟩ := p
        exact e.kp
      · obtain ⟨y, z, rfl, e⟩ := p
        obtain ⟨dd, en, rfl⟩ := map_at' hd
        have hi : i < b.prog.length := (List.getElem?_eq_some_iff.mp en).1
        have h60 := g.prog.1
        walk_at "rd"
        refine st_D (fun h => absurd h (by omega)) (fun _ => ?_)
        walk_at "rd"
        refine ⟨x, v, b, dd, rfl, hx.ex (e.trans ht), hv, fun H2 e2 => ?_⟩
        rw [g.prog.2.1 dd (List.mem_of_getElem? en)]
        walk_at "rd"
        refine st_ixT_str hv e2.kp (atI_nat (j := 0) rfl) ?_
        walk_at "rd"
        have ec : (((b.prog.take i).filter isStart).length : Int) + (if decide (dd.1 = "start") = true then 1 else 0) = (((b.prog.take (i + 1)).filter isStart).length : Int) := by
          rw [List.take_add_one, en]
          simp only [Option.toList_some, List.filter_append, List.length_append, List.filter_cons, List.filter_nil, isStart]
          by_cases hs : dd.1 = "start"
          · simp [hs]
          · simp [hs]
        rw [ec]
        have h3 : ((b.prog.take (i + 1)).filter isStart).length ≤ 3 := Nat.le_trans ((List.take_sublist (i + 1) b.prog).filter isStart).length_le g.prog.2.2
        refine st_D (fun h => absurd h (by omega)) (fun _ => ?_)
        walk_at "rd"
        exact ⟨_, _, rfl, (e.trans ht).trans e2⟩
      · obtain ⟨y, z, rfl, e⟩ := p
        exact q _ e
/-! ### number_text -/
theorem sc_number_text : FnScope ["number"] ["number"] (defScope s_number_text) := ⟨rfl, rfl, rfl, by decide +kernel, rfl, by decide +kernel, by decide +kernel⟩
def sp_number_text : Sp := fun vs H Q _ => ∃ o : Option Int, vs = [vOpt o] ∧ (∀ i, o = some i → Sm i) ∧ Q (.str (optS o)) H
theorem cal_number_text {P w base K mg c} (T : Txt K mg c) : Cal CX0 P w K mg base 1 "number_text" sp_number_text := by
  obtain ⟨f, fd, F, m⟩ := T.F_number_text
  refine cal_of F m (fun _ _ _ _ _ _ us hl => match us, hl with | [_], _ => rfl) sc_number_text (fun vs H Q E h => ?_) (fun cdv A outer s H vs Q E hr h => ?_)
  · obtain ⟨o, rfl, _⟩ := h
    rfl
  · obtain ⟨o, rfl, hs, q⟩ := h
    refine ⟨_, (pss_one (ps_ret (pe_ifExp (pt_cmpR o_isN (pv 0) pe_non (nomark _)) pe_str (pe_callTy c_str (by rfl) T.str (by decide +kernel) (pa_cons (pv 0) pa_nil))))), ?_⟩
    cases o with
    | none =>
      show tRet _ _ [some .non] H
      walk_at "rd"
      exact q
    | some i =>
      show tRet _ _ [some (.int i)] H
      walk_at "rd"
      exact st_str (hs i rfl) q
/-! ### written -/
theorem sc_written : FnScope ["board", "rows", "number", "order", "deed", "row"] ["board"] (defScope s_written) := ⟨rfl, rfl, rfl, by decide +kernel, rfl, by decide +kernel, by decide +kernel⟩
def sp_written : Sp := fun vs H Q _ => ∃ (x : V) (b : Bd), vs = [x] ∧ Im H (pyB b.raw) x ∧ Good b ∧ ∀ H', Ex H H' → Q (.str (textOf b.raw)) H'
theorem cal_written {P w base K mg c} (T : Txt K mg c) : Cal CX0 P w K mg base 4 "written" sp_written := by
  obtain ⟨f, fd, F, m⟩ := T.F_written
  have c_check_board := cal_check_board (P := P) (w := w) (base := base) T
  have c_number_text := cal_number_text (P := P) (w := w) (base := base) T
  refine cal_of F m (fun _ _ _ _ _ _ us hl => match us, hl with | [_], _ => rfl) sc_written (fun vs H Q E h => ?_) (fun cdv A outer s H vs Q E hr h => ?_)
  · obtain ⟨x, b, rfl, _⟩ := h
    rfl
  · obtain ⟨x, b, rfl, hx, g, q⟩ := h
    have h4 := g.lines
    have h60 := g.len
    have ho4 := g.ords
    have sm := g.sm
    have gr := g.raw
    have hm19 : b.raw.mem.length ≤ 19 := by
      show b.mem.length ≤ 19
      omega
    have hrow : (rowsW b.raw).length ≤ 100 := by
      rw [rowsW_len]
      show 1 + (b.ords.map Ord.raw).length + (b.prog.map Deed.raw).length ≤ 100
      rw [List.length_map, List.length_map]
      omega
    generalize b.raw = rb at *
    refine ⟨_, (pss_cons (ps_expr (pe_c c_check_board hr (by decide) (by rfl) (pa_cons (pv 0) pa_nil)))
      (pss_cons (ps_set (i := 1) sc_written.nd rfl (.inl rfl) (pe_lst (pa_cons (pe_op op_cat (pe_lst (pa_cons pe_str pa_nil)) (pe_lc (own := [("number", 2)]) (g := (gName 2)) (tt := tYes) (te := (tCB rStrI (tCons (tVar 2) tNil))) rfl sc_written.nd (pi_tup (pe_ix ix_tup (pv 0) pe_int (fun _ _ => rfl))) (blkOk_by (N := ["board", "rows", "number", "order", "deed", "row"]) (sc := defScope s_written) (own := [("number", 2)]) (by decide +kernel)) (fun _ _ _ _ _ => (pg_name (i := 2) sc_written.nd rfl (.inl rfl))) (fun _ _ _ _ _ => pts_nil) (fun _ _ _ _ _ => (pe_callTy c_str (by rfl) T.str (by decide +kernel) (pa_cons (pv 2) pa_nil))))) pa_nil)))
      (pss_cons (ps_set (i := 1) sc_written.nd rfl (.inl rfl) (pe_op op_cat (pv 1) (pe_lc (own := [("order", 3)]) (g := (gName 3)) (tt := tYes) (te := (tOp rCat (tLst (tCons (tC (.str "order")) tNil)) (tLc (iTup K (tVar 3)) (gName 2) tYes (tCall sp_number_text [] L2.E0 (tCons (tVar 2) tNil)) [2]))) rfl sc_written.nd (pi_tup (pe_ix ix_tup (pv 0) pe_int (fun _ _ => rfl))) (blkOk_by (N := ["board", "rows", "number", "order", "deed", "row"]) (sc := defScope s_written) (own := [("order", 3)]) (by decide +kernel)) (fun _ _ _ _ _ => (pg_name (i := 3) sc_written.nd rfl (.inl rfl))) (fun _ _ _ _ _ => pts_nil) (fun _ _ _ _ _ => (pe_op op_cat (pe_lst (pa_cons pe_str pa_nil)) (pe_lc (own := [("number", 2)]) (g := (gName 2)) (tt := tYes) (te := (tCall sp_number_text [] L2.E0 (tCons (tVar 2) tNil))) rfl sc_written.nd (pi_tup (pv 3)) (blkOk_by (N := ["board", "rows", "number", "order", "deed", "row"]) (sc := { kind := .function, names := [(".0", .local), ("order", .local)], isGenerator := false, isCoroutine := false }) (own := [("number", 2)]) (by decide +kernel)) (fun _ _ _ _ _ => (pg_name (i := 2) sc_written.nd rfl (.inl rfl))) (fun _ _ _ _ _ => pts_nil) (fun _ _ _ _ _ => (pe_c c_number_text hr (by decide) (by rfl) (pa_cons (pv 2) pa_nil)))))))))
      (pss_cons (ps_set (i := 1) sc_written.nd rfl (.inl rfl) (pe_op op_cat (pv 1) (pe_lc (own := [("deed", 4)]) (g := (gName 4)) (tt := tYes) (te := (tOp rCat (tLst (tCons (tOp (rIxT K) (tVar 4) (tC (.int 0))) tNil)) (tLc (iTup K (tSl (rSlA K) (tVar 4) (tPart (tC (.int 1))) tNoPart)) (gName 2) tYes (tCB rStrI (tCons (tVar 2) tNil)) [2]))) rfl sc_written.nd (pi_tup (pe_ix ix_tup (pv 0) pe_int (fun _ _ => rfl))) (blkOk_by (N := ["board", "rows", "number", "order", "deed", "row"]) (sc := defScope s_written) (own := [("deed", 4)]) (by decide +kernel)) (fun _ _ _ _ _ => (pg_name (i := 4) sc_written.nd rfl (.inl rfl))) (fun _ _ _ _ _ => pts_nil) (fun _ _ _ _ _ => (pe_op op_cat (pe_lst (pa_cons (pe_ix ix_tup (pv 4) pe_int (fun _ _ => rfl)) pa_nil)) (pe_lc (own := [("number", 2)]) (g := (gName 2)) (tt := tYes) (te := (tCB rStrI (tCons (tVar 2) tNil))) rfl sc_written.nd (pi_tup (pe_slice sl_tupA (pv 4) (po_some pe_int) po_none)) (blkOk_by (N := ["board", "rows", "number", "order", "deed", "row"]) (sc := { kind := .function, names := [(".0", .local), ("deed", .local)], isGenerator := false, isCoroutine := false }) (own := [("number", 2)]) (by decide +kernel)) (fun _ _ _ _ _ => (pg_name (i := 2) sc_written.nd rfl (.inl rfl))) (fun _ _ _ _ _ => pts_nil) (fun _ _ _ _ _ => (pe_callTy c_str (by rfl) T.str (by decide +kernel) (pa_cons (pv 2) pa_nil)))))))))
      (pss_one (ps_ret (pe_joinR pe_str (pe_lc (own := [("row", 5)]) (g := (gName 5)) (tt := tYes) (te := (tM1 (rJoin K) (tC (.str " ")) (tVar 5))) rfl sc_written.nd (pi_list (pv 1)) (blkOk_by (N := ["board", "rows", "number", "order", "deed", "row"]) (sc := defScope s_written) (own := [("row", 5)]) (by decide +kernel)) (fun _ _ _ _ _ => (pg_name (i := 5) sc_written.nd rfl (.inl rfl))) (fun _ _ _ _ _ => pts_nil) (fun _ _ _ _ _ => (pe_joinR pe_str (pv 5))))))))))), ?_⟩
    walk_at "rd"
    refine ⟨x, rb, rfl, hx, gr, fun H1 e1 => ?_⟩
    walk_at "rd"
    refine st_newL (by simp) fun a1 H2 n1 e2 h1 => ?_
    walk_at "rd"
    refine st_ixT hx (e1.trans e2).kp (atI_nat (j := 0) rfl) fun vm hvm => ?_
    refine st_lcStr (f := strD) hvm (Kp.refl _) (by rw [List.length_map]; omega) (fun _ => rfl) (fun d v H' R hd e hv r => ?_) fun l1 H3 n3 e3 hl1 => ?_
    · obtain ⟨n, hn, rfl⟩ := List.mem_map.mp hd
      cases Im.int_iff.mp hv
      walk_at "rd"
      exact st_str (sm.mem n hn) (r _ (Ex.refl _))
    rw [strD_ints] at hl1
    refine tx_cat (e3 _ _ h1) hl1 (by simp; omega) fun a4 H4 n4 e4 h4' => ?_
    walk_at "rd"
    refine st_newL (by simp) fun r0 H5 n5 e5 h5 => ?_
    walk_at "rd"
    have ra0 : RowsA H5 [wMem rb.mem] [.ref a4] := RowsA.one (e5 _ _ h4')
    have E5 := ((((e1.trans e2).trans e3).trans e4).trans e5)
    refine st_ixT hx E5.kp (atI_nat (j := 1) rfl) fun vo hvo => ?_
    refine st_lcRows (f := wordsO) hvo (Kp.refl _) (by rw [List.length_map]; rw [rowsW_len] at hrow; omega) (fun _ => rfl) (fun d v H' R hd e hv r => ?_) fun l2 H6 xs2 n6 e6 hl2 ra2 => ?_
    · obtain ⟨o, ho, rfl⟩ := List.mem_map.mp hd
      walk_at "rd"
      refine st_newL (by simp) fun b1 G1 m1 d1 g1 => ?_
      walk_at "rd"
      refine st_lcStr (f := strD) (hv.ex d1) (Kp.refl _) (by simp) (fun _ => rfl) (fun d v H' R hd e hv r => ?_) fun b2 G2 m2 d2 g2 => ?_
      · obtain ⟨u, rfl, hu, es⟩ := sm_opt hd (sm.ords o ho) hv
        walk_at "rd"
        refine ⟨u, rfl, hu, ?_⟩
        rw [es]
        exact r _ (Ex.refl _)
      refine tx_cat (d2 _ _ g1) g2 (by simp) fun b3 G3 m3 d3 g3 => ?_
      exact r b3 G3 ((d1.trans d2).free m3) ((d1.trans d2).trans d3) g3
    rw [wordsO_ords] at ra2
    have hl0 : xs2.length ≤ 100 := by
      rw [ra2.length, List.length_map]
      rw [rowsW_len] at hrow
      omega
    refine tx_cat (e6 _ _ h5) hl2 (by simp; omega) fun r1 H7 n7 e7 h7 => ?_
    walk_at "rd"
    have ra1 : RowsA H7 (wMem rb.mem :: rb.ords.map wOrd) (.ref a4 :: xs2) := (ra2.append (ra0.ex e6)).ex e7
    have E7 := (E5.trans e6).trans e7
    refine st_ixT hx E7.kp (atI_nat (j := 2) rfl) fun vp hvp => ?_
    refine st_lcRows (f := wordsP) hvp (Kp.refl _) (by rw [List.length_map]; rw [rowsW_len] at hrow; omega) (fun _ => rfl) (fun d v H' R hd e hv r => ?_) fun l3 H8 xs3 n8 e8 hl3 ra3 => ?_
    · obtain ⟨d, hd', rfl⟩ := List.mem_map.mp hd
      obtain ⟨s1, s2, s3⟩ := sm.prog d hd'
      walk_at "rd"
      refine st_ixT_str hv (Kp.refl _) (atI_nat (j := 0) rfl) ?_
      walk_at "rd"
      refine st_newL (by simp) fun b1 G1 m1 d1 g1 => ?_
      walk_at "rd"
      refine st_slFrom (k := 1) (hv.ex d1) (Kp.refl _) (by simp) fun vt Gt dt hvt => ?_
      refine st_lcStr (f := strD) hvt (Kp.refl _) (by simp; omega) (fun _ => rfl) (fun d v H' R hd e hv r => ?_) fun b2 G2 m2 d2 g2 => ?_
      · obtain ⟨n, hn, rfl⟩ := List.mem_map.mp hd
        cases Im.int_iff.mp hv
        walk_at "rd"
        exact st_str (s2 n hn) (r _ (Ex.refl _))
      refine tx_cat (d2 _ _ (dt _ _ g1)) g2 (by simp; omega) fun b3 G3 m3 d3 g3 => ?_
      exact r b3 G3 (((d1.trans dt).trans d2).free m3) (((d1.trans dt).trans d2).trans d3) g3
    rw [wordsP_prog] at ra3
    have hl3' : xs3.length ≤ 100 := by
      rw [ra3.length, List.length_map]
      rw [rowsW_len] at hrow
      omega
    refine tx_cat (e8 _ _ h7) hl3 (by simp; omega) fun r2 H9 n9 e9 h9 => ?_
    walk_at "rd"
    have raR : RowsA H9 (rowsW rb) (.ref a4 :: xs2 ++ xs3) := (ra3.append (ra1.ex e8)).ex e9
    have E9 := (E7.trans e8).trans e9
    refine st_tM1 ?_
    walk_at "rd"
    refine tyS ?_
    walk_at "rd"
    refine st_lcJoins (f := rowT) h9 raR (by omega) (fun _ => rfl) (fun r a H' R hr e ha q' => ?_) fun l4 H10 n10 e10 hl4 => ?_
    · refine st_tM1 ?_
      walk_at "rd"
      refine tyS ?_
      walk_at "rd"
      have z := row_len (sm.rows r hr)
      have z2 := sm.few hm19 r hr
      exact st_join (SqL.of ha) (by
        have : r.length * 21 ≤ 20 * 21 := Nat.mul_le_mul_right _ z2
        omega) q'
    refine st_join (SqL.of hl4) (Nat.le_trans (sm.joinLen hm19 hrow) (by decide)) ?_
    exact q _ (E9.trans e10)
/-! ### number_of -/
open TL (tl len_tl ext_tl)
theorem sc_number_of : FnScope ["word", "sign"] ["word"] (defScope s_number_of) := ⟨rfl, rfl, rfl, by decide +kernel, rfl, by decide +kernel, by decide +kernel⟩
def sp_number_of : Sp := fun vs H Q _ => ∃ w : Str, vs = [.str w] ∧ w.length ≤ 1000000 ∧ ∀ H', Ex H H' → Q (vOpt (numOf w)) H'
theorem cal_number_of {P w base K mg c} (T : Txt K mg c) : Cal CX0 P w K mg base 1 "number_of" sp_number_of := by
  obtain ⟨f, fd, F, m⟩ := T.F_number_of
  refine cal_of F m (fun _ _ _ _ _ _ us hl => match us, hl with | [_], _ => rfl) sc_number_of (fun vs H Q E h => ?_) (fun cdv A outer s H vs Q E hr h => ?_)
  · obtain ⟨w, rfl, _⟩ := h
    rfl
  · obtain ⟨w, rfl, hl, q⟩ := h
    refine ⟨_, (pss_cons (ps_if (PW.pt (pw_or (pt_cmpR op_eq (pv 0) pe_str (nomark _)) (pw_or (pt_cmpR op_gt (pe_callB c_lenStr (by rfl) T.len PySem.boot_len (pa_cons (pv 0) pa_nil)) (pe_gc (by rfl) T.g_MOST_FIGURES) (nomark _)) (pw_or1 (PW.pt (pw_and (pt_cmpR op_eq (pe_ix ix_str (pv 0) pe_int (fun _ _ => rfl)) pe_str (nomark _)) (pw_and1 (pt_cmpR op_ne (pv 0) pe_str (nomark _))))))))) (pss_one (ps_ret pe_non)) pss_nil)
      (pss_one (ps_ret (pe_ifExp (pt_val (pe_callB (cr_all rfl) (by rfl) T.all (by decide +kernel) (pa_cons (pe_lc (own := [("sign", 1)]) (g := (gName 1)) (tt := tYes) (te := (tOp rInSign (tVar 1) (tC (.str "0123456789")))) rfl sc_number_of.nd (pi_str (pv 0)) (blkOk_by (N := ["word", "sign"]) (sc := defScope s_number_of) (own := [("sign", 1)]) (by decide +kernel)) (fun _ _ _ _ _ => (pg_name (i := 1) sc_number_of.nd rfl (.inl rfl))) (fun _ _ _ _ _ => pts_nil) (fun _ _ _ _ _ => (pe_cmpR o_inSign (pv 1) (pe_gc (by rfl) T.g_FIGURES) (by rfl)))) pa_nil))) (pe_callTy c_intS (by rfl) T.int (by decide +kernel) (pa_cons (pv 0) pa_nil)) pe_non)))), ?_⟩
    walk_at "rd"
    refine st_D (fun h0 => ?_) (fun h0 => ?_)
    · walk_at "rd"
      have := q H (Ex.refl _)
      unfold numOf at this
      rw [if_pos h0] at this
      exact this
    walk_at "rd"
    refine ⟨w, rfl, Nat.le_trans hl (by decide), ?_⟩
    walk_at "rd"
    refine st_D (fun h1 => ?_) (fun h1 => ?_)
    · walk_at "rd"
      have := q H (Ex.refl _)
      unfold numOf at this
      rw [if_neg h0, if_pos (by omega)] at this
      exact this
    walk_at "rd"
    have hne : tl w ≠ [] := fun z => h0 ((empty_tl w).mpr z)
    obtain ⟨c0, r0, hw⟩ : ∃ c r, tl w = c :: r := by
      cases h : tl w with
      | nil => exact absurd h hne
      | cons c r => exact ⟨c, r, rfl⟩
    have hw' : w.cps.toList = c0 :: r0 := hw
    refine ⟨w, 0, c0, rfl, rfl, Nat.le_trans hl (by decide), ?_, ?_⟩
    · rw [hw']
      exact atI_nat (j := 0) rfl
    walk_at "rd"
    have h9 : w.length ≤ 9 := by omega
    have fin : ∀ r : Option Int, (if (tl w).headD 0 = 48 ∧ w ≠ "0" then none else if (tl w).all fig = true then some ((NumText.digitsVal (tl w) : Nat) : Int) else none) = r → ∀ H', Ex H H' → Q (vOpt r) H' := fun r e H' e' => by
      have := q H' e'
      unfold numOf at this
      rw [if_neg h0, if_neg (by omega), e] at this
      exact this
    have hh : (tl w).headD 0 = c0 := by rw [hw]; rfl
    rw [hh] at fin
    refine st_D (fun h2 => ?_) (fun h2 => ?_)
    · have hc := (sign_zero c0).mp h2
      walk_at "rd"
      refine st_ND (fun h3 => ?_) (fun h3 => ?_)
      · walk_at "rd"
        exact fin none (if_pos ⟨hc, h3⟩) H (Ex.refl _)
      · subst h3
        walk_at "rd"
        refine st_lcSigns (f := fun c => .bl (fig c)) (by rw [← len_tl]; omega) (fun _ => rfl) (fun c H' R hc e r => ?_) fun l1 H1 n1 e1 hl1 => ?_
        · walk_at "rd"
          refine ⟨c, _, rfl, rfl, ?_⟩
          rw [show decide (c ∈ ("0123456789" : Str).cps.toList) = fig c from fig_in c]
          exact r
        refine ⟨l1, (tl "0").map fig, rfl, SqL.of (by rw [hl1, List.map_map]; rfl), ?_⟩
        walk_at "rd"
        rw [show ((tl ("0" : Str)).map fig).all id = true by decide +kernel]
        walk_at "rd"
        refine ⟨_, 0, rfl, by decide +kernel, by decide +kernel, ?_⟩
        exact fin (some 0) (by rw [if_neg (fun z => z.2 rfl), if_pos (by decide +kernel)]; decide +kernel) H1 e1
    · have hc : c0 ≠ 48 := fun z => h2 ((sign_zero c0).mpr z)
      walk_at "rd"
      refine st_lcSigns (f := fun c => .bl (fig c)) (by rw [← len_tl]; omega) (fun _ => rfl) (fun c H' R hc e r => ?_) fun l1 H1 n1 e1 hl1 => ?_
      · walk_at "rd"
        refine ⟨c, _, rfl, rfl, ?_⟩
        rw [show decide (c ∈ ("0123456789" : Str).cps.toList) = fig c from fig_in c]
        exact r
      refine ⟨l1, (tl w).map fig, rfl, SqL.of (by rw [hl1, List.map_map]; rfl), ?_⟩
      walk_at "rd"
      have eall : ((tl w).map fig).all id = (tl w).all fig := by
        rw [List.all_map]
        rfl
      rw [eall]
      refine st_B (fun h4 => ?_) (fun h4 => ?_)
      · walk_at "rd"
        have hd : NumText.AllDigits (tl w) := fun c hcm => by
          have := List.all_eq_true.mp h4 c hcm
          unfold fig at this
          rw [Bool.and_eq_true, decide_eq_true_eq, decide_eq_true_eq] at this
          exact this
        refine ⟨w, _, rfl, intText_digits hd hne (by omega), by omega, ?_⟩
        exact fin (some _) (by rw [if_neg (fun z => hc z.1), if_pos h4]) H1 e1
      · walk_at "rd"
        exact fin none (by rw [if_neg (fun z => hc z.1), h4]; rfl) H1 e1
/-! ### row_of -/
theorem sc_row_of : FnScope ["part", "words", "numbers", "word"] ["part"] (defScope s_row_of) := ⟨rfl, rfl, rfl, by decide +kernel, rfl, by decide +kernel, by decide +kernel⟩
def sp_row_of : Sp := fun vs H Q _ => ∃ (part : Str) (ws : List Str), vs = [.str part] ∧ part.length ≤ 1000000 ∧ Txt.split part " " = ws ∧ ws ≠ [] ∧ ws.length ≤ 40000 ∧ (∀ w ∈ ws, w.length ≤ 1000000) ∧
  (rowOf ws = none → ∀ H', Ex H H' → Q .non H') ∧ ∀ w ns, rowOf ws = some (w, ns) → ∀ v H', Ex H H' → Im H' (.tuple [.str w, .tuple (ns.map pyOpt)]) v → Q v H'
theorem cal_row_of {P w base K mg c} (T : Txt K mg c) (ct : CTxt w K mg) : Cal CX0 P w K mg base 2 "row_of" sp_row_of := by
  obtain ⟨f, fd, F, m⟩ := T.F_row_of
  obtain ⟨aC, g_COUNTS, kt⟩ := ct.g_COUNTS
  have c_number_of := cal_number_of (P := P) (w := w) (base := base) T
  refine cal_of F m (fun _ _ _ _ _ _ us hl => match us, hl with | [_], _ => rfl) sc_row_of (fun vs H Q E h => ?_) (fun cdv A outer s H vs Q E hr h => ?_)
  · obtain ⟨part, ws, rfl, _⟩ := h
    rfl
  · obtain ⟨part, ws, rfl, hp, hws, hne, hwl, hwo, qn, qs⟩ := h
    refine ⟨_, (pss_cons (ps_set (i := 1) sc_row_of.nd rfl (.inl rfl) (pe_split (pv 0) pe_str))
      (pss_cons (ps_setLc (i := 2) (own := [("word", 3)]) (g := (gName 3)) (tt := tYes) (te := (tCall sp_number_of [] L2.E0 (tCons (tVar 3) tNil))) rfl sc_row_of.nd rfl rfl (sw_true rfl rfl rfl (by decide +kernel)) (pi_list (pe_slice sl_list (pv 1) (po_some pe_int) po_none)) (blkOk_by (N := ["part", "words", "numbers", "word"]) (sc := defScope s_row_of) (own := [("word", 3)]) (by decide +kernel)) (fun _ _ _ _ _ => (pg_name (i := 3) sc_row_of.nd rfl (.inl rfl))) (fun _ _ _ _ _ => pts_nil) (fun _ _ _ _ _ => (pe_c c_number_of hr (by decide) (by rfl) (pa_cons (pv 3) pa_nil))))
      (pss_cons (ps_if (pt_cmpR op_eq (pe_ix ix_list (pv 1) pe_int (fun _ _ => rfl)) pe_str (nomark _)) (pss_one (ps_if (PW.pt (pw_or (pt_cmpR op_ne (pe_callB c_len (by rfl) T.len PySem.boot_len (pa_cons (pv 2) pa_nil)) pe_int (nomark _)) (pw_or (pt_cmpR op_in_seq pe_non (pe_slice sl_list (pv 2) po_none (po_some pe_int)) (by rfl)) (pw_or1 (PW.pt (pw_and (pt_cmpR o_isN (pe_ix ix_list (pv 2) pe_int (fun _ _ => rfl)) pe_non (nomark _)) (pw_and1 (pt_cmpR op_ne (pe_ix ix_list (pv 1) pe_int (fun _ _ => rfl)) pe_str (nomark _))))))))) (pss_one (ps_ret pe_non)) pss_nil)) (pss_one (ps_if (PW.pt (pw_or (pt_cmpR op_in_seq pe_non (pv 2) (by rfl)) (pw_or1 (PW.pt (pw_and (pt_cmpR op_ne (pe_ix ix_list (pv 1) pe_int (fun _ _ => rfl)) pe_str (nomark _)) (pw_and1 (pt_cmpR op_ne (pe_kget2 (pe_gc (by rfl) g_COUNTS) (pe_ix ix_list (pv 1) pe_int (fun _ _ => rfl)) (pe_un un_neg pe_int) (by constructor <;> rfl)) (pe_callB c_len (by rfl) T.len PySem.boot_len (pa_cons (pv 2) pa_nil)) (nomark _)))))))) (pss_one (ps_ret pe_non)) pss_nil)))
      (pss_one (ps_ret (pe_tup (pa_cons (pe_ix ix_list (pv 1) pe_int (fun _ _ => rfl)) (pa_cons (pe_callTy c_tuple (by rfl) T.tuple (by decide +kernel) (pa_cons (pv 2) pa_nil)) pa_nil)))))))), ?_⟩
    walk_at "rd"
    refine st_tM1 ?_
    walk_at "rd"
    refine tyS ?_
    walk_at "rd"
    refine st_split (by decide +kernel) hp fun wl H1 n1 e1 h1 => ?_
    rw [hws] at h1
    obtain ⟨w0, r, rfl⟩ : ∃ w0 r, ws = w0 :: r := by
      cases ws with
      | nil => exact absurd rfl hne
      | cons w0 r => exact ⟨w0, r, rfl⟩
    rw [List.length_cons] at hwl
    walk_at "rd"
    refine st_slL (zs := r.map V.str) h1 (by have := cut_from (xs := V.str w0 :: r.map V.str) (lo := 1) (by simp); exact this) fun sl H2 n2 e2 h2 => ?_
    refine st_lcWords (f := fun w => vOpt (numOf w)) h2 (by omega) (fun _ => rfl) (fun w H' R hw e r' => ?_) fun nl H3 n3 e3 h3 => ?_
    · walk_at "rd"
      exact ⟨w, rfl, hwo w (List.mem_cons_of_mem _ hw), fun H'' e'' => r' H'' e''⟩
    have h3' : H3 nl = some (.lst ((r.map numOf).map vOpt)) := by rw [h3, List.map_map]; rfl
    clear h3
    have h13 := e3 _ _ (e2 _ _ h1)
    have E3 := (e1.trans e2).trans e3
    have hr0 : rowOf (w0 :: r) = (if w0 = "order" then (if (r.map numOf).length ≠ 4 then none else if none ∈ (r.map numOf).take 3 then none else if (r.map numOf)[3]? = some none ∧ r[3]? ≠ some ("-" : Str) then none else some (w0, r.map numOf))
      else if none ∈ r.map numOf then none else if w0 ≠ "memory" ∧ countOf w0 ≠ ((r.map numOf).length : Int) then none else some (w0, r.map numOf)) := rfl
    generalize hns : r.map numOf = ns at *
    have hnl : ns.length ≤ 40000 := by
      rw [← hns, List.length_map]
      omega
    have hx0 : ∀ H', Ex H3 H' → H' wl = some (.lst (.str w0 :: r.map V.str)) := fun H' e => e _ _ h13
    have fin : rowOf (w0 :: r) = some (w0, ns) → ∀ H', Ex H3 H' → tRet (tTup (tCons (tOp (rIxL K) (tVar 1) (tC (.int 0))) (tCons (tCB (rTupOf K) (tCons (tVar 2) tNil)) tNil))) ({ nx := fun _ H' => Q .non H', rt := Q }) [some (.str part), some (.ref wl), some (.ref nl), none] H' := fun he H' e => by
      walk_at "rd"
      refine st_ixL (hx0 H' e) (atI_nat (j := 0) rfl) ?_
      walk_at "rd"
      refine st_tupL (e _ _ h3') fun tp H4 n4 e4 h4 => ?_
      walk_at "rd"
      refine st_newT (by simp) fun t5 H5 n5 e5 h5 => ?_
      exact qs w0 ns he _ H5 ((E3.trans e).trans (e4.trans e5)) (im_tup h5 (iml_cons im_str (iml_cons (im_tup (e5 _ _ h4) (im_opts ns)) iml_nil)))
    walk_at "rd"
    refine st_ixL h13 (atI_nat (j := 0) rfl) ?_
    walk_at "rd"
    refine st_D (fun h5 => ?_) (fun h5 => ?_)
    · rw [if_pos h5] at hr0
      walk_at "rd"
      refine st_lenL h3' ?_
      walk_at "rd"
      rw [List.length_map]
      refine st_ND (fun h6 => ?_) (fun h6 => ?_)
      · walk_at "rd"
        exact qn (by rw [hr0, if_pos (by omega)]) H3 E3
      rw [if_neg (by omega)] at hr0
      walk_at "rd"
      refine st_slL (zs := (ns.take 3).map vOpt) h3' (by rw [List.map_take]; have := cut_to (xs := ns.map vOpt) (hi := 3) (by rw [List.length_map]; omega); exact this) fun s3 H4 n4 e4 h4 => ?_
      refine ⟨s3, _, rfl, .inl (SqL.of h4), rfl, flat_opts _, ?_⟩
      simp only [inV_none, Bool.false_eq_true, if_false]
      walk_at "rd"
      refine st_D (fun h7 => ?_) (fun h7 => ?_)
      · walk_at "rd"
        exact qn (by rw [hr0, if_pos h7]) H4 (E3.trans e4)
      rw [if_neg h7] at hr0
      walk_at "rd"
      obtain ⟨o3, ho3⟩ : ∃ o, ns[3]? = some o := ⟨ns[3]'(by omega), List.getElem?_eq_getElem (by omega)⟩
      obtain ⟨w4, hw4⟩ : ∃ w, r[3]? = some w := by
        have : ns.length = r.length := by rw [← hns, List.length_map]
        exact ⟨r[3]'(by omega), List.getElem?_eq_getElem (by omega)⟩
      rw [ho3, hw4] at hr0
      refine st_ixL (e4 _ _ h3') (atI_nat (j := 3) (map_at ho3)) ?_
      walk_at "rd"
      rw [vOpt_non]
      refine st_B (fun hN => ?_) (fun hN => ?_)
      · have : o3 = none := by
          cases o3 with
          | none => rfl
          | some i => cases hN
        subst this
        walk_at "rd"
        refine st_ixL (hx0 H4 e4) (atI_nat (j := 4) (by show (V.str w0 :: r.map V.str)[4]? = some (.str w4); rw [List.getElem?_cons_succ]; exact map_at hw4)) ?_
        walk_at "rd"
        refine st_ND (fun h8 => ?_) (fun h8 => ?_)
        · walk_at "rd"
          exact qn (by rw [hr0, if_pos ⟨rfl, fun z => h8 (Option.some.inj z)⟩]) H4 (E3.trans e4)
        · rw [if_neg (fun z => z.2 (by rw [h8]))] at hr0
          exact fin hr0 H4 e4
      · rw [if_neg (by rintro ⟨z, _⟩; rw [Option.some.inj z] at hN; cases hN)] at hr0
        exact fin hr0 H4 e4
    · rw [if_neg h5] at hr0
      walk_at "rd"
      refine ⟨nl, _, rfl, .inl (SqL.of h3'), rfl, flat_opts _, ?_⟩
      simp only [inV_none, Bool.false_eq_true, if_false]
      walk_at "rd"
      refine st_D (fun h7 => ?_) (fun h7 => ?_)
      · walk_at "rd"
        exact qn (by rw [hr0, if_pos h7]) H3 E3
      rw [if_neg h7] at hr0
      walk_at "rd"
      refine st_ixL h13 (atI_nat (j := 0) rfl) ?_
      walk_at "rd"
      refine st_ND (fun h8 => ?_) (fun h8 => ?_)
      · walk_at "rd"
        refine ⟨aC, countsL, rfl, kt, ?_⟩
        walk_at "rd"
        refine st_ixL h13 (atI_nat (j := 0) rfl) ?_
        refine ⟨w0, rfl, ?_⟩
        walk_at "rd"
        refine ⟨1, rfl, ?_⟩
        have ec : ((countsL.lookup w0).map V.int).getD (.int (-1)) = .int (countOf w0) := by
          unfold countOf
          cases countsL.lookup w0 <;> rfl
        dsimp only
        rw [ec]
        walk_at "rd"
        refine st_lenL h3' ?_
        walk_at "rd"
        rw [List.length_map]
        refine st_ND (fun h9 => ?_) (fun h9 => ?_)
        · walk_at "rd"
          exact qn (by rw [hr0, if_pos ⟨h8, h9⟩]) H3 E3
        · rw [if_neg (fun z => z.2 h9)] at hr0
          exact fin hr0 H3 (Ex.refl _)
      · rw [if_neg (fun z => z.1 h8)] at hr0
        exact fin hr0 H3 (Ex.refl _)
/-! ### read_board -/
theorem sc_read_board : FnScope ["text", "memory", "orders", "program", "number", "part", "row", "board"] ["text"] (defScope s_read_board) := ⟨rfl, rfl, rfl, by decide +kernel, rfl, by decide +kernel, by decide +kernel⟩
def sp_read_board : Sp := fun vs H Q _ => ∃ b : Bd, vs = [.str (textOf b.raw)] ∧ Good b ∧ ∀ v H', Ex H H' → Im H' (pyB b.raw) v → Q v H'
theorem cal_read_board {P w base K mg c} (T : Txt K mg c) (ct : CTxt w K mg) : Cal CX0 P w K mg base 4 "read_board" sp_read_board := by
  obtain ⟨f, fd, F, m⟩ := T.F_read_board
  have c_check_board := cal_check_board (P := P) (w := w) (base := base) T
  have c_row_of := cal_row_of (P := P) (base := base) T ct
  refine cal_of F m (fun _ _ _ _ _ _ us hl => match us, hl with | [_], _ => rfl) sc_read_board (fun vs H Q E h => ?_) (fun cdv A outer s H vs Q E hr h => ?_)
  · obtain ⟨b, rfl, _⟩ := h
    rfl
  · obtain ⟨b, rfl, g, q⟩ := h
    have h4 := g.lines
    have h60 := g.len
    have ho4 := g.ords
    have sm := g.sm
    have gr := g.raw
    have hm19 : b.raw.mem.length ≤ 19 := by
      show b.mem.length ≤ 19
      omega
    have hrow : (rowsW b.raw).length ≤ 100 := by
      rw [rowsW_len]
      show 1 + (b.ords.map Ord.raw).length + (b.prog.map Deed.raw).length ≤ 100
      rw [List.length_map, List.length_map]
      omega
    have hat := fun i r => row_at (i := i) (r := r) g
    generalize b.raw = rb at *
    have hrl := rowsW_len rb
    refine ⟨_, (pss_cons (ps_set (i := 1) sc_read_board.nd rfl (.inl rfl) (pe_tup pa_nil))
      (pss_cons (ps_set (i := 2) sc_read_board.nd rfl (.inl rfl) (pe_lst pa_nil))
      (pss_cons (ps_set (i := 3) sc_read_board.nd rfl (.inl rfl) (pe_lst pa_nil))
      (pss_cons (ps_for PassesOwn.never rfl (pi_enum (by rfl) T.enumerate (pa_cons (pe_split (pv 0) pe_str) pa_nil)) (pg_tup (n := 2) rfl (pgs_cons (pg_name (i := 4) sc_read_board.nd rfl (.inl rfl)) (pgs_cons (pg_name (i := 5) sc_read_board.nd rfl (.inl rfl)) pgs_nil)))
      (pss_cons (ps_set (i := 6) sc_read_board.nd rfl (.inl rfl) (pe_c c_row_of hr (by decide) (by rfl) (pa_cons (pv 5) pa_nil)))
      (pss_cons (ps_if (PW.pt (pw_or (pt_cmpR o_isN (pv 6) pe_non (nomark _)) (pw_or (pt_cmpR op_ne (pe_cmpR op_eq (pe_ix ix_tup (pv 6) pe_int (fun _ _ => rfl)) pe_str (nomark _)) (pe_cmpR op_eq (pv 4) pe_int (nomark _)) (nomark _)) (pw_or1 (PW.pt (pw_and (pt_cmpR op_eq (pe_ix ix_tup (pv 6) pe_int (fun _ _ => rfl)) pe_str (nomark _)) (pw_and1 (pt_cmpR (op_neD hr.units) (pv 3) (pe_lst pa_nil) (nomark _))))))))) (pss_one ps_never) pss_nil)
      (pss_one (ps_if (pt_cmpR op_eq (pv 4) pe_int (nomark _)) (pss_one (ps_set (i := 1) sc_read_board.nd rfl (.inl rfl) (pe_ix ix_tup (pv 6) pe_int (fun _ _ => rfl)))) (pss_one (ps_if (pt_cmpR op_eq (pe_ix ix_tup (pv 6) pe_int (fun _ _ => rfl)) pe_str (nomark _)) (pss_one (ps_expr (pe_bm PySem.F.plainAttrs_list PySem.F.slot_list_append PySem.F.type_list_append mt_append (pv 2) (pa_cons (pe_ix ix_tup (pv 6) pe_int (fun _ _ => rfl)) pa_nil)))) (pss_one (ps_expr (pe_bm PySem.F.plainAttrs_list PySem.F.slot_list_append PySem.F.type_list_append mt_append (pv 3) (pa_cons (pe_op op_catA (pe_tup (pa_cons (pe_ix ix_tup (pv 6) pe_int (fun _ _ => rfl)) pa_nil)) (pe_ix ix_tup (pv 6) pe_int (fun _ _ => rfl))) pa_nil)))))))))))
      (pss_cons (ps_set (i := 7) sc_read_board.nd rfl (.inl rfl) (pe_tup (pa_cons (pv 1) (pa_cons (pe_callTy c_tuple (by rfl) T.tuple (by decide +kernel) (pa_cons (pv 2) pa_nil)) (pa_cons (pe_callTy c_tuple (by rfl) T.tuple (by decide +kernel) (pa_cons (pv 3) pa_nil)) pa_nil)))))
      (pss_cons (ps_expr (pe_c c_check_board hr (by decide) (by rfl) (pa_cons (pv 7) pa_nil)))
      (pss_one (ps_ret (pv 7))))))))), ?_⟩
    walk_at "rd"
    refine st_newT (by simp) fun m0 H1 n1 e1 h1 => ?_
    walk_at "rd"
    refine st_newL (by simp) fun ol H2 n2 e2 h2 => ?_
    walk_at "rd"
    refine st_newL (by simp) fun pl H3 n3 e3 h3 => ?_
    walk_at "rd"
    refine st_tM1 ?_
    walk_at "rd"
    refine tyS ?_
    walk_at "rd"
    refine st_split (by decide +kernel) (Nat.le_trans (sm.textLen hm19 hrow) (by decide)) fun sl H4 n4 e4 h4' => ?_
    rw [sm.split] at h4'
    walk_at "rd"
    have hol4 : H4 ol = some (.lst []) := e4 _ _ (e3 _ _ h2)
    have hpl4 : H4 pl = some (.lst []) := e4 _ _ h3
    have nop : ol ≠ pl := fun z => by
      rw [← z, h2] at n3
      cases n3
    have nso : sl ∉ [ol, pl] := fun z => by
      simp only [List.mem_cons, List.not_mem_nil, or_false] at z
      rcases z with z | z
      · rw [z, e3 _ _ h2] at n4
        cases n4
      · rw [z, h3] at n4
        cases n4
    have nol : H ol = none := e1.free n2
    have npl : H pl = none := (e1.trans e2).free n3
    refine st_walkE h4' (fun i σ' H' => ∃ (vm : V) (y4 y5 y6 y7 : Option V) (xo xp : List V), σ' = [some (.str (textOf rb)), some vm, some (.ref ol), some (.ref pl), y4, y5, y6, y7] ∧ Fr [ol, pl] H4 H' ∧ Kp H4 H' ∧
      (i ≠ 0 → Im H' (pyMem rb.mem) vm) ∧ H' ol = some (.lst xo) ∧ ImL H' ((rb.ords.take (i - 1)).map pyOrd) xo ∧ H' pl = some (.lst xp) ∧ ImL H' ((rb.prog.take (i - 1 - rb.ords.length)).map pyDeed) xp)
      ⟨_, _, _, _, _, [], [], rfl, Fr.refl _ _, Kp.refl _, fun z => absurd rfl z, hol4, by simpa using iml_nil, hpl4, by simpa using iml_nil⟩ (fun i σ' H' p => ?_) (fun i v σ' H' H'' hv p e' => ?_) (fun σ' H' p => ?_)
    · obtain ⟨_, _, _, _, _, _, _, _, f, _⟩ := p
      exact f _ _ h4' nso
    · obtain ⟨vm, y4, y5, y6, y7, xo, xp, rfl, f, k, pm, po, io, pp, ip⟩ := p
      obtain ⟨t, ht, rfl⟩ := map_at' hv
      obtain ⟨r, hr0, rfl⟩ := map_at' ht
      have hmem := List.mem_of_getElem? hr0
      have hok := sm.rows r hmem
      have hfew := sm.few hm19 r hmem
      obtain ⟨w, ns, hro, f1, f2, f3, f4⟩ := hat i r hr0
      walk_at "rd"
      refine ⟨rowT r, r, rfl, Nat.le_trans (sm.rowLen hm19 _ (List.mem_map_of_mem hmem)) (by decide), split_row hok (rowsW_ne r hmem), rowsW_ne r hmem, by omega, fun x hx => Nat.le_trans (hok x hx).len (by decide), (fun z => by rw [hro] at z; cases z), fun w' ns' he v6 H5 e5 hv6 => ?_⟩
      rw [hro] at he
      cases he
      obtain ⟨a6, x6, rfl, g6, i6⟩ := hv6.tup
      have hv6 := im_tup g6 i6
      walk_at "rd"
      have E5 := e'.trans e5
      have f5 : Fr [ol, pl] H4 H5 := f.trans E5.fr
      have k5 : Kp H4 H5 := k.trans E5.kp
      refine st_ixT_str hv6 (Kp.refl _) (atI_nat (j := 0) rfl) ?_
      walk_at "rd"
      refine st_ND (fun h => absurd f1 h) (fun _ => ?_)
      walk_at "rd"
      refine st_ixT_str hv6 (Kp.refl _) (atI_nat (j := 0) rfl) ?_
      walk_at "rd"
      have fin : ∀ H6 vm xo xp, Fr [ol, pl] H4 H6 → Kp H4 H6 → Im H6 (pyMem rb.mem) vm → H6 ol = some (.lst xo) → ImL H6 ((rb.ords.take i).map pyOrd) xo → H6 pl = some (.lst xp) → ImL H6 ((rb.prog.take (i - rb.ords.length)).map pyDeed) xp →
          ∃ (vm' : V) (z4 z5 z6 z7 : Option V) (xo xp : List V), [some (.str (textOf rb)), some vm, some (.ref ol), some (.ref pl), some (.int (i : Int)), some (.str (rowT r)), some (.ref a6), y7] = [some (.str (textOf rb)), some vm', some (.ref ol), some (.ref pl), z4, z5, z6, z7] ∧ Fr [ol, pl] H4 H6 ∧ Kp H4 H6 ∧
            (i + 1 ≠ 0 → Im H6 (pyMem rb.mem) vm') ∧ H6 ol = some (.lst xo) ∧ ImL H6 ((rb.ords.take (i + 1 - 1)).map pyOrd) xo ∧ H6 pl = some (.lst xp) ∧ ImL H6 ((rb.prog.take (i + 1 - 1 - rb.ords.length)).map pyDeed) xp :=
        fun H6 vm xo xp a b c d e ff gg => ⟨vm, _, _, _, _, xo, xp, rfl, a, b, fun _ => c, d, e, ff, gg⟩
      refine st_D (fun hO => ?_) (fun hO => ?_)
      · obtain ⟨i1, i2, o, ho, eo⟩ := f2 hO
        have xp0 : xp = [] := by
          rw [show i - 1 - rb.ords.length = 0 by omega] at ip
          exact (ip : ImL H' [] xp).nil_inv
        subst xp0
        walk_at "rd"
        refine st_newL (by simp) fun z6 H6 n6 e6 h6 => ?_
        refine tx_neNil0 (e6 _ _ (E5 _ _ pp)) h6 ?_
        walk_at "rd"
        refine st_D (fun h => absurd h (by omega)) (fun _ => ?_)
        walk_at "rd"
        refine st_ixT_str hv6 e6.kp (atI_nat (j := 0) rfl) ?_
        walk_at "rd"
        refine st_D (fun _ => ?_) (fun z => absurd hO z)
        have E6 := E5.trans e6
        walk_at "rd"
        refine tyL (E6 _ _ po) ?_
        walk_at "rd"
        refine st_ixT hv6 e6.kp (atI_nat (j := 1) rfl) fun v7 hv7 => ?_
        rw [eo] at hv7
        walk_at "rd"
        refine st_app (E6 _ _ po) (sz_lt (by rw [io.length, List.length_map, List.length_take]; omega)) fun H7 f7 k7 h7 => ?_
        refine fin H7 _ _ [] ((f5.trans e6.fr).trans (f7.mono (by simp))) ((k5.trans e6.kp).trans k7) ((pm (by omega)).kp (E6.kp.trans k7)) h7 ?_ (f7 _ _ (E6 _ _ pp) (by simp; exact fun z => nop z.symm)) ?_
        · have : rb.ords.take i = rb.ords.take (i - 1) ++ [o] := by
            rw [show i = (i - 1) + 1 by omega, List.take_add_one, show i - 1 + 1 - 1 = i - 1 by omega, ho]
            rfl
          rw [this, List.map_append]
          exact (io.kp (E6.kp.trans k7)).append (iml_cons (hv7.kp k7) iml_nil)
        · rw [show i - rb.ords.length = 0 by omega]
          exact iml_nil
      · walk_at "rd"
        refine st_D (fun h0 => ?_) (fun h0 => ?_)
        · have i0 : i = 0 := by omega
          obtain ⟨_, em⟩ := f3 i0
          walk_at "rd"
          refine st_ixT hv6 (Kp.refl _) (atI_nat (j := 1) rfl) fun v7 hv7 => ?_
          rw [em] at hv7
          refine fin H5 v7 xo xp f5 k5 hv7 (E5 _ _ po) ?_ (E5 _ _ pp) ?_
          · rw [i0]
            rw [i0] at io
            exact io.ex E5
          · rw [i0, Nat.zero_sub]
            rw [show i - 1 - rb.ords.length = 0 by omega] at ip
            exact ip.ex E5
        · obtain ⟨i1, d, hd, ed⟩ := f4 (by omega) hO
          walk_at "rd"
          refine st_ixT_str hv6 (Kp.refl _) (atI_nat (j := 0) rfl) ?_
          walk_at "rd"
          refine st_D (fun z => absurd z hO) (fun _ => ?_)
          walk_at "rd"
          refine tyL (E5 _ _ pp) ?_
          walk_at "rd"
          refine st_ixT hv6 (Kp.refl _) (atI_nat (j := 0) rfl) fun v7 hv7 => ?_
          walk_at "rd"
          refine st_newT (by simp) fun t6 H6 n6 e6 h6 => ?_
          walk_at "rd"
          refine st_ixT hv6 e6.kp (atI_nat (j := 1) rfl) fun v8 hv8 => ?_
          refine tx_catT (im_tup h6 (iml_cons (hv7.ex e6) iml_nil)) (Kp.refl _) hv8 (Kp.refl _) (by
            have := congrArg (fun d : PyData => match d with | .tuple ds => ds.length | _ => 0) ed
            simp only [List.length_cons, List.length_map] at this
            have l2 := (sm.prog d (List.mem_of_getElem? hd)).2.2
            simp only [List.length_cons, List.length_nil, List.length_map]
            omega) fun v9 H7 e7 hv9 => ?_
          have E7 := (E5.trans e6).trans e7
          walk_at "rd"
          refine st_app (E7 _ _ pp) (sz_lt (by rw [ip.length, List.length_map, List.length_take]; omega)) fun H8 f8 k8 h8 => ?_
          have hv9 : Im H7 (pyDeed d) v9 := by
            rw [← ed]
            exact hv9
          refine fin H8 _ _ _ (((f5.trans e6.fr).trans e7.fr).trans (f8.mono (by simp))) (((k5.trans e6.kp).trans e7.kp).trans k8) ((pm (by omega)).kp (E7.kp.trans k8)) (f8 _ _ (E7 _ _ po) (by simp; exact nop)) ?_ h8 ?_
          · have : (rb.ords.take i).map pyOrd = (rb.ords.take (i - 1)).map pyOrd := by
              rw [List.take_of_length_le (by omega), List.take_of_length_le (by omega)]
            rw [this]
            exact io.kp (E7.kp.trans k8)
          · have : rb.prog.take (i - rb.ords.length) = rb.prog.take (i - 1 - rb.ords.length) ++ [d] := by
              rw [show i - rb.ords.length = (i - 1 - rb.ords.length) + 1 by omega, List.take_add_one, hd]
              rfl
            rw [this, List.map_append]
            exact (ip.kp (E7.kp.trans k8)).append (iml_cons (hv9.kp k8) iml_nil)
    · obtain ⟨vm, y4, y5, y6, y7, xo, xp, rfl, f, k, pm, po, io, pp, ip⟩ := p
      rw [List.length_map, List.length_map, hrl] at pm io ip
      rw [List.take_of_length_le (by omega)] at io ip
      have EH : Ex H H' := Fr.ex (((e1.trans e2).trans e3).trans e4) (fun a ha => by
        simp only [List.mem_cons, List.not_mem_nil, or_false] at ha
        rcases ha with rfl | rfl
        · exact nol
        · exact npl) f
      walk_at "rd"
      refine st_tupL po fun t1 H5 n5 e5 h5 => ?_
      walk_at "rd"
      refine st_tupL (e5 _ _ pp) fun t2 H6 n6 e6 h6 => ?_
      walk_at "rd"
      refine st_newT (by simp) fun t3 H7 n7 e7 h7 => ?_
      walk_at "rd"
      have him : Im H7 (pyB rb) (.ref t3) := im_tup h7 (iml_cons ((pm (by omega)).ex ((e5.trans e6).trans e7)) (iml_cons (im_tup (e7 _ _ (e6 _ _ h5)) (io.ex ((e5.trans e6).trans e7))) (iml_cons (im_tup (e7 _ _ h6) (ip.ex ((e5.trans e6).trans e7))) iml_nil)))
      refine ⟨_, rb, rfl, him, gr, fun H8 e8 => ?_⟩
      walk_at "rd"
      exact q _ H8 ((EH.trans ((e5.trans e6).trans e7)).trans e8) (him.ex e8)
/-! ### _law_begun -/
theorem sc__law_begun : FnScope ["_law_script", "_law_stirred", "_law_cell"] ["_law_script"] (defScope s__law_begun) := ⟨rfl, rfl, rfl, by decide +kernel, rfl, by decide +kernel, by decide +kernel⟩
def sp_law_begun (K : PySem.W.Frag) : Sp := fun vs H Q _ => ∃ (a : Addr) (ns : List Int), vs = [.ref a] ∧ SqL K H a (ns.map V.int) ∧ ∀ b l H', Ex H H' → H b = none → H l = none → BoxAt H' b l → Q (.ref b) H'
theorem cal_law_begun {P w base K mg c} (T : Txt K mg c) : Cal CX0 P w K mg base 1 "_law_begun" (sp_law_begun K) := by
  obtain ⟨f, fd, F, m⟩ := T.F__law_begun
  refine cal_of F m (fun _ _ _ _ _ _ us hl => match us, hl with | [_], _ => rfl) sc__law_begun (fun vs H Q E h => ?_) (fun cdv A outer s H vs Q E hr h => ?_)
  · obtain ⟨a, ns, rfl, _⟩ := h
    rfl
  · obtain ⟨a, ns, rfl, hS, q⟩ := h
    refine ⟨_, (pss_cons (ps_set (i := 1) sc__law_begun.nd rfl (.inl rfl) pe_int)
      (pss_cons (ps_for PassesOwn.never rfl (pi_list (pv 0)) (pg_name (i := 2) sc__law_begun.nd rfl (.inl rfl))
      (pss_one (ps_set (i := 1) sc__law_begun.nd rfl (.inl rfl) (pe_op op_mod (pe_op op_add (pe_op op_add (pe_op op_mul (pv 1) pe_int) (pe_op op_mul (pv 2) pe_int)) pe_int) pe_int))))
      (pss_one (ps_ret (pe_lst (pa_cons (pe_callTy c_list (by rfl) T.list (by decide +kernel) (pa_cons (pv 0) pa_nil)) (pa_cons (pe_op op_mul (pv 1) (pe_callTy c_int (by rfl) T.int (by decide +kernel) (pa_cons (pe_cmpR op_gt (pe_callB c_len (by rfl) T.len PySem.boot_len (pa_cons (pv 0) pa_nil)) pe_int (nomark _)) pa_nil))) pa_nil))))))), ?_⟩
    walk_at "rd"
    refine st_walkLS hS (fun i σ H' => ∃ (z : Int) (y : Option V), σ = [some (.ref a), some (.int z), y] ∧ H' = H ∧ 0 ≤ z ∧ z < 2147483647) ⟨0, none, rfl, rfl, by omega, by omega⟩ (fun i σ H' p => ?_) (fun i v σ H' hv p => ?_) (fun σ H' p => ?_)
    · obtain ⟨_, _, _, rfl, _⟩ := p
      exact hS
    · obtain ⟨z, y, rfl, rfl, z1, z2⟩ := p
      obtain ⟨n, _, rfl⟩ := map_at' hv
      walk_at "rd"
      refine st_mul (.inl ⟨by omega, by omega⟩) ?_
      walk_at "rd"
      refine st_mul (.inr ⟨by decide, by decide⟩) ?_
      walk_at "rd"
      exact ⟨_, _, rfl, rfl, Int.emod_nonneg _ (by decide), Int.emod_lt_of_pos _ (by decide)⟩
    · obtain ⟨z, y, rfl, rfl, z1, z2⟩ := p
      walk_at "rd"
      refine st_listS hS fun l H1 nl e1 hl => ?_
      walk_at "rd"
      refine st_lenS (ex_l e1 hS) ?_
      walk_at "rd"
      refine st_mul (.inl ⟨by omega, by omega⟩) ?_
      walk_at "rd"
      refine st_newL (by simp) fun b H2 nb e2 hb => ?_
      refine q b l H2 (e1.trans e2) (e1.free nb) nl ⟨⟨_, hb, ?_, ?_⟩, ⟨ns, e2 _ _ hl⟩⟩
      · split <;> omega
      · split <;> omega
/-! ### _law_alike -/
theorem sc__law_alike : FnScope ["_law_found", "_law_due", "_law_k"] ["_law_found", "_law_due"] (defScope s__law_alike) := ⟨rfl, rfl, rfl, by decide +kernel, rfl, by decide +kernel, by decide +kernel⟩
/-- two that bear the same data -/
def sp_law_alike (K : PySem.W.Frag) : Nat → Sp
  | 0 => fun _ _ _ _ => False
  | n + 1 => fun vs H Q _ => ∃ (x y : V) (d : PyData), vs = [x, y] ∧ Dp K H x d ∧ Dp K H y d ∧ Al n d ∧ Q (.bl true) H
theorem cal_law_alike {P w base K mg c} (T : Txt K mg c) : ∀ n : Nat, Cal CX0 P w K mg base n "_law_alike" (sp_law_alike K n)
  | 0 => by
    obtain ⟨f, fd, F, m⟩ := T.F__law_alike
    exact ⟨f, fd, ["_law_found", "_law_due"], ⟨fun _ _ _ _ h => h.elim, fun _ _ _ _ _ _ _ _ _ _ _ _ _ h => h.elim⟩, m, F.kp, F.binds (fun _ _ _ _ _ _ us hl => match us, hl with | [_, _], _ => rfl)⟩
  | n + 1 => by
    obtain ⟨f, fd, F, m⟩ := T.F__law_alike
    have c__law_alike := cal_law_alike (P := P) (w := w) (base := base) T n
    refine cal_of F m (fun _ _ _ _ _ _ us hl => match us, hl with | [_, _], _ => rfl) sc__law_alike (fun vs H Q E h => ?_) (fun cdv A outer s H vs Q E hr h => ?_)
    · obtain ⟨x, y, d, rfl, _⟩ := h
      rfl
    · obtain ⟨x, y, d, rfl, hx, hy, ha, q⟩ := h
      refine ⟨_, (pss_cons (ps_if (pt_cmpR o_isN (pv 1) pe_non (nomark _)) (pss_one (ps_ret (pe_cmpR o_isN (pv 0) pe_non (nomark _)))) pss_nil)
      (pss_cons (ps_if (pt_val (pe_callB call_isi (by rfl) T.isinstance (by decide +kernel) (pa_cons (pv 1) (pa_cons (pe_bltn (v := .ty "bool") (u := .type "bool") (by rfl) T.bool (by decide +kernel) rfl) pa_nil)))) (pss_one (ps_ret (pe_and (pe_callB call_isi (by rfl) T.isinstance (by decide +kernel) (pa_cons (pv 0) (pa_cons (pe_bltn (v := .ty "bool") (u := .type "bool") (by rfl) T.bool (by decide +kernel) rfl) pa_nil))) (pe_one (pe_cmpR (op_eqD hr.units) (pv 0) (pv 1) (nomark _)))))) pss_nil)
      (pss_cons (ps_if (pt_val (pe_callB call_isi (by rfl) T.isinstance (by decide +kernel) (pa_cons (pv 1) (pa_cons (pe_bltn (v := .ty "int") (u := .type "int") (by rfl) T.int (by decide +kernel) rfl) pa_nil)))) (pss_one (ps_ret (pe_and (pe_callB call_isi (by rfl) T.isinstance (by decide +kernel) (pa_cons (pv 0) (pa_cons (pe_bltn (v := .ty "int") (u := .type "int") (by rfl) T.int (by decide +kernel) rfl) pa_nil))) (pe_and (pe_not (pe_callB call_isi (by rfl) T.isinstance (by decide +kernel) (pa_cons (pv 0) (pa_cons (pe_bltn (v := .ty "bool") (u := .type "bool") (by rfl) T.bool (by decide +kernel) rfl) pa_nil)))) (pe_one (pe_cmpR (op_eqD hr.units) (pv 0) (pv 1) (nomark _))))))) pss_nil)
      (pss_cons (ps_if (pt_val (pe_callB call_isi (by rfl) T.isinstance (by decide +kernel) (pa_cons (pv 1) (pa_cons (pe_bltn (v := .ty "str") (u := .type "str") (by rfl) T.str (by decide +kernel) rfl) pa_nil)))) (pss_one (ps_ret (pe_and (pe_callB call_isi (by rfl) T.isinstance (by decide +kernel) (pa_cons (pv 0) (pa_cons (pe_bltn (v := .ty "str") (u := .type "str") (by rfl) T.str (by decide +kernel) rfl) pa_nil))) (pe_one (pe_cmpR (op_eqD hr.units) (pv 0) (pv 1) (nomark _)))))) pss_nil)
      (pss_cons (ps_if (PW.pt (pw_or (pt_cmpR op_ne (pe_callB call_isi (by rfl) T.isinstance (by decide +kernel) (pa_cons (pv 1) (pa_cons (pe_bltn (v := .ty "tuple") (u := .type "tuple") (by rfl) T.tuple (by decide +kernel) rfl) pa_nil))) (pe_callB call_isi (by rfl) T.isinstance (by decide +kernel) (pa_cons (pv 0) (pa_cons (pe_bltn (v := .ty "tuple") (u := .type "tuple") (by rfl) T.tuple (by decide +kernel) rfl) pa_nil))) (nomark _)) (pw_or1 (pt_cmpR op_ne (pe_callB call_isi (by rfl) T.isinstance (by decide +kernel) (pa_cons (pv 1) (pa_cons (pe_bltn (v := .ty "list") (u := .type "list") (by rfl) T.list (by decide +kernel) rfl) pa_nil))) (pe_callB call_isi (by rfl) T.isinstance (by decide +kernel) (pa_cons (pv 0) (pa_cons (pe_bltn (v := .ty "list") (u := .type "list") (by rfl) T.list (by decide +kernel) rfl) pa_nil))) (nomark _))))) (pss_one (ps_ret pe_bl)) pss_nil)
      (pss_cons (ps_if (pt_cmpR op_ne (pe_callB c_len (by rfl) T.len PySem.boot_len (pa_cons (pv 0) pa_nil)) (pe_callB c_len (by rfl) T.len PySem.boot_len (pa_cons (pv 1) pa_nil)) (nomark _)) (pss_one (ps_ret pe_bl)) pss_nil)
      (pss_cons (ps_for PassesOwn.never rfl (pi_range1 rfl T.range (pa_cons (pe_callB c_len (by rfl) T.len PySem.boot_len (pa_cons (pv 1) pa_nil)) pa_nil)) (pg_name (i := 2) sc__law_alike.nd rfl (.inl rfl))
      (pss_one (ps_if (pt_not (pt_val (pe_c c__law_alike hr (by omega) (by rfl) (pa_cons (pe_ix ix_seq (pv 0) (pv 2) (fun _ _ => rfl)) (pa_cons (pe_ix ix_seq (pv 1) (pv 2) (fun _ _ => rfl)) pa_nil))))) (pss_one (ps_ret pe_bl)) pss_nil)))
      (pss_one (ps_ret pe_bl))))))))), ?_⟩
      walk_at "rd"
      have scal : (d = .none ∨ (∃ b, d = .bool b) ∨ (∃ i, d = .int i) ∨ ∃ s, d = .str s ∧ PyData.strOk s = true) ∨ ∃ ds m, n = m + 1 ∧ Seqs d ds ∧ ds.length ≤ 1000000 ∧ ∀ e ∈ ds, Al m e := by
        cases n with
        | zero => exact .inl ha
        | succ m =>
          rcases ha with ha | ⟨ds, h1, h2, h3⟩
          · exact .inl ha
          · exact .inr ⟨ds, m, rfl, h1, h2, h3⟩
      rcases scal with (rfl | ⟨b, rfl⟩ | ⟨i, rfl⟩ | ⟨s', rfl, hs⟩) | ⟨ds, m, rfl, hd, hl, he⟩
      · cases hx
        cases hy
        show if decide (V.non = V.non) = true then _ else _
        rw [decide_eq_true rfl]
        walk_at "rd"
        exact q
      · cases hx
        cases hy
        show if decide (V.bl b = V.non) = true then _ else _
        rw [decide_eq_false (fun z => by cases z)]
        walk_at "rd"
        refine st_isi (.bl b) kb_bool_bool ?_
        walk_at "rd"
        refine st_isi (.bl b) kb_bool_bool ?_
        walk_at "rd"
        refine st_eqD (.bl b) (.bl b) (sh_bool (n := 0)).shaped (sh_bool (n := 0)).shaped ?_
        rw [eqv_same (sh_bool (n := 0))]
        exact q
      · cases hx
        cases hy
        show if decide (V.int i = V.non) = true then _ else _
        rw [decide_eq_false (fun z => by cases z)]
        walk_at "rd"
        refine st_isi (.int i) kb_int_bool ?_
        walk_at "rd"
        refine st_isi (.int i) kb_int_int ?_
        walk_at "rd"
        refine st_isi (.int i) kb_int_int ?_
        walk_at "rd"
        refine st_isi (.int i) kb_int_bool ?_
        walk_at "rd"
        refine st_eqD (.int i) (.int i) (sh_int (n := 0)).shaped (sh_int (n := 0)).shaped ?_
        rw [eqv_same (sh_int (n := 0))]
        exact q
      · cases hx
        cases hy
        show if decide (V.str s' = V.non) = true then _ else _
        rw [decide_eq_false (fun z => by cases z)]
        walk_at "rd"
        refine st_isi (.str s') kb_str_bool ?_
        walk_at "rd"
        refine st_isi (.str s') kb_str_int ?_
        walk_at "rd"
        refine st_isi (.str s') kb_str_str ?_
        walk_at "rd"
        refine st_isi (.str s') kb_str_str ?_
        walk_at "rd"
        refine st_eqD (.str s') (.str s') (sh_str (n := 0) hs).shaped (sh_str (n := 0) hs).shaped ?_
        rw [eqv_same (sh_str (n := 0) hs)]
        exact q
      · have hny : decide (y = .non) = false := by
          rcases hd with rfl | rfl
          · obtain ⟨a, _, rfl, _⟩ := Dp.lst_inv hy
            rfl
          · obtain ⟨a, _, rfl, _⟩ := Dp.tup_inv hy
            rfl
        rw [hny]
        walk_at "rd"
        have k1 : kitB (tyN d) "bool" = some false := by
          rcases hd with rfl | rfl
          · exact kb_list_bool
          · exact kb_tuple_bool
        have k2 : kitB (tyN d) "int" = some false := by
          rcases hd with rfl | rfl
          · exact kb_list_int
          · exact kb_tuple_int
        have k3 : kitB (tyN d) "str" = some false := by
          rcases hd with rfl | rfl
          · exact kb_list_str
          · exact kb_tuple_str
        obtain ⟨b4, k4⟩ : ∃ b, kitB (tyN d) "tuple" = some b := by
          rcases hd with rfl | rfl
          · exact ⟨false, kb_list_tuple⟩
          · exact ⟨true, kb_tuple_tuple⟩
        obtain ⟨b5, k5⟩ : ∃ b, kitB (tyN d) "list" = some b := by
          rcases hd with rfl | rfl
          · exact ⟨true, kb_list_list⟩
          · exact ⟨false, kb_tuple_list⟩
        refine st_isi hy k1 ?_
        walk_at "rd"
        refine st_isi hy k2 ?_
        walk_at "rd"
        refine st_isi hy k3 ?_
        walk_at "rd"
        refine st_isi hy k4 ?_
        walk_at "rd"
        refine st_isi hx k4 ?_
        walk_at "rd"
        rw [decide_eq_true (rfl : b4 = b4)]
        walk_at "rd"
        refine st_isi hy k5 ?_
        walk_at "rd"
        refine st_isi hx k5 ?_
        walk_at "rd"
        rw [decide_eq_true (rfl : b5 = b5)]
        walk_at "rd"
        refine st_lenD hx hd ?_
        walk_at "rd"
        refine st_lenD hy hd ?_
        walk_at "rd"
        rw [decide_eq_true rfl]
        walk_at "rd"
        refine st_lenD hy hd ?_
        walk_at "rd"
        refine st_walkR hl (fun i σ' H' => ∃ z, σ' = [some x, some y, z] ∧ H' = H) ⟨none, rfl, rfl⟩ (fun i σ' H' hi p => ?_) (fun σ' H' p => ?_)
        · obtain ⟨z, rfl, rfl⟩ := p
          walk_at "rd"
          refine st_ixD hx hd (List.getElem?_eq_getElem hi) fun v1 h1 => ?_
          walk_at "rd"
          refine st_ixD hy hd (List.getElem?_eq_getElem hi) fun v2 h2 => ?_
          walk_at "rd"
          refine ⟨v1, v2, _, rfl, h1, h2, he _ (List.getElem_mem hi), ?_⟩
          walk_at "rd"
          exact ⟨_, rfl, rfl⟩
        · obtain ⟨z, rfl, rfl⟩ := p
          walk_at "rd"
          exact q
/-! ### _law_take -/
theorem sc__law_take : FnScope ["_law_box", "_law_many", "_law_number"] ["_law_box", "_law_many"] (defScope s__law_take) := ⟨rfl, rfl, rfl, by decide +kernel, rfl, by decide +kernel, by decide +kernel⟩
def sp_law_take : Sp := fun vs H Q _ => ∃ (b l : Addr) (m : Int), vs = [.ref b, .int m] ∧ BoxAt H b l ∧ 0 < m ∧ m.natAbs.log2 < 9000 ∧ ∀ (r : Int) H', Dr b l H H' → 0 ≤ r → r < m → Q (.int r) H'
theorem sh_empty : Sh 1 (.list []) := sh_lst (by simp)
theorem cal_law_take {P w base K mg c} (T : Txt K mg c) : Cal CX0 P w K mg base 1 "_law_take" sp_law_take := by
  obtain ⟨f, fd, F, m⟩ := T.F__law_take
  refine cal_of F m (fun _ _ _ _ _ _ us hl => match us, hl with | [_, _], _ => rfl) sc__law_take (fun vs H Q E h => ?_) (fun cdv A outer s H vs Q E hr h => ?_)
  · obtain ⟨b, l, m, rfl, _⟩ := h
    rfl
  · obtain ⟨b, l, m, rfl, hB, m0, ml, q⟩ := h
    refine ⟨_, (pss_cons (ps_if (pt_cmpR (op_eqD hr.units) (pe_ix ix_list (pv 0) pe_int (fun _ _ => rfl)) (pe_lst pa_nil) (nomark _)) (pss_cons (ps_asg (pe_op op_mod (pe_op op_mul (pe_ix ix_list (pv 0) pe_int (fun _ _ => rfl)) pe_int) pe_int) (pg_sub (pv 0) pe_int set_list))
      (pss_one (ps_ret (pe_op op_mod (pe_op op_fdiv (pe_ix ix_list (pv 0) pe_int (fun _ _ => rfl)) pe_int) (pv 1))))) pss_nil)
      (pss_cons (ps_set (i := 2) sc__law_take.nd rfl (.inl rfl) (pe_ix ix_list (pe_ix ix_list (pv 0) pe_int (fun _ _ => rfl)) pe_int (fun _ _ => rfl)))
      (pss_cons (ps_asg (pe_op op_fdivW (pv 2) (pv 1)) (pg_sub (pe_ix ix_list (pv 0) pe_int (fun _ _ => rfl)) pe_int set_list))
      (pss_cons (ps_if (PW.pt (pw_or (pt_cmpR op_eq (pe_ix ix_list (pe_ix ix_list (pv 0) pe_int (fun _ _ => rfl)) pe_int (fun _ _ => rfl)) pe_int (nomark _)) (pw_or1 (pt_cmpR op_eq (pe_ix ix_list (pe_ix ix_list (pv 0) pe_int (fun _ _ => rfl)) pe_int (fun _ _ => rfl)) (pe_un un_neg pe_int) (nomark _))))) (pss_one (ps_expr (pe_bm PySem.F.plainAttrs_list PySem.F.slot_list_pop PySem.F.type_list_pop mt_popAt (pe_ix ix_list (pv 0) pe_int (fun _ _ => rfl)) (pa_cons pe_int pa_nil)))) pss_nil)
      (pss_one (ps_ret (pe_op op_mod (pv 2) (pv 1)))))))), ?_⟩
    obtain ⟨⟨st, hb, z1, z2⟩, ⟨ns, hl⟩⟩ := id hB
    have nbl : b ≠ l := hB.ne
    have nlb : l ≠ b := fun z => nbl z.symm
    walk_at "rd"
    refine st_ixL hb (atI_nat (j := 0) rfl) ?_
    walk_at "rd"
    refine st_newL (by simp) fun e H1 ne e1 he => ?_
    refine st_eqD (lst_dp (ds := ns.map .int) (e1 _ _ hl) (ImL.ints.mpr rfl)) (lst_dp (ds := []) he iml_nil) (sh_lst (n := 0) sh_ints).shaped sh_empty.shaped ?_
    walk_at "rd"
    have hb1 := e1 _ _ hb
    have hl1 := e1 _ _ hl
    cases ns with
    | nil =>
      refine iteT ?_
      walk_at "rd"
      refine st_ixL hb1 (atI_nat (j := 1) rfl) ?_
      walk_at "rd"
      refine st_mul (.inl ⟨by omega, by omega⟩) ?_
      walk_at "rd"
      refine st_setI (k := 1) hb1 (by simp) fun H2 f2 k2 h2 => ?_
      walk_at "rd"
      refine st_ixL h2 (atI_nat (j := 1) rfl) ?_
      walk_at "rd"
      refine st_mod m0 ?_
      refine q _ H2 ⟨e1.fr.trans (f2.mono (by simp)), e1.kp.trans k2, ⟨_, h2, Int.emod_nonneg _ (by decide), Int.emod_lt_of_pos _ (by decide)⟩, ⟨[], fr1 f2 hl1 nlb⟩⟩ (Int.emod_nonneg _ (by omega)) (Int.emod_lt_of_pos _ m0)
    | cons n ns =>
      refine iteF ?_
      walk_at "rd"
      refine st_ixL hb1 (atI_nat (j := 0) rfl) ?_
      walk_at "rd"
      refine st_ixL hl1 (atI_nat (j := 0) rfl) ?_
      walk_at "rd"
      refine st_fdivW ⟨m0, ml⟩ ?_
      walk_at "rd"
      refine st_ixL hb1 (atI_nat (j := 0) rfl) ?_
      walk_at "rd"
      refine st_setI (k := 0) hl1 (by simp) fun H2 f2 k2 h2 => ?_
      have hb2 := fr1 f2 hb1 nbl
      have fin : ∀ H3, Fr [b, l] H2 H3 → Kp H2 H3 → BoxAt H3 b l → Q (.int (n % m)) H3 := fun H3 f3 k3 h3 =>
        q _ H3 ⟨(e1.fr.trans (f2.mono (by simp))).trans f3, (e1.kp.trans k2).trans k3, h3⟩ (Int.emod_nonneg _ (by omega)) (Int.emod_lt_of_pos _ m0)
      have hB2 : BoxAt H2 b l := ⟨⟨st, hb2, z1, z2⟩, ⟨(n / m) :: ns, h2⟩⟩
      have pop : ∀ Q' : VK, (∀ H3, Fr [l] H2 H3 → Kp H2 H3 → H3 l = some (.lst (ns.map V.int)) → Q' (.int (n / m)) H3) → rPopAt (.ref l) [.int 0] H2 Q' := fun Q' h => st_popAt0 h2 h
      walk_at "rd"
      refine st_ixL hb2 (atI_nat (j := 0) rfl) ?_
      walk_at "rd"
      refine st_ixL h2 (atI_nat (j := 0) rfl) ?_
      walk_at "rd"
      have last : ∀ H3, Fr [l] H2 H3 → Kp H2 H3 → H3 l = some (.lst (ns.map V.int)) → Q (.int (n % m)) H3 := fun H3 f3 k3 h3 => fin H3 (f3.mono (by simp)) k3 ⟨⟨st, fr1 f3 hb2 nbl, z1, z2⟩, ⟨ns, h3⟩⟩
      refine st_D (fun h => ?_) (fun h => ?_)
      · walk_at "rd"
        refine st_ixL hb2 (atI_nat (j := 0) rfl) ?_
        refine tyL h2 ?_
        walk_at "rd"
        refine pop _ fun H3 f3 k3 h3 => ?_
        walk_at "rd"
        refine st_mod m0 ?_
        exact last H3 f3 k3 h3
      · walk_at "rd"
        refine st_ixL hb2 (atI_nat (j := 0) rfl) ?_
        walk_at "rd"
        refine st_ixL h2 (atI_nat (j := 0) rfl) ?_
        walk_at "rd"
        refine ⟨1, rfl, ?_⟩
        walk_at "rd"
        refine st_D (fun h' => ?_) (fun h' => ?_)
        · walk_at "rd"
          refine st_ixL hb2 (atI_nat (j := 0) rfl) ?_
          refine tyL h2 ?_
          walk_at "rd"
          refine pop _ fun H3 f3 k3 h3 => ?_
          walk_at "rd"
          refine st_mod m0 ?_
          exact last H3 f3 k3 h3
        · walk_at "rd"
          refine st_mod m0 ?_
          exact fin H2 (Fr.refl _ _) (Kp.refl _) hB2
/-! ### _law_order -/
theorem sc__law_order : FnScope ["_law_box", "_law_cells", "_law_number", "_law_many", "_law_count", "_law_later"] ["_law_box", "_law_cells", "_law_number", "_law_many"] (defScope s__law_order) := ⟨rfl, rfl, rfl, by decide +kernel, rfl, by decide +kernel, by decide +kernel⟩
def sp_law_order : Sp := fun vs H Q _ => ∃ (b l : Addr) (cells i n : Nat), vs = [.ref b, .int (cells : Int), .int (i : Int), .int (n : Int)] ∧ BoxAt H b l ∧ 1 ≤ cells ∧ cells ≤ 16 ∧ i < n ∧ n ≤ 4 ∧
  ∀ (o : Ord) v H', Dr b l H H' → 1 ≤ o.many → o.many ≤ 8 → o.src + o.many ≤ cells → o.dst + o.many ≤ cells → (∀ k, o.later = some k → i < k ∧ k < n) → Im H' (pyOrd o.raw) v → Q v H'
theorem cal_law_order {P w base K mg c} (T : Txt K mg c) : Cal CX0 P w K mg base 2 "_law_order" sp_law_order := by
  obtain ⟨f, fd, F, m⟩ := T.F__law_order
  have c__law_take := cal_law_take (P := P) (w := w) (base := base) T
  refine cal_of F m (fun _ _ _ _ _ _ us hl => match us, hl with | [_, _, _, _], _ => rfl) sc__law_order (fun vs H Q E h => ?_) (fun cdv A outer s H vs Q E hr h => ?_)
  · obtain ⟨b, l, x, i, n, rfl, _⟩ := h
    rfl
  · obtain ⟨b, l, cells, i, n, rfl, hB, c1, c16, hi, hn, q⟩ := h
    refine ⟨_, (pss_cons (ps_set (i := 4) sc__law_order.nd rfl (.inl rfl) (pe_op op_add pe_int (pe_c c__law_take hr (by decide) (by rfl) (pa_cons (pv 0) (pa_cons (pe_callB (c_min rfl) (by rfl) T.min (by decide +kernel) (pa_cons pe_int (pa_cons (pv 1) pa_nil))) pa_nil)))))
      (pss_cons (ps_set (i := 5) sc__law_order.nd rfl (.inl rfl) pe_non)
      (pss_cut (ps_if (PW.pt (pw_and (pt_cmpR op_lt (pe_op op_add (pv 2) pe_int) (pv 3) (nomark _)) (pw_and1 (pt_cmpR op_eq (pe_c c__law_take hr (by decide) (by rfl) (pa_cons (pv 0) (pa_cons pe_int pa_nil))) pe_int (nomark _))))) (pss_one (ps_set (i := 5) sc__law_order.nd rfl (.inl rfl) (pe_op op_add (pe_op op_add (pv 2) pe_int) (pe_c c__law_take hr (by decide) (by rfl) (pa_cons (pv 0) (pa_cons (pe_op op_sub (pe_op op_sub (pv 3) (pv 2)) pe_int) pa_nil)))))) pss_nil)
      (pss_one (ps_ret (pe_tup (pa_cons (pe_c c__law_take hr (by decide) (by rfl) (pa_cons (pv 0) (pa_cons (pe_op op_add (pe_op op_sub (pv 1) (pv 4)) pe_int) pa_nil))) (pa_cons (pe_c c__law_take hr (by decide) (by rfl) (pa_cons (pv 0) (pa_cons (pe_op op_add (pe_op op_sub (pv 1) (pv 4)) pe_int) pa_nil))) (pa_cons (pv 4) (pa_cons (pv 5) pa_nil)))))))))), ?_⟩
    have small : ∀ z : Int, z.natAbs < 512 → z.natAbs.log2 < 9000 := fun z hz => by
      have := Nat.log2_le_self z.natAbs
      omega
    walk_at "rd"
    refine ⟨b, l, _, rfl, hB, ?_, ?_, fun r H1 d1 r0 r1 => ?_⟩
    · split <;> omega
    · split
      · exact small _ (by omega)
      · exact small _ (by decide)
    walk_at "rd"
    -- the count
    obtain ⟨m, rfl⟩ : ∃ m : Nat, r = (m : Int) := ⟨r.toNat, by omega⟩
    have hm : m + 1 ≤ 8 ∧ m + 1 ≤ cells := by
      split at r1 <;> omega
    refine st_cut (fun σ H2 => ∃ o : Option Nat, σ = [some (.ref b), some (.int (cells : Int)), some (.int (i : Int)), some (.int (n : Int)), some (.int (1 + (m : Int))), some (vOpt (oN o))] ∧ Dr b l H H2 ∧ ∀ k, o = some k → i < k ∧ k < n) ?_ fun σ H2 hM => ?_
    · walk_at "rd"
      refine st_D (fun h => ?_) (fun h => ?_)
      · walk_at "rd"
        refine ⟨b, l, 2, rfl, d1.2.2, by decide, by decide, fun r H2 d2 r0 r1 => ?_⟩
        walk_at "rd"
        refine st_D (fun h2 => ?_) (fun h2 => ?_)
        · walk_at "rd"
          refine ⟨b, l, _, rfl, d2.2.2, by omega, small _ (by omega), fun r3 H3 d3 r30 r31 => ?_⟩
          walk_at "rd"
          refine ⟨some (i + 1 + r3.toNat), ?_, (d1.trans d2).trans d3, ?_⟩
          · have e : V.int ((i : Int) + 1 + r3) = vOpt (oN (some (i + 1 + r3.toNat))) := by
              show V.int _ = V.int ((i + 1 + r3.toNat : Nat) : Int)
              congr 1
              omega
            rw [← e]
            rfl
          · intro k hk
            cases hk
            omega
        · walk_at "rd"
          exact ⟨none, rfl, d1.trans d2, by intro k hk; cases hk⟩
      · walk_at "rd"
        exact ⟨none, rfl, d1, by intro k hk; cases hk⟩
    · obtain ⟨o, rfl, d2, ho⟩ := hM
      walk_at "rd"
      refine ⟨b, l, _, rfl, d2.2.2, by omega, small _ (by omega), fun r3 H3 d3 r30 r31 => ?_⟩
      walk_at "rd"
      refine ⟨b, l, _, rfl, d3.2.2, by omega, small _ (by omega), fun r4 H4 d4 r40 r41 => ?_⟩
      walk_at "rd"
      refine st_newT (by simp) fun p H5 np e5 hp => ?_
      refine q ⟨r3.toNat, r4.toNat, m + 1, o⟩ _ H5 (((d2.trans d3).trans d4).ex e5) (by simp) hm.1 ?_ ?_ ho ?_
      · show r3.toNat + (m + 1) ≤ cells
        omega
      · show r4.toNat + (m + 1) ≤ cells
        omega
      · refine im_tup hp (iml_cons ?_ (iml_cons ?_ (iml_cons ?_ (iml_cons ?_ iml_nil))))
        · rw [Im.int_iff]
          show V.int r3 = V.int (r3.toNat : Int)
          congr 1
          omega
        · rw [Im.int_iff]
          show V.int r4 = V.int (r4.toNat : Int)
          congr 1
          omega
        · rw [Im.int_iff]
          show V.int (1 + (m : Int)) = V.int ((m + 1 : Nat) : Int)
          congr 1
          omega
        · exact im_opt.mpr rfl
/-! ### _law_deed -/
theorem sc__law_deed : FnScope ["_law_box", "_law_cells", "_law_orders", "_law_kinds_here", "_law_word", "_law_cell"] ["_law_box", "_law_cells", "_law_orders", "_law_kinds_here"] (defScope s__law_deed) := ⟨rfl, rfl, rfl, by decide +kernel, rfl, by decide +kernel, by decide +kernel⟩
/-- the words that stand for deeds -/
def words7 : List Str := ["set", "add", "say", "start", "wait", "clean", "drop"]
def sp_law_deed : Sp := fun vs H Q _ => ∃ (b l kl : Addr) (cells n : Nat) (ks : List Str), vs = [.ref b, .int (cells : Int), .int (n : Int), .ref kl] ∧ BoxAt H b l ∧ H kl = some (.lst (ks.map V.str)) ∧ kl ≠ b ∧ kl ≠ l ∧ ks ≠ [] ∧ ks.length ≤ 100 ∧ (∀ s ∈ ks, s ∈ words7) ∧
  4 ≤ cells ∧ cells ≤ 16 ∧ 1 ≤ n ∧ n ≤ 4 ∧ ∀ (d : Deed) v H', Dr b l H H' → d.Ok cells n → d.raw.1 ∈ ks → Im H' (pyDeed d.raw) v → Q v H'
theorem cal_law_deed {P w base K mg c} (T : Txt K mg c) : Cal CX0 P w K mg base 2 "_law_deed" sp_law_deed := by
  obtain ⟨f, fd, F, m⟩ := T.F__law_deed
  have c__law_take := cal_law_take (P := P) (w := w) (base := base) T
  refine cal_of F m (fun _ _ _ _ _ _ us hl => match us, hl with | [_, _, _, _], _ => rfl) sc__law_deed (fun vs H Q E h => ?_) (fun cdv A outer s H vs Q E hr h => ?_)
  · obtain ⟨b, l, kl, x, n, ks, rfl, _⟩ := h
    rfl
  · obtain ⟨b, l, kl, cells, n, ks, rfl, hB, hk, nkb, nkl, hne, hkl, hw, c4, c16, n1, n4, q⟩ := h
    refine ⟨_, (pss_cons (ps_set (i := 4) sc__law_deed.nd rfl (.inl rfl) (pe_ix ix_list (pv 3) (pe_c c__law_take hr (by decide) (by rfl) (pa_cons (pv 0) (pa_cons (pe_callB c_len (by rfl) T.len PySem.boot_len (pa_cons (pv 3) pa_nil)) pa_nil))) (fun _ _ => rfl)))
      (pss_cons (ps_if (pt_cmpR op_eq (pv 4) pe_str (nomark _)) (pss_one (ps_ret (pe_tup (pa_cons (pv 4) pa_nil)))) pss_nil)
      (pss_cons (ps_if (pt_cmpR op_in_seq (pv 4) (pe_tup (pa_cons pe_str (pa_cons pe_str pa_nil))) (by rfl)) (pss_one (ps_ret (pe_tup (pa_cons (pv 4) (pa_cons (pe_c c__law_take hr (by decide) (by rfl) (pa_cons (pv 0) (pa_cons (pe_op op_fdiv (pv 1) pe_int) pa_nil))) pa_nil))))) pss_nil)
      (pss_cons (ps_if (pt_cmpR op_eq (pv 4) pe_str (nomark _)) (pss_one (ps_ret (pe_tup (pa_cons (pv 4) (pa_cons (pe_c c__law_take hr (by decide) (by rfl) (pa_cons (pv 0) (pa_cons (pv 2) pa_nil))) pa_nil))))) pss_nil)
      (pss_cons (ps_set (i := 5) sc__law_deed.nd rfl (.inl rfl) (pe_c c__law_take hr (by decide) (by rfl) (pa_cons (pv 0) (pa_cons (pv 1) pa_nil))))
      (pss_cons (ps_if (pt_cmpR op_eq (pv 4) pe_str (nomark _)) (pss_one (ps_ret (pe_tup (pa_cons (pv 4) (pa_cons (pv 5) pa_nil))))) pss_nil)
      (pss_one (ps_ret (pe_tup (pa_cons (pv 4) (pa_cons (pv 5) (pa_cons (pe_c c__law_take hr (by decide) (by rfl) (pa_cons (pv 0) (pa_cons (pe_ix ix_list (pe_lst (pa_cons pe_int (pa_cons (pv 1) pa_nil))) (pe_callTy c_int (by rfl) T.int (by decide +kernel) (pa_cons (pe_cmpR op_eq (pv 4) pe_str (nomark _)) pa_nil)) (fun _ _ => rfl)) pa_nil))) pa_nil)))))))))))), ?_⟩
    have small : ∀ z : Int, z.natAbs < 512 → z.natAbs.log2 < 9000 := fun z hz => by
      have := Nat.log2_le_self z.natAbs
      omega
    have hpos : 0 < ks.length := List.length_pos_iff.mpr hne
    walk_at "rd"
    refine st_lenL hk ?_
    walk_at "rd"
    refine ⟨b, l, _, rfl, hB, by rw [List.length_map]; omega, small _ (by rw [List.length_map]; omega), fun r H1 d1 r0 r1 => ?_⟩
    rw [List.length_map] at r1
    obtain ⟨j, rfl⟩ : ∃ j : Nat, r = (j : Int) := ⟨r.toNat, by omega⟩
    have hj : j < ks.length := by omega
    have hk1 : H1 kl = some (.lst (ks.map V.str)) := d1.1 kl _ hk (by simp; exact ⟨nkb, nkl⟩)
    refine st_ixL hk1 (atI_nat (map_at (List.getElem?_eq_getElem hj))) ?_
    have hin : ks[j] ∈ ks := List.getElem_mem hj
    have hw7 := hw _ hin
    generalize ks[j] = s at hin hw7
    have mk1 : ∀ (H2 : Hp) (p : Addr) (s' : Str) (i : Nat), H2 p = some (.tup [.str s', .int (i : Int)]) → Im H2 (.tuple [.str s', .int (i : Int)]) (.ref p) := fun H2 p s' i hp => im_tup hp (iml_cons im_str (iml_cons im_int iml_nil))
    simp only [words7, List.mem_cons, List.not_mem_nil, or_false] at hw7
    rcases hw7 with rfl | rfl | rfl | rfl | rfl | rfl | rfl
    case inr.inr.inr.inr.inl =>
      walk_at "rd"
      refine st_newT (by simp) fun p H2 np e2 hp => ?_
      exact q .wait _ H2 (d1.ex e2) trivial hin (im_tup hp (iml_cons im_str iml_nil))
    all_goals walk_at "rd"
    all_goals refine st_newT (by simp) fun p H2 np e2 hp => ?_
    all_goals refine st_in2 hp ?_
    all_goals walk_at "rd"
    all_goals refine ⟨b, l, _, rfl, d1.2.2.ex e2, by omega, small _ (by omega), fun r3 H3 d3 r30 r31 => ?_⟩
    all_goals obtain ⟨x, rfl⟩ : ∃ x : Nat, r3 = (x : Int) := ⟨r3.toNat, by omega⟩
    all_goals walk_at "rd"
    all_goals have d3' := (d1.ex e2).trans d3
    case inr.inr.inl =>
      refine st_newT (by simp) fun p3 H4 np4 e4 hp4 => ?_
      exact q (.say x) _ H4 (d3'.ex e4) (show x < cells by omega) hin (im_tup hp4 (iml_cons im_str (iml_cons im_int iml_nil)))
    case inr.inr.inr.inl =>
      refine st_newT (by simp) fun p3 H4 np4 e4 hp4 => ?_
      exact q (.start x) _ H4 (d3'.ex e4) (show x < n by omega) hin (im_tup hp4 (iml_cons im_str (iml_cons im_int iml_nil)))
    case inr.inr.inr.inr.inr.inl =>
      refine st_newT (by simp) fun p3 H4 np4 e4 hp4 => ?_
      exact q (.clean x) _ H4 (d3'.ex e4) (show x < cells / 4 by omega) hin (im_tup hp4 (iml_cons im_str (iml_cons im_int iml_nil)))
    case inr.inr.inr.inr.inr.inr =>
      refine st_newT (by simp) fun p3 H4 np4 e4 hp4 => ?_
      exact q (.drop x) _ H4 (d3'.ex e4) (show x < cells / 4 by omega) hin (im_tup hp4 (iml_cons im_str (iml_cons im_int iml_nil)))
    all_goals refine st_newL (by simp) fun p4 H4 np4 e4 hp4 => ?_
    all_goals walk_at "rd"
    case inl =>
      refine st_ixL hp4 (atI_nat (j := 0) rfl) ?_
      walk_at "rd"
      refine ⟨b, l, 10, rfl, d3.2.2.ex e4, by decide, by decide, fun r5 H5 d5 r50 r51 => ?_⟩
      obtain ⟨y, rfl⟩ : ∃ y : Nat, r5 = (y : Int) := ⟨r5.toNat, by omega⟩
      walk_at "rd"
      refine st_newT (by simp) fun p6 H6 np6 e6 hp6 => ?_
      exact q (.set x y) _ H6 (((d3'.ex e4).trans d5).ex e6) (show x < cells ∧ y ≤ 9 by omega) hin (im_tup hp6 (iml_cons im_str (iml_cons im_int (iml_cons im_int iml_nil))))
    case inr.inl =>
      refine st_ixL hp4 (atI_nat (j := 1) rfl) ?_
      walk_at "rd"
      refine ⟨b, l, _, rfl, d3.2.2.ex e4, by omega, small _ (by omega), fun r5 H5 d5 r50 r51 => ?_⟩
      obtain ⟨y, rfl⟩ : ∃ y : Nat, r5 = (y : Int) := ⟨r5.toNat, by omega⟩
      walk_at "rd"
      refine st_newT (by simp) fun p6 H6 np6 e6 hp6 => ?_
      exact q (.add x y) _ H6 (((d3'.ex e4).trans d5).ex e6) (show x < cells ∧ y < cells by omega) hin (im_tup hp6 (iml_cons im_str (iml_cons im_int (iml_cons im_int iml_nil))))
/-! ### _law_board -/
theorem sc__law_board : FnScope ["_law_box", "_law_lines", "_law_deeds", "_law_kinds_here", "_law_cells", "_law_memory", "_law_cell", "_law_many", "_law_orders", "_law_number", "_law_program", "_law_turn", "_law_deed_here", "_law_one"] ["_law_box", "_law_lines", "_law_deeds", "_law_kinds_here"] (defScope s__law_board) := ⟨rfl, rfl, rfl, by decide +kernel, rfl, by decide +kernel, by decide +kernel⟩
/-- what a drawn board is -/
structure Drawn (lines deeds : Nat) (ks : List Str) (bd : Bd) : Prop where
  good : Good bd
  lines : bd.mem.length ≤ 4 * lines
  deeds : bd.prog.length ≤ deeds
  ords : 1 ≤ bd.ords.length
  words : ∀ d ∈ bd.prog, d.raw.1 ∈ ks ∨ ∃ c, d = .say c
def sp_law_board : Sp := fun vs H Q _ => ∃ (b l kl : Addr) (lines deeds : Nat) (ks : List Str), vs = [.ref b, .int (lines : Int), .int (deeds : Int), .ref kl] ∧ BoxAt H b l ∧ H kl = some (.lst (ks.map V.str)) ∧ kl ≠ b ∧ kl ≠ l ∧ ks ≠ [] ∧ ks.length ≤ 100 ∧ (∀ s ∈ ks, s ∈ words7) ∧
  1 ≤ lines ∧ lines ≤ 4 ∧ deeds ≤ 60 ∧ ∀ (bd : Bd) v H', Dr b l H H' → Drawn lines deeds ks bd → Im H' (pyB bd.raw) v → Q v H'
theorem cal_law_board {P w base K mg c} (T : Txt K mg c) : Cal CX0 P w K mg base 3 "_law_board" sp_law_board := by
  obtain ⟨f, fd, F, m⟩ := T.F__law_board
  have c__law_take := cal_law_take (P := P) (w := w) (base := base) T
  have c__law_order := cal_law_order (P := P) (w := w) (base := base) T
  have c__law_deed := cal_law_deed (P := P) (w := w) (base := base) T
  refine cal_of F m (fun _ _ _ _ _ _ us hl => match us, hl with | [_, _, _, _], _ => rfl) sc__law_board (fun vs H Q E h => ?_) (fun cdv A outer s H vs Q E hr h => ?_)
  · obtain ⟨b, l, kl, x, n, ks, rfl, _⟩ := h
    rfl
  · obtain ⟨b, l, kl, lines, deeds, ks, rfl, hB, hk, nkb, nkl, hne, hkl, hw, l1, l4, hd60, q⟩ := h
    refine ⟨_, (pss_cons (ps_set (i := 4) sc__law_board.nd rfl (.inr rfl) (pe_op op_mul pe_int (pe_op op_add pe_int (pe_c c__law_take hr (by decide) (by rfl) (pa_cons (pv 0) (pa_cons (pv 1) pa_nil))))))
      (pss_cons (ps_set (i := 5) sc__law_board.nd rfl (.inl rfl) (pe_callTy c_tuple (by rfl) T.tuple (by decide +kernel) (pa_cons (pe_lc (own := [("_law_cell", 6)]) (g := (gName 6)) (tt := tYes) (te := (tCall sp_law_take [] L2.E0 (tCons (tVar 0) (tCons (tC (.int 10)) tNil)))) rfl sc__law_board.nd (pi_range1 rfl T.range (pa_cons (pv 4) pa_nil)) (blkOk_by (N := ["_law_box", "_law_lines", "_law_deeds", "_law_kinds_here", "_law_cells", "_law_memory", "_law_cell", "_law_many", "_law_orders", "_law_number", "_law_program", "_law_turn", "_law_deed_here", "_law_one"]) (sc := defScope s__law_board) (own := [("_law_cell", 6)]) (by decide +kernel)) (fun _ _ _ _ _ => (pg_name (i := 6) sc__law_board.nd rfl (.inl rfl))) (fun _ _ _ _ _ => pts_nil) (fun _ _ _ _ _ => (pe_c c__law_take hr (by decide) (by rfl) (pa_cons (pv 0) (pa_cons pe_int pa_nil))))) pa_nil)))
      (pss_cons (ps_set (i := 7) sc__law_board.nd rfl (.inr rfl) (pe_op op_add pe_int (pe_c c__law_take hr (by decide) (by rfl) (pa_cons (pv 0) (pa_cons pe_int pa_nil)))))
      (pss_cons (ps_set (i := 8) sc__law_board.nd rfl (.inl rfl) (pe_callTy c_tuple (by rfl) T.tuple (by decide +kernel) (pa_cons (pe_lc (own := [("_law_number", 9)]) (g := (gName 9)) (tt := tYes) (te := (tCall sp_law_order [] L2.E0 (tCons (tVar 0) (tCons (tVar 4) (tCons (tVar 9) (tCons (tVar 7) tNil)))))) rfl sc__law_board.nd (pi_range1 rfl T.range (pa_cons (pv 7) pa_nil)) (blkOk_by (N := ["_law_box", "_law_lines", "_law_deeds", "_law_kinds_here", "_law_cells", "_law_memory", "_law_cell", "_law_many", "_law_orders", "_law_number", "_law_program", "_law_turn", "_law_deed_here", "_law_one"]) (sc := defScope s__law_board) (own := [("_law_number", 9)]) (by decide +kernel)) (fun _ _ _ _ _ => (pg_name (i := 9) sc__law_board.nd rfl (.inl rfl))) (fun _ _ _ _ _ => pts_nil) (fun _ _ _ _ _ => (pe_c c__law_order hr (by decide) (by rfl) (pa_cons (pv 0) (pa_cons (pv 4) (pa_cons (pv 9) (pa_cons (pv 7) pa_nil))))))) pa_nil)))
      (pss_cons (ps_set (i := 10) sc__law_board.nd rfl (.inl rfl) (pe_lst pa_nil))
      (pss_cons (ps_for PassesOwn.never rfl (pi_range1 rfl T.range (pa_cons (pe_c c__law_take hr (by decide) (by rfl) (pa_cons (pv 0) (pa_cons (pe_op op_add (pv 2) pe_int) pa_nil))) pa_nil)) (pg_name (i := 11) sc__law_board.nd rfl (.inl rfl))
      (pss_cons (ps_set (i := 12) sc__law_board.nd rfl (.inl rfl) (pe_c c__law_deed hr (by decide) (by rfl) (pa_cons (pv 0) (pa_cons (pv 4) (pa_cons (pv 7) (pa_cons (pv 3) pa_nil))))))
      (pss_cons (ps_if (PW.pt (pw_and (pt_cmpR op_eq (pe_ix ix_tup (pv 12) pe_int (fun _ _ => rfl)) pe_str (nomark _)) (pw_and1 (pt_cmpR op_eq (pe_callB c_len (by rfl) T.len PySem.boot_len (pa_cons (pe_lc (own := [("_law_one", 13)]) (g := (gName 13)) (tt := (tTest (tOp rEq (tOp (rIxT K) (tVar 13) (tC (.int 0))) (tC (.str "start"))))) (te := (tVar 13)) rfl sc__law_board.nd (pi_list (pv 10)) (blkOk_by (N := ["_law_box", "_law_lines", "_law_deeds", "_law_kinds_here", "_law_cells", "_law_memory", "_law_cell", "_law_many", "_law_orders", "_law_number", "_law_program", "_law_turn", "_law_deed_here", "_law_one"]) (sc := defScope s__law_board) (own := [("_law_one", 13)]) (by decide +kernel)) (fun _ _ _ _ _ => (pg_name (i := 13) sc__law_board.nd rfl (.inl rfl))) (fun _ _ _ _ _ => (pts_one (pt_cmpR op_eq (pe_ix ix_tup (pv 13) pe_int (fun _ _ => rfl)) pe_str (nomark _)))) (fun _ _ _ _ _ => (pv 13))) pa_nil)) pe_int (nomark _))))) (pss_one (ps_set (i := 12) sc__law_board.nd rfl (.inl rfl) (pe_tup (pa_cons pe_str (pa_cons (pe_c c__law_take hr (by decide) (by rfl) (pa_cons (pv 0) (pa_cons (pv 4) pa_nil))) pa_nil))))) pss_nil)
      (pss_one (ps_expr (pe_bm PySem.F.plainAttrs_list PySem.F.slot_list_append PySem.F.type_list_append mt_append (pv 10) (pa_cons (pv 12) pa_nil)))))))
      (pss_one (ps_ret (pe_tup (pa_cons (pv 5) (pa_cons (pv 8) (pa_cons (pe_callTy c_tuple (by rfl) T.tuple (by decide +kernel) (pa_cons (pv 10) pa_nil)) pa_nil)))))))))))), ?_⟩
    have small : ∀ z : Int, z.natAbs < 512 → z.natAbs.log2 < 9000 := fun z hz => by
      have := Nat.log2_le_self z.natAbs
      omega
    have nbl : ∀ {D : Addr}, H D = none → D ≠ b ∧ D ≠ l := fun {D} hD => by
      obtain ⟨_, h, _⟩ := hB.box
      obtain ⟨_, h2⟩ := hB.nums
      exact ⟨fun z => (by rw [z, h] at hD; cases hD), fun z => (by rw [z, h2] at hD; cases hD)⟩
    have free : ∀ {H1 : Hp} {D : Addr}, Dr b l H H1 → H1 D = none → H D = none := fun {H1 D} d hD => by
      cases e : H D with
      | none => rfl
      | some o =>
        by_cases hm : D ∈ [b, l]
        · obtain ⟨_, h, _⟩ := d.2.2.box
          obtain ⟨_, h2⟩ := d.2.2.nums
          simp only [List.mem_cons, List.not_mem_nil, or_false] at hm
          rcases hm with rfl | rfl
          · rw [h] at hD; cases hD
          · rw [h2] at hD; cases hD
        · rw [d.1 D o e hm] at hD
          cases hD
    walk_at "rd"
    refine ⟨b, l, _, rfl, hB, by omega, small _ (by omega), fun r H1 d1 r0 r1 => ?_⟩
    obtain ⟨k, rfl⟩ : ∃ k : Nat, r = (k : Int) := ⟨r.toNat, by omega⟩
    walk_at "rd"
    refine st_mul (.inl ⟨by decide, by decide⟩) ?_
    walk_at "rd"
    have ecells : (4 : Int) * (1 + (k : Int)) = ((4 * (1 + k) : Nat) : Int) := by omega
    rw [ecells]
    have hk4 : k < 4 := by omega
    have hkl' : k < lines := by omega
    generalize hc : 4 * (1 + k) = cells
    -- memory
    refine st_lcRange (n := cells) (by omega) fun D H2 nD e2 hD => ?_
    have nD0 := free d1 nD
    refine ⟨fun i H' => ∃ ns : List Int, ns.length = i ∧ (∀ n ∈ ns, 0 ≤ n ∧ n ≤ 9) ∧ Dr b l H H' ∧ H' D = some (.lst (ns.map V.int)), ⟨[], rfl, by simp, d1.ex e2, hD⟩, fun i H' hi hp => ?_, fun H' hp => ?_⟩
    · obtain ⟨ns, h1, h2, h3, h4⟩ := hp
      show gName 6 _ _ _ _
      walk_at "rd"
      refine ⟨rfl, ?_⟩
      walk_at "rd"
      refine ⟨b, l, 10, rfl, h3.2.2, by decide, by decide, fun r H3 d3 r0 r1 => ?_⟩
      have h4' : H3 D = some (.lst (ns.map V.int)) := d3.1 D _ h4 (by simp; exact nbl nD0)
      refine st_lcPut h4' (by rw [List.length_map]; omega) fun H4 f4 k4 h5 => ?_
      refine ⟨ns ++ [r], by simp [h1], ?_, Dr.put hB (h3.trans d3) nD0 f4 k4, by rw [h5, List.map_append]; rfl⟩
      intro n hn
      rcases List.mem_append.mp hn with hn | hn
      · exact h2 n hn
      · rw [List.mem_singleton.mp hn]
        omega
    obtain ⟨mem, hmem, hdig, d2, hD2⟩ := hp
    walk_at "rd"
    refine st_tupL hD2 fun tm H3 ntm e3 htm => ?_
    have d3 := d2.ex e3
    walk_at "rd"
    refine ⟨b, l, 4, rfl, d3.2.2, by decide, by decide, fun r H4 d4 r0 r1 => ?_⟩
    obtain ⟨k2, rfl⟩ : ∃ k2 : Nat, r = (k2 : Int) := ⟨r.toNat, by omega⟩
    walk_at "rd"
    have emany : (1 : Int) + (k2 : Int) = ((1 + k2 : Nat) : Int) := by omega
    rw [emany]
    have hm4 : 1 + k2 ≤ 4 := by omega
    have hm1 : 1 ≤ 1 + k2 := by omega
    generalize hmn : 1 + k2 = many at hm4 hm1
    have d34 := d3.trans d4
    -- orders
    refine st_lcRange (n := many) (by omega) fun D2 H5 nD2 e5 hD5 => ?_
    have nD20 := free d34 nD2
    refine ⟨fun i H' => ∃ (os : List Ord) (xs : List V), os.length = i ∧ (∀ j o, os[j]? = some o → 1 ≤ o.many ∧ o.many ≤ 8 ∧ o.src + o.many ≤ cells ∧ o.dst + o.many ≤ cells ∧ ∀ k, o.later = some k → j < k ∧ k < many) ∧ Dr b l H H' ∧ Kp H3 H' ∧ H' D2 = some (.lst xs) ∧ ImL H' ((os.map Ord.raw).map pyOrd) xs,
      ⟨[], [], rfl, by simp, d34.ex e5, d4.2.1.trans e5.kp, hD5, iml_nil⟩, fun i H' hi hp => ?_, fun H' hp => ?_⟩
    · obtain ⟨os, xs, h1, h2, h3, hkp, h4, h5⟩ := hp
      show gName 9 _ _ _ _
      walk_at "rd"
      refine ⟨rfl, ?_⟩
      walk_at "rd"
      refine ⟨b, l, cells, i, many, rfl, h3.2.2, by omega, by omega, hi, hm4, fun o v H6 d6 o1 o2 o3 o4 o5 hv => ?_⟩
      have h4' : H6 D2 = some (.lst xs) := d6.1 D2 _ h4 (by simp; exact nbl nD20)
      refine st_lcPut h4' (by rw [h5.length, List.length_map, List.length_map]; omega) fun H7 f7 k7 h7 => ?_
      refine ⟨os ++ [o], xs ++ [v], by simp [h1], ?_, Dr.put hB (h3.trans d6) nD20 f7 k7, (hkp.trans d6.2.1).trans k7, h7, ?_⟩
      · intro j o' hj
        by_cases hj' : j < os.length
        · rw [List.getElem?_append_left hj'] at hj
          exact h2 j o' hj
        · rw [List.getElem?_append_right (by omega)] at hj
          have hz : j - os.length = 0 := by
            cases e : j - os.length with
            | zero => rfl
            | succ n => rw [e] at hj; simp at hj
          rw [hz] at hj
          simp at hj
          subst hj
          have : j = i := by omega
          subst this
          exact ⟨o1, o2, o3, o4, o5⟩
      · rw [List.map_append, List.map_append]
        exact ((h5.kp d6.2.1).kp k7).append (iml_cons (hv.kp k7) iml_nil)
    obtain ⟨os, xs, hos, hok, d5, hkp5, hD2', hos'⟩ := hp
    walk_at "rd"
    refine st_tupL hD2' fun to H6 nto e6 hto => ?_
    have d6 := d5.ex e6
    walk_at "rd"
    refine st_newL (by simp) fun pl H7 npl e7 hpl => ?_
    have d7 := d6.ex e7
    have npl0 := free d6 npl
    have kl7 : H7 kl = some (.lst (ks.map V.str)) := d7.1 kl _ hk (by simp; exact ⟨nkb, nkl⟩)
    walk_at "rd"
    refine ⟨b, l, _, rfl, d7.2.2, by omega, small _ (by omega), fun r H8 d8 r0 r1 => ?_⟩
    obtain ⟨turns, rfl⟩ : ∃ k2 : Nat, r = (k2 : Int) := ⟨r.toNat, by omega⟩
    have hpl8 : H8 pl = some (.lst []) := d8.1 pl _ hpl (by simp; exact nbl npl0)
    walk_at "rd"
    refine st_walkR (n := turns) (by omega) (fun i σ' H' => ∃ (p : List Deed) (ys : List V) (y1 y2 y3 y4 y5 : Option V), σ' = [some (.ref b), some (.int (lines : Int)), some (.int (deeds : Int)), some (.ref kl), some (.int (cells : Int)), some (.ref tm), y1, some (.int (many : Int)), some (.ref to), y2, some (.ref pl), y3, y4, y5] ∧
      p.length = i ∧ (∀ d ∈ p, d.Ok cells many) ∧ (p.filter Deed.isStart).length ≤ 3 ∧ (∀ d ∈ p, d.raw.1 ∈ ks ∨ ∃ c, d = .say c) ∧ Dr b l H H' ∧ Kp H7 H' ∧ H' pl = some (.lst ys) ∧ ImL H' ((p.map Deed.raw).map pyDeed) ys) ⟨[], [], _, _, _, _, _, rfl, rfl, by simp, by simp, by simp, d7.trans d8, d8.2.1, hpl8, iml_nil⟩ (fun i σ' H' hi hp => ?_) (fun σ' H' hp => ?_)
    · obtain ⟨p, ys, y1, y2, y3, y4, y5, rfl, p1, p2, p3, p4, dd, kk, hp', hys⟩ := hp
      walk_at "rd"
      have klh : H' kl = some (.lst (ks.map V.str)) := dd.1 kl _ hk (by simp; exact ⟨nkb, nkl⟩)
      refine ⟨b, l, kl, cells, many, ks, rfl, dd.2.2, klh, nkb, nkl, hne, hkl, hw, by omega, by omega, hm1, hm4, fun d v H9 d9 ok inks hv => ?_⟩
      have hp9 : H9 pl = some (.lst ys) := d9.1 pl _ hp' (by simp; exact nbl npl0)
      have hys9 := hys.kp d9.2.1
      have hylen : ys.length = i := by rw [hys.length, List.length_map, List.length_map]; exact p1
      -- the deed is put
      have put : ∀ (d' : Deed) (v' : V) (H10 : Hp) (y4 y5 : Option V), Dr b l H9 H10 → Kp H9 H10 → H10 pl = some (.lst ys) → d'.Ok cells many → (d'.isStart = true → (p.filter Deed.isStart).length ≤ 2) → (d'.raw.1 ∈ ks ∨ ∃ c, d' = .say c) → Im H10 (pyDeed d'.raw) v' →
          ∀ H11, Fr [pl] H10 H11 → Kp H10 H11 → H11 pl = some (.lst (ys ++ [v'])) → ∃ (p : List Deed) (ys : List V) (z1 z2 z3 z4 z5 : Option V), ([some (.ref b), some (.int (lines : Int)), some (.int (deeds : Int)), some (.ref kl), some (.int (cells : Int)), some (.ref tm), y1, some (.int (many : Int)), some (.ref to), y2, some (.ref pl), some (.int (i : Int)), y4, y5] : L2.St) = [some (.ref b), some (.int (lines : Int)), some (.int (deeds : Int)), some (.ref kl), some (.int (cells : Int)), some (.ref tm), z1, some (.int (many : Int)), some (.ref to), z2, some (.ref pl), z3, z4, z5] ∧
            p.length = i + 1 ∧ (∀ d ∈ p, d.Ok cells many) ∧ (p.filter Deed.isStart).length ≤ 3 ∧ (∀ d ∈ p, d.raw.1 ∈ ks ∨ ∃ c, d = .say c) ∧ Dr b l H H11 ∧ Kp H7 H11 ∧ H11 pl = some (.lst ys) ∧ ImL H11 ((p.map Deed.raw).map pyDeed) ys := by
        intro d' v' H10 y4 y5 d10 k10 hp10 ok' st' in' hv' H11 f11 k11 h11
        refine ⟨p ++ [d'], ys ++ [v'], _, _, _, _, _, rfl, by simp [p1], ?_, ?_, ?_, Dr.put hB ((dd.trans d9).trans d10) npl0 f11 k11, ((kk.trans d9.2.1).trans k10).trans k11, h11, ?_⟩
        · intro e he
          rcases List.mem_append.mp he with he | he
          · exact p2 e he
          · rw [List.mem_singleton.mp he]; exact ok'
        · rw [List.filter_append, List.length_append]
          cases hs : d'.isStart with
          | true =>
            have := st' hs
            simp [List.filter_cons, hs]
            omega
          | false =>
            simp [List.filter_cons, hs]
            omega
        · intro e he
          rcases List.mem_append.mp he with he | he
          · exact p4 e he
          · rw [List.mem_singleton.mp he]; exact in'
        · rw [List.map_append, List.map_append]
          exact ((hys9.kp k10).kp k11).append (iml_cons (hv'.kp k11) iml_nil)
      walk_at "rd"
      refine st_ixT_str hv (Kp.refl _) (atI_nat (j := 0) rfl) ?_
      walk_at "rd"
      have eS : decide (d.raw.1 = ("start" : Str)) = d.isStart := isStart_raw d
      rw [eS]
      refine st_B (fun h => ?_) (fun h => ?_)
      · walk_at "rd"
        refine st_lcList (SqL.of hp9) fun D3 H10 nD3 e10 hD3 => ?_
        refine ⟨fun j H11 => ∃ acc, Ex H9 H11 ∧ H11 D3 = some (.lst acc) ∧ acc.length = ((p.take j).filter Deed.isStart).length, ⟨[], e10, hD3, by simp⟩, fun j H11 hh => ?_, fun j v1 H11 hv1 hh => ?_, fun H11 hh => ?_⟩
        · obtain ⟨_, e, _⟩ := hh
          exact SqL.of (e _ _ hp9)
        · obtain ⟨acc, e11, hacc, hlen⟩ := hh
          obtain ⟨dd1, g1, g2⟩ := hys9.get' hv1
          obtain ⟨dr, g3, rfl⟩ := map_at' g1
          obtain ⟨dj, g4, rfl⟩ := map_at' g3
          show gName 13 _ _ _ _
          walk_at "rd"
          refine ⟨rfl, ?_⟩
          walk_at "rd"
          refine st_ixT_str (g2.ex e11) (Kp.refl _) (atI_nat (j := 0) rfl) ?_
          walk_at "rd"
          have eS2 : decide (dj.raw.1 = ("start" : Str)) = dj.isStart := isStart_raw dj
          rw [eS2]
          have ht : p.take (j + 1) = p.take j ++ [dj] := by rw [List.take_add_one, g4]; rfl
          refine st_B (fun hs => ?_) (fun hs => ?_)
          · walk_at "rd"
            have : ((p.take j).filter Deed.isStart).length ≤ p.length := Nat.le_trans (List.length_filter_le _ _) (by rw [List.length_take]; omega)
            refine st_lcPut hacc (by omega) fun H12 f12 k12 h12 => ?_
            refine ⟨acc ++ [v1], Fr.ex e11 (fun a ha => by rw [List.mem_singleton.mp ha]; exact nD3) f12, h12, ?_⟩
            rw [ht, List.filter_append, List.length_append, List.length_append, hlen]
            simp [List.filter_cons, hs]
          · refine ⟨acc, e11, hacc, ?_⟩
            rw [ht, List.filter_append, List.length_append, hlen]
            simp [List.filter_cons, hs]
        · obtain ⟨acc, e11, hacc, hlen⟩ := hh
          rw [hylen, ← p1, List.take_length] at hlen
          walk_at "rd"
          refine st_lenL hacc ?_
          walk_at "rd"
          have d11 := d9.2.2.ex e11
          refine st_D (fun h3 => ?_) (fun h3 => ?_)
          · walk_at "rd"
            refine ⟨b, l, _, rfl, d11, by omega, small _ (by omega), fun r H12 d12 r0 r1 => ?_⟩
            obtain ⟨cell, rfl⟩ : ∃ k2 : Nat, r = (k2 : Int) := ⟨r.toNat, by omega⟩
            walk_at "rd"
            refine st_newT (by simp) fun t H13 nt e13 ht => ?_
            have hp13 : H13 pl = some (.lst ys) := e13 _ _ (d12.1 pl _ (e11 _ _ hp9) (by simp; exact nbl npl0))
            walk_at "rd"
            refine tyL hp13 ?_
            walk_at "rd"
            refine st_app hp13 (sz_lt (by omega)) fun H14 f14 k14 h14 => ?_
            exact put (.say cell) _ H13 _ _ (((Dr.start d9.2.2).ex e11).trans (d12.ex e13)) ((e11.kp.trans d12.2.1).trans e13.kp) hp13 (show cell < cells by omega) (fun z => by cases z) (.inr ⟨cell, rfl⟩) (im_tup ht (iml_cons im_str (iml_cons im_int iml_nil))) H14 f14 k14 h14
          · walk_at "rd"
            refine tyL (e11 _ _ hp9) ?_
            walk_at "rd"
            refine st_app (e11 _ _ hp9) (sz_lt (by omega)) fun H14 f14 k14 h14 => ?_
            exact put d _ H11 _ _ ((Dr.start d9.2.2).ex e11) e11.kp (e11 _ _ hp9) ok (fun _ => by omega) (.inl inks) (hv.ex e11) H14 f14 k14 h14
      · walk_at "rd"
        refine tyL hp9 ?_
        walk_at "rd"
        refine st_app hp9 (sz_lt (by omega)) fun H14 f14 k14 h14 => ?_
        exact put d _ H9 _ _ (Dr.start d9.2.2) (Kp.refl _) hp9 ok (fun z => by rw [h] at z; cases z) (.inl inks) hv H14 f14 k14 h14
    · obtain ⟨p, ys, y1, y2, y3, y4, y5, rfl, p1, p2, p3, p4, dd, kk, hp', hys⟩ := hp
      walk_at "rd"
      refine st_tupL hp' fun tp H9 ntp e9 htp => ?_
      walk_at "rd"
      refine st_newT (by simp) fun t H10 nt e10 ht => ?_
      have hmem' : Im H3 (pyMem mem) (.ref tm) := im_tup htm (ImL.ints.mpr rfl)
      have hord' : Im H6 (pyOrds (os.map Ord.raw)) (.ref to) := im_tup hto (hos'.ex e6)
      refine q ⟨mem, os, p⟩ _ H10 ((dd.ex e9).ex e10) ⟨⟨?_, ?_, hdig, by show os.length ≤ 4; omega, ⟨?_⟩, by show p.length ≤ 60; omega, ?_, p3⟩, by show mem.length ≤ _; omega, by show p.length ≤ _; omega, by show 1 ≤ os.length; omega, p4⟩ ?_
      · show mem.length % 4 = 0
        omega
      · show 1 ≤ mem.length / 4 ∧ mem.length / 4 ≤ 4
        omega
      · intro i o ho
        show _ ∧ _ ∧ o.src + o.many ≤ mem.length ∧ o.dst + o.many ≤ mem.length ∧ ∀ l, o.later = some l → i < l ∧ l < os.length
        rw [hmem, hos]
        exact hok i o ho
      · intro d hd
        show d.Ok mem.length os.length
        rw [hmem, hos]
        exact p2 d hd
      · refine im_tup ht (iml_cons (hmem'.kp ?_) (iml_cons (hord'.kp ?_) (iml_cons ?_ iml_nil)))
        · exact (((hkp5.trans e6.kp).trans e7.kp).trans kk).trans (e9.kp.trans e10.kp)
        · exact (e7.kp.trans kk).trans (e9.kp.trans e10.kp)
        · exact (im_tup htp (hys.ex e9)).ex e10
/-! ### _law_text -/
open TL (tl len_tl ext_tl)
theorem sc__law_text : FnScope ["_law_board_here", "_law_text_here", "_law_number", "_law_order_here", "_law_deed_here"] ["_law_board_here"] (defScope s__law_text) := ⟨rfl, rfl, rfl, by decide +kernel, rfl, by decide +kernel, by decide +kernel⟩
def sp_law_text : Sp := fun vs H Q _ => ∃ (x : V) (b : Bd), vs = [x] ∧ Im H (pyB b.raw) x ∧ Good b ∧ ∀ H', Ex H H' → Q (.str (textOf b.raw)) H'
theorem cal_law_text {P w base K mg c} (T : Txt K mg c) : Cal CX0 P w K mg base 1 "_law_text" sp_law_text := by
  obtain ⟨f, fd, F, m⟩ := T.F__law_text
  refine cal_of F m (fun _ _ _ _ _ _ us hl => match us, hl with | [_], _ => rfl) sc__law_text (fun vs H Q E h => ?_) (fun cdv A outer s H vs Q E hr h => ?_)
  · obtain ⟨x, b, rfl, _⟩ := h
    rfl
  · obtain ⟨x, b, rfl, hx, g, q⟩ := h
    have h4 := g.lines
    have h60 := g.len
    have ho4 := g.ords
    have sm := g.sm
    have hm19 : b.raw.mem.length ≤ 19 := by
      show b.mem.length ≤ 19
      omega
    have hrow : (rowsW b.raw).length ≤ 100 := by
      rw [rowsW_len]
      show 1 + (b.ords.map Ord.raw).length + (b.prog.map Deed.raw).length ≤ 100
      rw [List.length_map, List.length_map]
      omega
    generalize b.raw = rb at *
    have hrl := rowsW_len rb
    have l1 : (" " : Str).length = 1 := by decide +kernel
    have ln : ("\n" : Str).length = 1 := by decide +kernel
    have lo : ("\norder" : Str).length = 6 := by decide +kernel
    have len500 : ∀ r, (∀ w ∈ r, OkW w) → r.length ≤ 20 → (rowT r).length ≤ 500 := fun r h1 h2 => by
      have := rowT_len h1
      have : r.length * 21 ≤ 20 * 21 := Nat.mul_le_mul_right _ h2
      omega
    have pre500 : ∀ (p : Str), (∃ r ∈ rowsW rb, p = rowT r) → p.length ≤ 500 := fun p ⟨r, hr, e⟩ => by
      rw [e]
      exact len500 r (sm.rows r hr) (sm.few hm19 r hr)
    refine ⟨_, (pss_cons (ps_set (i := 1) sc__law_text.nd rfl (.inl rfl) pe_str)
      (pss_cons (ps_for PassesOwn.never rfl (pi_tup (pe_ix ix_tup (pv 0) pe_int (fun _ _ => rfl))) (pg_name (i := 2) sc__law_text.nd rfl (.inl rfl))
      (pss_one (ps_set (i := 1) sc__law_text.nd rfl (.inl rfl) (pe_op o_addS (pe_op o_addS (pv 1) pe_str) (pe_callTy c_str (by rfl) T.str (by decide +kernel) (pa_cons (pv 2) pa_nil))))))
      (pss_cons (ps_for PassesOwn.never rfl (pi_tup (pe_ix ix_tup (pv 0) pe_int (fun _ _ => rfl))) (pg_name (i := 3) sc__law_text.nd rfl (.inl rfl))
      (pss_cons (ps_set (i := 1) sc__law_text.nd rfl (.inl rfl) (pe_op o_addS (pv 1) pe_str))
      (pss_one (ps_for PassesOwn.never rfl (pi_tup (pv 3)) (pg_name (i := 2) sc__law_text.nd rfl (.inl rfl))
      (pss_one (ps_set (i := 1) sc__law_text.nd rfl (.inl rfl) (pe_op o_addS (pe_op o_addS (pv 1) pe_str) (pe_ifExp (pt_cmpR o_isN (pv 2) pe_non (nomark _)) pe_str (pe_callTy c_str (by rfl) T.str (by decide +kernel) (pa_cons (pv 2) pa_nil))))))))))
      (pss_cons (ps_for PassesOwn.never rfl (pi_tup (pe_ix ix_tup (pv 0) pe_int (fun _ _ => rfl))) (pg_name (i := 4) sc__law_text.nd rfl (.inl rfl))
      (pss_one (ps_set (i := 1) sc__law_text.nd rfl (.inl rfl) (pe_op o_addS (pe_op o_addS (pv 1) pe_str) (pe_joinR pe_str (pe_op op_cat (pe_lst (pa_cons (pe_ix ix_tup (pv 4) pe_int (fun _ _ => rfl)) pa_nil)) (pe_lc (own := [("_law_number", 2)]) (g := (gName 2)) (tt := tYes) (te := (tCB rStrI (tCons (tVar 2) tNil))) rfl sc__law_text.nd (pi_tup (pe_slice sl_tupA (pv 4) (po_some pe_int) po_none)) (blkOk_by (N := ["_law_board_here", "_law_text_here", "_law_number", "_law_order_here", "_law_deed_here"]) (sc := defScope s__law_text) (own := [("_law_number", 2)]) (by decide +kernel)) (fun _ _ _ _ _ => (pg_name (i := 2) sc__law_text.nd rfl (.inl rfl))) (fun _ _ _ _ _ => pts_nil) (fun _ _ _ _ _ => (pe_callTy c_str (by rfl) T.str (by decide +kernel) (pa_cons (pv 2) pa_nil))))))))))
      (pss_one (ps_ret (pv 1))))))), ?_⟩
    walk_at "rd"
    refine st_ixT hx (Kp.refl _) (atI_nat (j := 0) rfl) fun vm hvm => ?_
    walk_at "rd"
    refine st_walkT hvm (Kp.refl _) (fun i σ' H' => ∃ y2, σ' = [some x, some (.str (rowT ("memory" :: (rb.mem.take i).map numS))), y2, none, none] ∧ Ex H H') ⟨none, by rw [List.take_zero, List.map_nil, rowT_one]; rfl, Ex.refl _⟩ (fun i σ' H' p => ?_) (fun i d v σ' H' hd p hv => ?_) (fun σ' H' p => ?_)
    · obtain ⟨_, _, e⟩ := p
      exact e.kp
    · obtain ⟨y2, rfl, e⟩ := p
      obtain ⟨n, hn, rfl⟩ := map_at' hd
      cases Im.int_iff.mp hv
      have hsn := sm.mem n (List.mem_of_getElem? hn)
      have hi : i < rb.mem.length := (List.getElem?_eq_some_iff.mp hn).1
      have l2 := len500 ("memory" :: (rb.mem.take i).map numS) (fun w hw => sm.wm w (by
        rcases List.mem_cons.mp hw with rfl | hw
        · exact List.mem_cons_self
        · obtain ⟨z, hz, rfl⟩ := List.mem_map.mp hw
          exact List.mem_cons_of_mem _ (List.mem_map_of_mem (List.mem_of_mem_take hz)))) (by rw [List.length_cons, List.length_map, List.length_take]; omega)
      walk_at "rd"
      refine st_addS (by omega) ?_
      walk_at "rd"
      refine st_str hsn ?_
      refine st_addS (by rw [len_app]; have := (okW_num hsn).len; omega) ?_
      walk_at "rd"
      rw [rowT_snoc, show (rb.mem.take (i + 1)).map numS = (rb.mem.take i).map numS ++ [numS n] by rw [List.take_add_one, hn, List.map_append]; rfl]
      exact ⟨_, rfl, e⟩
    · obtain ⟨y2, rfl, e⟩ := p
      rw [List.length_map, List.take_length]
      walk_at "rd"
      refine st_ixT hx e.kp (atI_nat (j := 1) rfl) fun vo hvo => ?_
      walk_at "rd"
      refine st_walkT hvo (Kp.refl _) (fun i σ' H'' => ∃ y2 y3, σ' = [some x, some (.str (Txt.join "\n" ((wMem rb.mem :: (rb.ords.take i).map wOrd).map rowT))), y2, y3, none] ∧ Ex H' H'')
        ⟨_, _, by rw [List.take_zero, List.map_nil, List.map_cons, List.map_nil, join_one], Ex.refl _⟩ (fun i σ' H'' p => ?_) (fun i d v σ' H'' hd p hv => ?_) (fun σ' H'' p => ?_)
      · obtain ⟨_, _, _, e⟩ := p
        exact e.kp
      · obtain ⟨y2, y3, rfl, e2⟩ := p
        obtain ⟨o, ho, rfl⟩ := map_at' hd
        have hso := sm.ords o (List.mem_of_getElem? ho)
        have hwo := sm.wo (List.mem_of_getElem? ho)
        have hi : i < rb.ords.length := (List.getElem?_eq_some_iff.mp ho).1
        have hne : (wMem rb.mem :: (rb.ords.take i).map wOrd).map rowT ≠ [] := by simp
        have hps : ∀ p ∈ (wMem rb.mem :: (rb.ords.take i).map wOrd).map rowT, p.length ≤ 500 := fun p hp => by
          obtain ⟨r, hr, rfl⟩ := List.mem_map.mp hp
          refine pre500 _ ⟨r, ?_, rfl⟩
          rcases List.mem_cons.mp hr with rfl | hr
          · exact List.mem_cons_self
          · obtain ⟨z, hz, rfl⟩ := List.mem_map.mp hr
            exact List.mem_cons_of_mem _ (List.mem_append_left _ (List.mem_map_of_mem (List.mem_of_mem_take hz)))
        have hpl : ((wMem rb.mem :: (rb.ords.take i).map wOrd).map rowT).length ≤ 99 := by
          rw [List.length_map, List.length_cons, List.length_map, List.length_take]
          omega
        have e3 : (rb.ords.take (i + 1)).map wOrd = (rb.ords.take i).map wOrd ++ [wOrd o] := by
          rw [List.take_add_one, ho, List.map_append]
          rfl
        have e4 : (wMem rb.mem :: (rb.ords.take (i + 1)).map wOrd).map rowT = (wMem rb.mem :: (rb.ords.take i).map wOrd).map rowT ++ [rowT (wOrd o)] := by
          rw [e3, ← List.cons_append, List.map_append]
          rfl
        rw [e4]
        generalize (wMem rb.mem :: (rb.ords.take i).map wOrd).map rowT = ps at *
        have lp := join_small hps (by omega)
        walk_at "rd"
        refine st_addS (by omega) ?_
        walk_at "rd"
        have e5 : Txt.join "\n" ps ++ ("\norder" : Str) = Txt.join "\n" (ps ++ [rowT ["order"]]) := by
          rw [nl_order, rowT_one, ← join_snoc hne]
          refine ext_tl ?_
          simp only [TL.tl_append, List.append_assoc]
        rw [e5]
        have hq : ∀ k, (rowT ("order" :: ([numS o.1, numS o.2.1, numS o.2.2.1, optS o.2.2.2].take k))).length ≤ 500 := fun k => len500 _ (fun w hw => hwo w (by
          rcases List.mem_cons.mp hw with rfl | hw
          · exact List.mem_cons_self
          · exact List.mem_cons_of_mem _ (List.mem_of_mem_take hw))) (by rw [List.length_cons, List.length_take]; simp only [List.length_cons, List.length_nil]; omega)
        refine st_walkT hv (Kp.refl _) (fun k σ' H3 => ∃ y2, σ' = [some x, some (.str (Txt.join "\n" (ps ++ [rowT ("order" :: ([numS o.1, numS o.2.1, numS o.2.2.1, optS o.2.2.2].take k))]))), y2, some v, none] ∧ Ex H'' H3)
          ⟨_, rfl, Ex.refl _⟩ (fun k σ' H3 p => ?_) (fun k d v' σ' H3 hd' p hv' => ?_) (fun σ' H3 p => ?_)
        · obtain ⟨_, _, e⟩ := p
          exact e.kp
        · obtain ⟨y2, rfl, e6⟩ := p
          obtain ⟨u, rfl, hu, es⟩ := sm_opt (List.mem_of_getElem? hd') hso hv'
          have hku : [numS o.1, numS o.2.1, numS o.2.2.1, optS o.2.2.2][k]? = some (optS u) := by
            have : ([PyData.int o.1, .int o.2.1, .int o.2.2.1, pyOpt o.2.2.2].map strD)[k]? = some (strD d) := map_at hd'
            rw [← es] at this
            rw [← this]
            show _ = [numS o.1, numS o.2.1, numS o.2.2.1, strD (pyOpt o.2.2.2)][k]?
            rw [strD_opt]
          have lj : (Txt.join "\n" (ps ++ [rowT ("order" :: ([numS o.1, numS o.2.1, numS o.2.2.1, optS o.2.2.2].take k))])).length ≤ 60000 := join_small (fun p hp => by
            rcases List.mem_append.mp hp with hp | hp
            · exact hps p hp
            · rw [List.mem_singleton.mp hp]
              exact hq k) (by rw [List.length_append]; simp only [List.length_cons, List.length_nil]; omega)
          have lu := (okW_opt hu).len
          have fin : Txt.join "\n" (ps ++ [rowT ("order" :: ([numS o.1, numS o.2.1, numS o.2.2.1, optS o.2.2.2].take k))]) ++ (" " : Str) ++ optS u = Txt.join "\n" (ps ++ [rowT ("order" :: ([numS o.1, numS o.2.1, numS o.2.2.1, optS o.2.2.2].take (k + 1)))]) := by
            rw [join_ext hne, join_ext hne, rowT_snoc, List.take_add_one, hku]
            rfl
          walk_at "rd"
          refine st_addS (by omega) ?_
          walk_at "rd"
          rw [vOpt_non]
          cases u with
          | none =>
            show (if true = true then _ else _)
            walk_at "rd"
            refine st_addS (by rw [len_app]; have : ("-" : Str).length ≤ 20 := lu; omega) ?_
            walk_at "rd"
            rw [← fin]
            exact ⟨_, rfl, e6⟩
          | some i' =>
            show (if false = true then _ else _)
            walk_at "rd"
            refine st_str (hu i' rfl) ?_
            refine st_addS (by rw [len_app]; have : (numS i').length ≤ 20 := lu; omega) ?_
            walk_at "rd"
            rw [← fin]
            exact ⟨_, rfl, e6⟩
        · obtain ⟨y2, rfl, e6⟩ := p
          exact ⟨_, _, rfl, e2.trans e6⟩
      · obtain ⟨y2, y3, rfl, e2⟩ := p
        rw [List.length_map, List.take_length]
        have E2 := e.trans e2
        walk_at "rd"
        refine st_ixT hx E2.kp (atI_nat (j := 2) rfl) fun vp hvp => ?_
        walk_at "rd"
        refine st_walkT hvp (Kp.refl _) (fun i σ' H3 => ∃ y2 y3 y4, σ' = [some x, some (.str (Txt.join "\n" ((wMem rb.mem :: (rb.ords.map wOrd ++ (rb.prog.take i).map wDeed)).map rowT))), y2, y3, y4] ∧ Ex H'' H3)
          ⟨_, _, _, by rw [List.take_zero, List.map_nil, List.append_nil], Ex.refl _⟩ (fun i σ' H3 p => ?_) (fun i d v σ' H3 hd p hv => ?_) (fun σ' H3 p => ?_)
        · obtain ⟨_, _, _, _, e⟩ := p
          exact e.kp
        · obtain ⟨y2, y3, y4, rfl, e3⟩ := p
          obtain ⟨dd, hd', rfl⟩ := map_at' hd
          obtain ⟨s1, s2, s3⟩ := sm.prog dd (List.mem_of_getElem? hd')
          have hwd := sm.wd (List.mem_of_getElem? hd')
          have hi : i < rb.prog.length := (List.getElem?_eq_some_iff.mp hd').1
          have hne : (wMem rb.mem :: (rb.ords.map wOrd ++ (rb.prog.take i).map wDeed)).map rowT ≠ [] := by simp
          have hps : ∀ p ∈ (wMem rb.mem :: (rb.ords.map wOrd ++ (rb.prog.take i).map wDeed)).map rowT, p.length ≤ 500 := fun p hp => by
            obtain ⟨r, hr, rfl⟩ := List.mem_map.mp hp
            refine pre500 _ ⟨r, ?_, rfl⟩
            rcases List.mem_cons.mp hr with rfl | hr
            · exact List.mem_cons_self
            · rcases List.mem_append.mp hr with hr | hr
              · exact List.mem_cons_of_mem _ (List.mem_append_left _ hr)
              · obtain ⟨z, hz, rfl⟩ := List.mem_map.mp hr
                exact List.mem_cons_of_mem _ (List.mem_append_right _ (List.mem_map_of_mem (List.mem_of_mem_take hz)))
          have hpl : ((wMem rb.mem :: (rb.ords.map wOrd ++ (rb.prog.take i).map wDeed)).map rowT).length ≤ 99 := by
            rw [List.length_map, List.length_cons, List.length_append, List.length_map, List.length_map, List.length_take]
            omega
          have e4 : (wMem rb.mem :: (rb.ords.map wOrd ++ (rb.prog.take (i + 1)).map wDeed)).map rowT = (wMem rb.mem :: (rb.ords.map wOrd ++ (rb.prog.take i).map wDeed)).map rowT ++ [rowT (wDeed dd)] := by
            rw [List.take_add_one, hd', List.map_append, ← List.append_assoc, ← List.cons_append, List.map_append]
            rfl
          rw [e4]
          generalize (wMem rb.mem :: (rb.ords.map wOrd ++ (rb.prog.take i).map wDeed)).map rowT = ps at *
          have lp := join_small hps (by omega)
          walk_at "rd"
          refine st_addS (by omega) ?_
          walk_at "rd"
          refine st_tM1 ?_
          walk_at "rd"
          refine tyS ?_
          walk_at "rd"
          refine st_ixT_str hv (Kp.refl _) (atI_nat (j := 0) rfl) ?_
          walk_at "rd"
          refine st_newL (by simp) fun b1 G1 m1 d1 g1 => ?_
          walk_at "rd"
          refine st_slFrom (k := 1) (hv.ex d1) (Kp.refl _) (by simp) fun vt Gt dt hvt => ?_
          refine st_lcStr (f := strD) hvt (Kp.refl _) (by simp; omega) (fun _ => rfl) (fun d v H' R hd e hv r => ?_) fun b2 G2 m2 d2 g2 => ?_
          · obtain ⟨n, hn, rfl⟩ := List.mem_map.mp hd
            cases Im.int_iff.mp hv
            walk_at "rd"
            exact st_str (s2 n hn) (r _ (Ex.refl _))
          refine tx_cat (d2 _ _ (dt _ _ g1)) g2 (by simp; omega) fun b3 G3 m3 d3 g3 => ?_
          have z := row_len hwd
          refine st_join (ys := wDeed dd) (SqL.of (by
            rw [g3]
            show some (HO.lst ([V.str dd.1] ++ ((dd.2.map PyData.int).map strD).map V.str)) = _
            rw [strD_ints]
            rfl)) (by
              have : (wDeed dd).length ≤ 3 := by rw [List.length_cons, List.length_map]; omega
              omega) ?_
          have l3 := len500 (wDeed dd) hwd (by rw [List.length_cons, List.length_map]; omega)
          refine st_addS (by rw [len_app]; show _ + (rowT (wDeed dd)).length ≤ _; omega) ?_
          walk_at "rd"
          rw [← join_snoc hne]
          exact ⟨_, _, _, rfl, ((e3.trans d1).trans (dt.trans d2)).trans d3⟩
        · obtain ⟨y2, y3, y4, rfl, e3⟩ := p
          rw [List.length_map, List.take_length]
          walk_at "rd"
          exact q H3 (E2.trans e3)
/-! ### _law_kinds -/
theorem sc__law_kinds : FnScope [] [] (defScope s__law_kinds) := ⟨rfl, rfl, rfl, by decide +kernel, rfl, by decide +kernel, by decide +kernel⟩
def kindsAll : List Str := ["set", "set", "add", "say", "say", "start", "start", "wait", "clean", "drop"]
def sp_law_kinds : Sp := fun vs H Q _ => vs = [] ∧ ∀ k H', H k = none → Ex H H' → H' k = some (.lst (kindsAll.map V.str)) → Q (.ref k) H'
theorem cal_law_kinds {P w base K mg c} (T : Txt K mg c) : Cal CX0 P w K mg base 1 "_law_kinds" sp_law_kinds := by
  obtain ⟨f, fd, F, m⟩ := T.F__law_kinds
  refine cal_of F m (fun _ _ _ _ _ _ us hl => match us, hl with | [], _ => rfl) sc__law_kinds (fun vs H Q E h => ?_) (fun cdv A outer s H vs Q E hr h => ?_)
  · obtain ⟨rfl, _⟩ := h
    rfl
  · obtain ⟨rfl, q⟩ := h
    refine ⟨_, (pss_one (ps_ret (pe_lst (pa_cons pe_str (pa_cons pe_str (pa_cons pe_str (pa_cons pe_str (pa_cons pe_str (pa_cons pe_str (pa_cons pe_str (pa_cons pe_str (pa_cons pe_str (pa_cons pe_str pa_nil))))))))))))), ?_⟩
    walk_at "rd"
    refine st_newL (by simp) fun k H1 nk e1 hk => ?_
    exact q k H1 nk e1 hk
/-! ### the law -/
theorem sc_law : FnScope ["_law_script", "_law_box", "_law_boards", "_law_turn", "_law_board_here", "_law_text_here"] ["_law_script"] (defScope s_law) := ⟨rfl, rfl, rfl, by decide +kernel, rfl, by decide +kernel, by decide +kernel⟩
def sp_law (K : PySem.W.Frag) : Sp := fun vs H Q _ => ∃ (a : Addr) (ns : List Int), vs = [.ref a] ∧ SqL K H a (ns.map V.int) ∧ ns.length ≤ 63 ∧ ∀ H', Q (.bl true) H'
theorem ok_law {P w base K mg c f fd} (T : Txt K mg c) (ct : CTxt w K mg) (F : Fun K "law" "law" s_law f fd) : FnOk P w K mg base CX0 13 f fd ["_law_script"] (sp_law K) := by
  have c__law_begun := cal_law_begun (P := P) (w := w) (base := base) T
  have c__law_kinds := cal_law_kinds (P := P) (w := w) (base := base) T
  have c__law_board := cal_law_board (P := P) (w := w) (base := base) T
  have c__law_text := cal_law_text (P := P) (w := w) (base := base) T
  have c__law_alike := cal_law_alike (P := P) (w := w) (base := base) T 12
  have c_written := cal_written (P := P) (w := w) (base := base) T
  have c_read_board := cal_read_board (P := P) (base := base) T ct
  refine F.ok sc_law (fun vs H Q E h => ?_) (fun cdv A outer s H vs Q E hr h => ?_)
  · obtain ⟨a, ns, rfl, _⟩ := h
    rfl
  · obtain ⟨a, ns, rfl, hS, hlen, q⟩ := h
    refine ⟨_, (pss_cons (ps_set (i := 1) sc_law.nd rfl (.inr rfl) (pe_c c__law_begun hr (by decide) (by rfl) (pa_cons (pv 0) pa_nil)))
      (pss_cons (ps_setLc (i := 2) (own := [("_law_turn", 3)]) (g := (gName 3)) (tt := tYes) (te := (tCall sp_law_board [] L2.E0 (tCons (tVar 1) (tCons (tC (.int 4)) (tCons (tC (.int 16)) (tCons (tCall sp_law_kinds [] L2.E0 tNil) tNil)))))) rfl sc_law.nd rfl rfl (sw_true rfl rfl rfl (by decide +kernel)) (pi_range1 rfl T.range (pa_cons pe_int pa_nil)) (blkOk_by (N := ["_law_script", "_law_box", "_law_boards", "_law_turn", "_law_board_here", "_law_text_here"]) (sc := defScope s_law) (own := [("_law_turn", 3)]) (by decide +kernel)) (fun _ _ _ _ _ => (pg_name (i := 3) sc_law.nd rfl (.inl rfl))) (fun _ _ _ _ _ => pts_nil) (fun _ _ _ _ _ => (pe_c c__law_board hr (by decide) (by rfl) (pa_cons (pv 1) (pa_cons pe_int (pa_cons pe_int (pa_cons (pe_c0 c__law_kinds hr (by decide) (by rfl)) pa_nil)))))))
      (pss_cons (ps_for PassesOwn.never rfl (pi_list (pe_op op_cat (pv 2) (pe_slice sl_list (pv 2) po_none (po_some pe_int)))) (pg_name (i := 4) sc_law.nd rfl (.inl rfl))
      (pss_cons (ps_set (i := 5) sc_law.nd rfl (.inl rfl) (pe_c c_written hr (by decide) (by rfl) (pa_cons (pv 4) pa_nil)))
      (pss_one (ps_if (PW.pt (pw_or (pt_not (pt_val (pe_c c__law_alike hr (by decide) (by rfl) (pa_cons (pv 5) (pa_cons (pe_c c__law_text hr (by decide) (by rfl) (pa_cons (pv 4) pa_nil)) pa_nil))))) (pw_or1 (pt_not (pt_val (pe_c c__law_alike hr (by decide) (by rfl) (pa_cons (pe_c c_read_board hr (by decide) (by rfl) (pa_cons (pv 5) pa_nil)) (pa_cons (pv 4) pa_nil)))))))) (pss_one (ps_ret pe_bl)) pss_nil))))
      (pss_one (ps_ret pe_bl))))), ?_⟩
    walk_at "rd"
    refine ⟨a, ns, rfl, hS, fun b l H1 e1 nb nl hB => ?_⟩
    walk_at "rd"
    refine st_lcRange (n := 2) (by decide) fun D H2 nD e2 hD => ?_
    have nDb : D ∉ [b, l] := fun z => by
      have := hB.new nD
      simp only [List.mem_cons, List.not_mem_nil, or_false, not_or] at z this
      rcases z with z | z
      · exact this.1 z
      · exact this.2 z
    refine ⟨fun i H' => ∃ (bds : List Bd) (xs : List V), bds.length = i ∧ (∀ bd ∈ bds, Good bd) ∧ Dr b l H1 H' ∧ H' D = some (.lst xs) ∧ ImL H' (bds.map fun bd => pyB bd.raw) xs,
      ⟨[], [], rfl, by simp, (Dr.start hB).ex e2, hD, iml_nil⟩, fun i H3 hi hp => ?_, fun H3 hp => ?_⟩
    · obtain ⟨bds, xs, h1, h2, h3, h5, h6⟩ := hp
      show gName _ _ _ _ _
      walk_at "rd"
      refine ⟨rfl, ?_⟩
      walk_at "rd"
      refine ⟨rfl, fun kl H4 nk e4 hk => ?_⟩
      walk_at "rd"
      have nkb := h3.2.2.new nk
      simp only [List.mem_cons, List.not_mem_nil, or_false, not_or] at nkb
      refine ⟨b, l, kl, 4, 16, kindsAll, rfl, h3.2.2.ex e4, hk, nkb.1, nkb.2, by decide, by decide, by decide, by decide, by decide, by decide, fun bd v H5 d5 hDr hv => ?_⟩
      have h5' : H5 D = some (.lst xs) := d5.1 D _ (e4 _ _ h5) nDb
      refine st_lcPut h5' (by rw [h6.length, List.length_map]; omega) fun H6 f6 k6 h7 => ?_
      refine ⟨bds ++ [bd], xs ++ [v], by simp [h1], fun z hz => ?_, Dr.put hB ((h3.ex e4).trans d5) nD f6 k6, h7, ?_⟩
      · rcases List.mem_append.mp hz with hz | hz
        · exact h2 z hz
        · rw [List.mem_singleton.mp hz]
          exact hDr.good
      · rw [List.map_append]
        exact (((h6.ex e4).kp d5.2.1).kp k6).append (iml_cons (hv.kp k6) iml_nil)
    · obtain ⟨bds, xs, h1, h2, h3, h5, h6⟩ := hp
      have hxl : xs.length = 2 := by rw [h6.length, List.length_map, h1]
      walk_at "rd"
      refine st_slL (zs := xs.take 1) h5 (by have := cut_to (xs := xs) (hi := 1) (by omega); exact this) fun s4 H4 n4 e4 h4 => ?_
      refine tx_cat (e4 _ _ h5) h4 (by rw [List.length_take]; omega) fun s5 H5 n5 e5 h5' => ?_
      refine st_walkL h5' (fun i σ' H' => ∃ y3 y4 y5, σ' = [some (.ref a), some (.ref b), some (.ref D), y3, y4, y5] ∧ Ex H5 H') ⟨_, _, _, rfl, Ex.refl _⟩ (fun i σ' H' p => ?_) (fun i v σ' H' hv p => ?_) (fun σ' H' p => ?_)
      · obtain ⟨_, _, _, _, e⟩ := p
        exact e _ _ h5'
      · obtain ⟨y3, y4, y5, rfl, e⟩ := p
        obtain ⟨bd, g, hx⟩ : ∃ bd, Good bd ∧ Im H' (pyB bd.raw) v := by
          have hm : v ∈ xs := by
            rcases List.mem_append.mp (List.mem_of_getElem? hv) with z | z
            · exact z
            · exact List.mem_of_mem_take z
          obtain ⟨j, hj⟩ := List.getElem?_of_mem hm
          obtain ⟨d, g1, g2⟩ := h6.get' hj
          obtain ⟨bd, hb, rfl⟩ := map_at' g1
          exact ⟨bd, h2 bd (List.mem_of_getElem? hb), g2.ex ((e4.trans e5).trans e)⟩
        walk_at "rd"
        refine ⟨v, bd, rfl, hx, g, fun H6 e6 => ?_⟩
        walk_at "rd"
        refine ⟨v, bd, rfl, hx.ex e6, g, fun H7 e7 => ?_⟩
        walk_at "rd"
        refine ⟨_, _, .str (textOf bd.raw), rfl, .str _, .str _, al_str g.sm.strOk, ?_⟩
        walk_at "rd"
        refine ⟨bd, rfl, g, fun v8 H8 e8 hv8 => ?_⟩
        walk_at "rd"
        refine ⟨v8, v, pyB bd.raw, rfl, hv8.dp _ _, (hx.ex ((e6.trans e7).trans e8)).dp _ _, tx_al_board (n := 8) g, ?_⟩
        walk_at "rd"
        exact ⟨_, _, _, rfl, e.trans ((e6.trans e7).trans e8)⟩
      · obtain ⟨y3, y4, y5, rfl, e⟩ := p
        walk_at "rd"
        exact q H'
end BC
namespace BC
open PySem PySem.Spec PyProof.Rows L2
theorem all_mk {l : PySem.W.OpenLaw} {w : World} {K : PySem.W.Frag} {h : Heap} {mg : Str → Option Value} {fa : Addr} (X : K.In h) (G : h.Ns mainGlobals mg) (hfa : mg "law" = some (.ref fa))
    {t_WIDE : Tok}
    {t_MOST_LINES : Tok}
    {t_MOST_DIGIT : Tok}
    {t_MOST_ORDERS : Tok}
    {t_MOST_CELLS : Tok}
    {t_MOST_DEEDS : Tok}
    {t_MOST_STARTS : Tok}
    {t_MOST_FIGURES : Tok}
    {t_FIGURES : Tok}
    {f_is_from : Addr} {od_is_from an_is_from : Option Addr} {sl_is_from : Array (Option Value)} {oc_is_from kV_is_from dc_is_from pm_is_from cd_is_from ct_is_from : Value}
    {f_lines_in : Addr} {od_lines_in an_lines_in : Option Addr} {sl_lines_in : Array (Option Value)} {oc_lines_in kV_lines_in dc_lines_in pm_lines_in cd_lines_in ct_lines_in : Value}
    {f_memory_fault : Addr} {od_memory_fault an_memory_fault : Option Addr} {sl_memory_fault : Array (Option Value)} {oc_memory_fault kV_memory_fault dc_memory_fault pm_memory_fault cd_memory_fault ct_memory_fault : Value}
    {f_is_order : Addr} {od_is_order an_is_order : Option Addr} {sl_is_order : Array (Option Value)} {oc_is_order kV_is_order dc_is_order pm_is_order cd_is_order ct_is_order : Value}
    {f_is_deed : Addr} {od_is_deed an_is_deed : Option Addr} {sl_is_deed : Array (Option Value)} {oc_is_deed kV_is_deed dc_is_deed pm_is_deed cd_is_deed ct_is_deed : Value}
    {f_check_board : Addr} {od_check_board an_check_board : Option Addr} {sl_check_board : Array (Option Value)} {oc_check_board kV_check_board dc_check_board pm_check_board cd_check_board ct_check_board : Value}
    {f_number_text : Addr} {od_number_text an_number_text : Option Addr} {sl_number_text : Array (Option Value)} {oc_number_text kV_number_text dc_number_text pm_number_text cd_number_text ct_number_text : Value}
    {f_written : Addr} {od_written an_written : Option Addr} {sl_written : Array (Option Value)} {oc_written kV_written dc_written pm_written cd_written ct_written : Value}
    {f_number_of : Addr} {od_number_of an_number_of : Option Addr} {sl_number_of : Array (Option Value)} {oc_number_of kV_number_of dc_number_of pm_number_of cd_number_of ct_number_of : Value}
    {f_row_of : Addr} {od_row_of an_row_of : Option Addr} {sl_row_of : Array (Option Value)} {oc_row_of kV_row_of dc_row_of pm_row_of cd_row_of ct_row_of : Value}
    {f_read_board : Addr} {od_read_board an_read_board : Option Addr} {sl_read_board : Array (Option Value)} {oc_read_board kV_read_board dc_read_board pm_read_board cd_read_board ct_read_board : Value}
    {f__law_begun : Addr} {od__law_begun an__law_begun : Option Addr} {sl__law_begun : Array (Option Value)} {oc__law_begun kV__law_begun dc__law_begun pm__law_begun cd__law_begun ct__law_begun : Value}
    {f__law_take : Addr} {od__law_take an__law_take : Option Addr} {sl__law_take : Array (Option Value)} {oc__law_take kV__law_take dc__law_take pm__law_take cd__law_take ct__law_take : Value}
    {f__law_alike : Addr} {od__law_alike an__law_alike : Option Addr} {sl__law_alike : Array (Option Value)} {oc__law_alike kV__law_alike dc__law_alike pm__law_alike cd__law_alike ct__law_alike : Value}
    {f__law_order : Addr} {od__law_order an__law_order : Option Addr} {sl__law_order : Array (Option Value)} {oc__law_order kV__law_order dc__law_order pm__law_order cd__law_order ct__law_order : Value}
    {f__law_deed : Addr} {od__law_deed an__law_deed : Option Addr} {sl__law_deed : Array (Option Value)} {oc__law_deed kV__law_deed dc__law_deed pm__law_deed cd__law_deed ct__law_deed : Value}
    {f__law_board : Addr} {od__law_board an__law_board : Option Addr} {sl__law_board : Array (Option Value)} {oc__law_board kV__law_board dc__law_board pm__law_board cd__law_board ct__law_board : Value}
    {f__law_text : Addr} {od__law_text an__law_text : Option Addr} {sl__law_text : Array (Option Value)} {oc__law_text kV__law_text dc__law_text pm__law_text cd__law_text ct__law_text : Value}
    {f__law_kinds : Addr} {od__law_kinds an__law_kinds : Option Addr} {sl__law_kinds : Array (Option Value)} {oc__law_kinds kV__law_kinds dc__law_kinds pm__law_kinds cd__law_kinds ct__law_kinds : Value}
    {f_law : Addr} {od_law an_law : Option Addr} {sl_law : Array (Option Value)} {oc_law kV_law dc_law pm_law cd_law ct_law : Value}
    {a_COUNTS : Addr} {es_COUNTS : Array DictEntry} {n_COUNTS : Nat}
    (z_len : PySem.W.nsIn K mainGlobals "len" = some none)
    (z_range : PySem.W.nsIn K mainGlobals "range" = some none)
    (z_min : PySem.W.nsIn K mainGlobals "min" = some none)
    (z_int : PySem.W.nsIn K mainGlobals "int" = some none)
    (z_list : PySem.W.nsIn K mainGlobals "list" = some none)
    (z_tuple : PySem.W.nsIn K mainGlobals "tuple" = some none)
    (z_enumerate : PySem.W.nsIn K mainGlobals "enumerate" = some none)
    (z_isinstance : PySem.W.nsIn K mainGlobals "isinstance" = some none)
    (z_bool : PySem.W.nsIn K mainGlobals "bool" = some none)
    (z_str : PySem.W.nsIn K mainGlobals "str" = some none)
    (z_all : PySem.W.nsIn K mainGlobals "all" = some none)
    (z_ValueError : PySem.W.nsIn K mainGlobals "ValueError" = some none)
    (v_WIDE : PySem.W.nsIn K mainGlobals "WIDE" = some (some (.int 4 t_WIDE)))
    (v_MOST_LINES : PySem.W.nsIn K mainGlobals "MOST_LINES" = some (some (.int 4 t_MOST_LINES)))
    (v_MOST_DIGIT : PySem.W.nsIn K mainGlobals "MOST_DIGIT" = some (some (.int 9 t_MOST_DIGIT)))
    (v_MOST_ORDERS : PySem.W.nsIn K mainGlobals "MOST_ORDERS" = some (some (.int 4 t_MOST_ORDERS)))
    (v_MOST_CELLS : PySem.W.nsIn K mainGlobals "MOST_CELLS" = some (some (.int 8 t_MOST_CELLS)))
    (v_MOST_DEEDS : PySem.W.nsIn K mainGlobals "MOST_DEEDS" = some (some (.int 60 t_MOST_DEEDS)))
    (v_MOST_STARTS : PySem.W.nsIn K mainGlobals "MOST_STARTS" = some (some (.int 3 t_MOST_STARTS)))
    (v_MOST_FIGURES : PySem.W.nsIn K mainGlobals "MOST_FIGURES" = some (some (.int 9 t_MOST_FIGURES)))
    (v_FIGURES : PySem.W.nsIn K mainGlobals "FIGURES" = some (some (.str "0123456789" t_FIGURES)))
    (a_is_from : PySem.W.nsIn K mainGlobals "is_from" = some (some (.ref f_is_from)))
    (l_is_from : K.lookup f_is_from = some ⟨oc_is_from, od_is_from, .func (PySem.W.fnOf "is_from" "is_from" (defArgs s_is_from) (defBody s_is_from) (defScope s_is_from) .none kV_is_from dc_is_from pm_is_from an_is_from cd_is_from ct_is_from), sl_is_from⟩)
    (c_is_from : PySem.W.codeIn K cd_is_from "is_from" = true)
    (k_is_from : PySem.W.keepIn K (.ref f_is_from) = true)
    (a_lines_in : PySem.W.nsIn K mainGlobals "lines_in" = some (some (.ref f_lines_in)))
    (l_lines_in : K.lookup f_lines_in = some ⟨oc_lines_in, od_lines_in, .func (PySem.W.fnOf "lines_in" "lines_in" (defArgs s_lines_in) (defBody s_lines_in) (defScope s_lines_in) .none kV_lines_in dc_lines_in pm_lines_in an_lines_in cd_lines_in ct_lines_in), sl_lines_in⟩)
    (c_lines_in : PySem.W.codeIn K cd_lines_in "lines_in" = true)
    (k_lines_in : PySem.W.keepIn K (.ref f_lines_in) = true)
    (a_memory_fault : PySem.W.nsIn K mainGlobals "memory_fault" = some (some (.ref f_memory_fault)))
    (l_memory_fault : K.lookup f_memory_fault = some ⟨oc_memory_fault, od_memory_fault, .func (PySem.W.fnOf "memory_fault" "memory_fault" (defArgs s_memory_fault) (defBody s_memory_fault) (defScope s_memory_fault) .none kV_memory_fault dc_memory_fault pm_memory_fault an_memory_fault cd_memory_fault ct_memory_fault), sl_memory_fault⟩)
    (c_memory_fault : PySem.W.codeIn K cd_memory_fault "memory_fault" = true)
    (k_memory_fault : PySem.W.keepIn K (.ref f_memory_fault) = true)
    (a_is_order : PySem.W.nsIn K mainGlobals "is_order" = some (some (.ref f_is_order)))
    (l_is_order : K.lookup f_is_order = some ⟨oc_is_order, od_is_order, .func (PySem.W.fnOf "is_order" "is_order" (defArgs s_is_order) (defBody s_is_order) (defScope s_is_order) .none kV_is_order dc_is_order pm_is_order an_is_order cd_is_order ct_is_order), sl_is_order⟩)
    (c_is_order : PySem.W.codeIn K cd_is_order "is_order" = true)
    (k_is_order : PySem.W.keepIn K (.ref f_is_order) = true)
    (a_is_deed : PySem.W.nsIn K mainGlobals "is_deed" = some (some (.ref f_is_deed)))
    (l_is_deed : K.lookup f_is_deed = some ⟨oc_is_deed, od_is_deed, .func (PySem.W.fnOf "is_deed" "is_deed" (defArgs s_is_deed) (defBody s_is_deed) (defScope s_is_deed) .none kV_is_deed dc_is_deed pm_is_deed an_is_deed cd_is_deed ct_is_deed), sl_is_deed⟩)
    (c_is_deed : PySem.W.codeIn K cd_is_deed "is_deed" = true)
    (k_is_deed : PySem.W.keepIn K (.ref f_is_deed) = true)
    (a_check_board : PySem.W.nsIn K mainGlobals "check_board" = some (some (.ref f_check_board)))
    (l_check_board : K.lookup f_check_board = some ⟨oc_check_board, od_check_board, .func (PySem.W.fnOf "check_board" "check_board" (defArgs s_check_board) (defBody s_check_board) (defScope s_check_board) .none kV_check_board dc_check_board pm_check_board an_check_board cd_check_board ct_check_board), sl_check_board⟩)
    (c_check_board : PySem.W.codeIn K cd_check_board "check_board" = true)
    (k_check_board : PySem.W.keepIn K (.ref f_check_board) = true)
    (a_number_text : PySem.W.nsIn K mainGlobals "number_text" = some (some (.ref f_number_text)))
    (l_number_text : K.lookup f_number_text = some ⟨oc_number_text, od_number_text, .func (PySem.W.fnOf "number_text" "number_text" (defArgs s_number_text) (defBody s_number_text) (defScope s_number_text) .none kV_number_text dc_number_text pm_number_text an_number_text cd_number_text ct_number_text), sl_number_text⟩)
    (c_number_text : PySem.W.codeIn K cd_number_text "number_text" = true)
    (k_number_text : PySem.W.keepIn K (.ref f_number_text) = true)
    (a_written : PySem.W.nsIn K mainGlobals "written" = some (some (.ref f_written)))
    (l_written : K.lookup f_written = some ⟨oc_written, od_written, .func (PySem.W.fnOf "written" "written" (defArgs s_written) (defBody s_written) (defScope s_written) .none kV_written dc_written pm_written an_written cd_written ct_written), sl_written⟩)
    (c_written : PySem.W.codeIn K cd_written "written" = true)
    (k_written : PySem.W.keepIn K (.ref f_written) = true)
    (a_number_of : PySem.W.nsIn K mainGlobals "number_of" = some (some (.ref f_number_of)))
    (l_number_of : K.lookup f_number_of = some ⟨oc_number_of, od_number_of, .func (PySem.W.fnOf "number_of" "number_of" (defArgs s_number_of) (defBody s_number_of) (defScope s_number_of) .none kV_number_of dc_number_of pm_number_of an_number_of cd_number_of ct_number_of), sl_number_of⟩)
    (c_number_of : PySem.W.codeIn K cd_number_of "number_of" = true)
    (k_number_of : PySem.W.keepIn K (.ref f_number_of) = true)
    (a_row_of : PySem.W.nsIn K mainGlobals "row_of" = some (some (.ref f_row_of)))
    (l_row_of : K.lookup f_row_of = some ⟨oc_row_of, od_row_of, .func (PySem.W.fnOf "row_of" "row_of" (defArgs s_row_of) (defBody s_row_of) (defScope s_row_of) .none kV_row_of dc_row_of pm_row_of an_row_of cd_row_of ct_row_of), sl_row_of⟩)
    (c_row_of : PySem.W.codeIn K cd_row_of "row_of" = true)
    (k_row_of : PySem.W.keepIn K (.ref f_row_of) = true)
    (a_read_board : PySem.W.nsIn K mainGlobals "read_board" = some (some (.ref f_read_board)))
    (l_read_board : K.lookup f_read_board = some ⟨oc_read_board, od_read_board, .func (PySem.W.fnOf "read_board" "read_board" (defArgs s_read_board) (defBody s_read_board) (defScope s_read_board) .none kV_read_board dc_read_board pm_read_board an_read_board cd_read_board ct_read_board), sl_read_board⟩)
    (c_read_board : PySem.W.codeIn K cd_read_board "read_board" = true)
    (k_read_board : PySem.W.keepIn K (.ref f_read_board) = true)
    (a__law_begun : PySem.W.nsIn K mainGlobals "_law_begun" = some (some (.ref f__law_begun)))
    (l__law_begun : K.lookup f__law_begun = some ⟨oc__law_begun, od__law_begun, .func (PySem.W.fnOf "_law_begun" "_law_begun" (defArgs s__law_begun) (defBody s__law_begun) (defScope s__law_begun) .none kV__law_begun dc__law_begun pm__law_begun an__law_begun cd__law_begun ct__law_begun), sl__law_begun⟩)
    (c__law_begun : PySem.W.codeIn K cd__law_begun "_law_begun" = true)
    (k__law_begun : PySem.W.keepIn K (.ref f__law_begun) = true)
    (a__law_take : PySem.W.nsIn K mainGlobals "_law_take" = some (some (.ref f__law_take)))
    (l__law_take : K.lookup f__law_take = some ⟨oc__law_take, od__law_take, .func (PySem.W.fnOf "_law_take" "_law_take" (defArgs s__law_take) (defBody s__law_take) (defScope s__law_take) .none kV__law_take dc__law_take pm__law_take an__law_take cd__law_take ct__law_take), sl__law_take⟩)
    (c__law_take : PySem.W.codeIn K cd__law_take "_law_take" = true)
    (k__law_take : PySem.W.keepIn K (.ref f__law_take) = true)
    (a__law_alike : PySem.W.nsIn K mainGlobals "_law_alike" = some (some (.ref f__law_alike)))
    (l__law_alike : K.lookup f__law_alike = some ⟨oc__law_alike, od__law_alike, .func (PySem.W.fnOf "_law_alike" "_law_alike" (defArgs s__law_alike) (defBody s__law_alike) (defScope s__law_alike) .none kV__law_alike dc__law_alike pm__law_alike an__law_alike cd__law_alike ct__law_alike), sl__law_alike⟩)
    (c__law_alike : PySem.W.codeIn K cd__law_alike "_law_alike" = true)
    (k__law_alike : PySem.W.keepIn K (.ref f__law_alike) = true)
    (a__law_order : PySem.W.nsIn K mainGlobals "_law_order" = some (some (.ref f__law_order)))
    (l__law_order : K.lookup f__law_order = some ⟨oc__law_order, od__law_order, .func (PySem.W.fnOf "_law_order" "_law_order" (defArgs s__law_order) (defBody s__law_order) (defScope s__law_order) .none kV__law_order dc__law_order pm__law_order an__law_order cd__law_order ct__law_order), sl__law_order⟩)
    (c__law_order : PySem.W.codeIn K cd__law_order "_law_order" = true)
    (k__law_order : PySem.W.keepIn K (.ref f__law_order) = true)
    (a__law_deed : PySem.W.nsIn K mainGlobals "_law_deed" = some (some (.ref f__law_deed)))
    (l__law_deed : K.lookup f__law_deed = some ⟨oc__law_deed, od__law_deed, .func (PySem.W.fnOf "_law_deed" "_law_deed" (defArgs s__law_deed) (defBody s__law_deed) (defScope s__law_deed) .none kV__law_deed dc__law_deed pm__law_deed an__law_deed cd__law_deed ct__law_deed), sl__law_deed⟩)
    (c__law_deed : PySem.W.codeIn K cd__law_deed "_law_deed" = true)
    (k__law_deed : PySem.W.keepIn K (.ref f__law_deed) = true)
    (a__law_board : PySem.W.nsIn K mainGlobals "_law_board" = some (some (.ref f__law_board)))
    (l__law_board : K.lookup f__law_board = some ⟨oc__law_board, od__law_board, .func (PySem.W.fnOf "_law_board" "_law_board" (defArgs s__law_board) (defBody s__law_board) (defScope s__law_board) .none kV__law_board dc__law_board pm__law_board an__law_board cd__law_board ct__law_board), sl__law_board⟩)
    (c__law_board : PySem.W.codeIn K cd__law_board "_law_board" = true)
    (k__law_board : PySem.W.keepIn K (.ref f__law_board) = true)
    (a__law_text : PySem.W.nsIn K mainGlobals "_law_text" = some (some (.ref f__law_text)))
    (l__law_text : K.lookup f__law_text = some ⟨oc__law_text, od__law_text, .func (PySem.W.fnOf "_law_text" "_law_text" (defArgs s__law_text) (defBody s__law_text) (defScope s__law_text) .none kV__law_text dc__law_text pm__law_text an__law_text cd__law_text ct__law_text), sl__law_text⟩)
    (c__law_text : PySem.W.codeIn K cd__law_text "_law_text" = true)
    (k__law_text : PySem.W.keepIn K (.ref f__law_text) = true)
    (a__law_kinds : PySem.W.nsIn K mainGlobals "_law_kinds" = some (some (.ref f__law_kinds)))
    (l__law_kinds : K.lookup f__law_kinds = some ⟨oc__law_kinds, od__law_kinds, .func (PySem.W.fnOf "_law_kinds" "_law_kinds" (defArgs s__law_kinds) (defBody s__law_kinds) (defScope s__law_kinds) .none kV__law_kinds dc__law_kinds pm__law_kinds an__law_kinds cd__law_kinds ct__law_kinds), sl__law_kinds⟩)
    (c__law_kinds : PySem.W.codeIn K cd__law_kinds "_law_kinds" = true)
    (k__law_kinds : PySem.W.keepIn K (.ref f__law_kinds) = true)
    (a_law : PySem.W.nsIn K mainGlobals "law" = some (some (.ref f_law)))
    (l_law : K.lookup f_law = some ⟨oc_law, od_law, .func (PySem.W.fnOf "law" "law" (defArgs s_law) (defBody s_law) (defScope s_law) .none kV_law dc_law pm_law an_law cd_law ct_law), sl_law⟩)
    (c_law : PySem.W.codeIn K cd_law "law" = true)
    (k_law : PySem.W.keepIn K (.ref f_law) = true)
    (v_COUNTS : PySem.W.nsIn K mainGlobals "COUNTS" = some (some (.ref a_COUNTS)))
    (l_COUNTS : K.lookup a_COUNTS = some ⟨.type "dict", none, .dict es_COUNTS n_COUNTS, #[]⟩)
    (kk_COUNTS : PySem.W.KeysLit w.params es_COUNTS.toList)
    (ee_COUNTS : EntS es_COUNTS.toList countsL)
    (ss_COUNTS : (a_COUNTS == sysModules) = false)
    : ∃ fd : FuncData, (∀ (s : Shared) (v : Value), BindsTo s fd ⟨[v], []⟩ [("_law_script", v)]) ∧ ∀ base : Heap, K.In base → base.Ns mainGlobals mg → FnOk l.prog w K mg base CX0 13 fa fd ["_law_script"] (sp_law K) := by
  have e := hfa.symm.trans (PySem.W.mg_of X G a_law)
  cases e
  have T : Txt K mg ⟨()⟩ := {
    len := PySem.W.mg_none_of X G z_len,
    range := PySem.W.mg_none_of X G z_range,
    min := PySem.W.mg_none_of X G z_min,
    int := PySem.W.mg_none_of X G z_int,
    list := PySem.W.mg_none_of X G z_list,
    tuple := PySem.W.mg_none_of X G z_tuple,
    enumerate := PySem.W.mg_none_of X G z_enumerate,
    isinstance := PySem.W.mg_none_of X G z_isinstance,
    bool := PySem.W.mg_none_of X G z_bool,
    str := PySem.W.mg_none_of X G z_str,
    all := PySem.W.mg_none_of X G z_all,
    ValueError := PySem.W.mg_none_of X G z_ValueError,
    g_WIDE := ⟨_, PySem.W.mg_of X G v_WIDE, _, rfl⟩,
    g_MOST_LINES := ⟨_, PySem.W.mg_of X G v_MOST_LINES, _, rfl⟩,
    g_MOST_DIGIT := ⟨_, PySem.W.mg_of X G v_MOST_DIGIT, _, rfl⟩,
    g_MOST_ORDERS := ⟨_, PySem.W.mg_of X G v_MOST_ORDERS, _, rfl⟩,
    g_MOST_CELLS := ⟨_, PySem.W.mg_of X G v_MOST_CELLS, _, rfl⟩,
    g_MOST_DEEDS := ⟨_, PySem.W.mg_of X G v_MOST_DEEDS, _, rfl⟩,
    g_MOST_STARTS := ⟨_, PySem.W.mg_of X G v_MOST_STARTS, _, rfl⟩,
    g_MOST_FIGURES := ⟨_, PySem.W.mg_of X G v_MOST_FIGURES, _, rfl⟩,
    g_FIGURES := ⟨_, PySem.W.mg_of X G v_FIGURES, _, rfl⟩,
    F_is_from := ⟨_, _, fun_mk (st := s_is_from) l_is_from c_is_from k_is_from, PySem.W.mg_of X G a_is_from⟩,
    F_lines_in := ⟨_, _, fun_mk (st := s_lines_in) l_lines_in c_lines_in k_lines_in, PySem.W.mg_of X G a_lines_in⟩,
    F_memory_fault := ⟨_, _, fun_mk (st := s_memory_fault) l_memory_fault c_memory_fault k_memory_fault, PySem.W.mg_of X G a_memory_fault⟩,
    F_is_order := ⟨_, _, fun_mk (st := s_is_order) l_is_order c_is_order k_is_order, PySem.W.mg_of X G a_is_order⟩,
    F_is_deed := ⟨_, _, fun_mk (st := s_is_deed) l_is_deed c_is_deed k_is_deed, PySem.W.mg_of X G a_is_deed⟩,
    F_check_board := ⟨_, _, fun_mk (st := s_check_board) l_check_board c_check_board k_check_board, PySem.W.mg_of X G a_check_board⟩,
    F_number_text := ⟨_, _, fun_mk (st := s_number_text) l_number_text c_number_text k_number_text, PySem.W.mg_of X G a_number_text⟩,
    F_written := ⟨_, _, fun_mk (st := s_written) l_written c_written k_written, PySem.W.mg_of X G a_written⟩,
    F_number_of := ⟨_, _, fun_mk (st := s_number_of) l_number_of c_number_of k_number_of, PySem.W.mg_of X G a_number_of⟩,
    F_row_of := ⟨_, _, fun_mk (st := s_row_of) l_row_of c_row_of k_row_of, PySem.W.mg_of X G a_row_of⟩,
    F_read_board := ⟨_, _, fun_mk (st := s_read_board) l_read_board c_read_board k_read_board, PySem.W.mg_of X G a_read_board⟩,
    F__law_begun := ⟨_, _, fun_mk (st := s__law_begun) l__law_begun c__law_begun k__law_begun, PySem.W.mg_of X G a__law_begun⟩,
    F__law_take := ⟨_, _, fun_mk (st := s__law_take) l__law_take c__law_take k__law_take, PySem.W.mg_of X G a__law_take⟩,
    F__law_alike := ⟨_, _, fun_mk (st := s__law_alike) l__law_alike c__law_alike k__law_alike, PySem.W.mg_of X G a__law_alike⟩,
    F__law_order := ⟨_, _, fun_mk (st := s__law_order) l__law_order c__law_order k__law_order, PySem.W.mg_of X G a__law_order⟩,
    F__law_deed := ⟨_, _, fun_mk (st := s__law_deed) l__law_deed c__law_deed k__law_deed, PySem.W.mg_of X G a__law_deed⟩,
    F__law_board := ⟨_, _, fun_mk (st := s__law_board) l__law_board c__law_board k__law_board, PySem.W.mg_of X G a__law_board⟩,
    F__law_text := ⟨_, _, fun_mk (st := s__law_text) l__law_text c__law_text k__law_text, PySem.W.mg_of X G a__law_text⟩,
    F__law_kinds := ⟨_, _, fun_mk (st := s__law_kinds) l__law_kinds c__law_kinds k__law_kinds, PySem.W.mg_of X G a__law_kinds⟩,
    F_law := ⟨_, _, fun_mk (st := s_law) l_law c_law k_law, PySem.W.mg_of X G a_law⟩ }
  have CT : CTxt w K mg := ⟨⟨a_COUNTS, ⟨_, PySem.W.mg_of X G v_COUNTS, rfl⟩, ⟨⟨_, _, l_COUNTS, kk_COUNTS, ee_COUNTS⟩, ss_COUNTS⟩⟩⟩
  refine ⟨PySem.W.fnOf "law" "law" (defArgs s_law) (defBody s_law) (defScope s_law) .none kV_law dc_law pm_law an_law cd_law ct_law, fun s v => .of_eq rfl, fun base _ _ => ok_law T CT (fun_mk (st := s_law) l_law c_law k_law)⟩
end BC
open PySem PySem.W PyProof.Rows
set_option maxRecDepth 100000 in
set_option maxHeartbeats 0 in
theorem PySem.Challenge.cw_blockcarrier_k14_written_and_read_holds : PySem.Challenge.rw_blockcarrier_k14_written_and_read.Holds := by
  w_on; o_law; k_head; (case hw => w_witness2)
  k_fill
  refine L2.walk_of (l := PySem.Challenge.rw_blockcarrier_k14_written_and_read) (n := 63) (k := 13) (x := "_law_script") (CX := fun _ => L2.CX0) (sp := fun w => BC.sp_law _) rfl (by decide) rfl ⟨rfl, by decide, by decide⟩ (fun w h Y => PySem.W.kIn_of Y) ?F (fun _ _ a ns hl _ hS => ⟨a, ns, rfl, hS, hl, fun _ => rfl⟩) (fun _ _ _ _ _ h => h)
  case F =>
    intro w mg fa h KX G hmg
    refine' BC.all_mk KX G hmg ?z_len ?z_range ?z_min ?z_int ?z_list ?z_tuple ?z_enumerate ?z_isinstance ?z_bool ?z_str ?z_all ?z_ValueError ?v_WIDE ?v_MOST_LINES ?v_MOST_DIGIT ?v_MOST_ORDERS ?v_MOST_CELLS ?v_MOST_DEEDS ?v_MOST_STARTS ?v_MOST_FIGURES ?v_FIGURES ?a_is_from ?l_is_from ?c_is_from ?k_is_from ?a_lines_in ?l_lines_in ?c_lines_in ?k_lines_in ?a_memory_fault ?l_memory_fault ?c_memory_fault ?k_memory_fault ?a_is_order ?l_is_order ?c_is_order ?k_is_order ?a_is_deed ?l_is_deed ?c_is_deed ?k_is_deed ?a_check_board ?l_check_board ?c_check_board ?k_check_board ?a_number_text ?l_number_text ?c_number_text ?k_number_text ?a_written ?l_written ?c_written ?k_written ?a_number_of ?l_number_of ?c_number_of ?k_number_of ?a_row_of ?l_row_of ?c_row_of ?k_row_of ?a_read_board ?l_read_board ?c_read_board ?k_read_board ?a__law_begun ?l__law_begun ?c__law_begun ?k__law_begun ?a__law_take ?l__law_take ?c__law_take ?k__law_take ?a__law_alike ?l__law_alike ?c__law_alike ?k__law_alike ?a__law_order ?l__law_order ?c__law_order ?k__law_order ?a__law_deed ?l__law_deed ?c__law_deed ?k__law_deed ?a__law_board ?l__law_board ?c__law_board ?k__law_board ?a__law_text ?l__law_text ?c__law_text ?k__law_text ?a__law_kinds ?l__law_kinds ?c__law_kinds ?k__law_kinds ?a_law ?l_law ?c_law ?k_law ?v_COUNTS ?l_COUNTS ?kk_COUNTS ?ee_COUNTS ?ss_COUNTS
    (case z_len => k_is)
    (case z_range => k_is)
    (case z_min => k_is)
    (case z_int => k_is)
    (case z_list => k_is)
    (case z_tuple => k_is)
    (case z_enumerate => k_is)
    (case z_isinstance => k_is)
    (case z_bool => k_is)
    (case z_str => k_is)
    (case z_all => k_is)
    (case z_ValueError => k_is)
    (case v_WIDE => k_is)
    (case v_MOST_LINES => k_is)
    (case v_MOST_DIGIT => k_is)
    (case v_MOST_ORDERS => k_is)
    (case v_MOST_CELLS => k_is)
    (case v_MOST_DEEDS => k_is)
    (case v_MOST_STARTS => k_is)
    (case v_MOST_FIGURES => k_is)
    (case v_FIGURES => k_is)
    (case a_is_from => k_is)
    (case l_is_from => k_is)
    (case c_is_from => k_is)
    (case k_is_from => k_is)
    (case a_lines_in => k_is)
    (case l_lines_in => k_is)
    (case c_lines_in => k_is)
    (case k_lines_in => k_is)
    (case a_memory_fault => k_is)
    (case l_memory_fault => k_is)
    (case c_memory_fault => k_is)
    (case k_memory_fault => k_is)
    (case a_is_order => k_is)
    (case l_is_order => k_is)
    (case c_is_order => k_is)
    (case k_is_order => k_is)
    (case a_is_deed => k_is)
    (case l_is_deed => k_is)
    (case c_is_deed => k_is)
    (case k_is_deed => k_is)
    (case a_check_board => k_is)
    (case l_check_board => k_is)
    (case c_check_board => k_is)
    (case k_check_board => k_is)
    (case a_number_text => k_is)
    (case l_number_text => k_is)
    (case c_number_text => k_is)
    (case k_number_text => k_is)
    (case a_written => k_is)
    (case l_written => k_is)
    (case c_written => k_is)
    (case k_written => k_is)
    (case a_number_of => k_is)
    (case l_number_of => k_is)
    (case c_number_of => k_is)
    (case k_number_of => k_is)
    (case a_row_of => k_is)
    (case l_row_of => k_is)
    (case c_row_of => k_is)
    (case k_row_of => k_is)
    (case a_read_board => k_is)
    (case l_read_board => k_is)
    (case c_read_board => k_is)
    (case k_read_board => k_is)
    (case a__law_begun => k_is)
    (case l__law_begun => k_is)
    (case c__law_begun => k_is)
    (case k__law_begun => k_is)
    (case a__law_take => k_is)
    (case l__law_take => k_is)
    (case c__law_take => k_is)
    (case k__law_take => k_is)
    (case a__law_alike => k_is)
    (case l__law_alike => k_is)
    (case c__law_alike => k_is)
    (case k__law_alike => k_is)
    (case a__law_order => k_is)
    (case l__law_order => k_is)
    (case c__law_order => k_is)
    (case k__law_order => k_is)
    (case a__law_deed => k_is)
    (case l__law_deed => k_is)
    (case c__law_deed => k_is)
    (case k__law_deed => k_is)
    (case a__law_board => k_is)
    (case l__law_board => k_is)
    (case c__law_board => k_is)
    (case k__law_board => k_is)
    (case a__law_text => k_is)
    (case l__law_text => k_is)
    (case c__law_text => k_is)
    (case k__law_text => k_is)
    (case a__law_kinds => k_is)
    (case l__law_kinds => k_is)
    (case c__law_kinds => k_is)
    (case k__law_kinds => k_is)
    (case a_law => k_is)
    (case l_law => k_is)
    (case c_law => k_is)
    (case k_law => k_is)
    (case v_COUNTS => k_is)
    (case l_COUNTS => k_is)
    (case kk_COUNTS => k_keys)
    (case ee_COUNTS => exact ⟨⟨_, rfl⟩, ⟨_, rfl⟩, ⟨_, rfl⟩, ⟨_, rfl⟩, ⟨_, rfl⟩, ⟨_, rfl⟩, ⟨_, rfl⟩, ⟨_, rfl⟩, ⟨_, rfl⟩, ⟨_, rfl⟩, ⟨_, rfl⟩, ⟨_, rfl⟩, ⟨_, rfl⟩, ⟨_, rfl⟩, True.intro⟩)
    (case ss_COUNTS => first | rfl | decide)
