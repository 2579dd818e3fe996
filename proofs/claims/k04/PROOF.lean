import PyProof.Rows.All
import Wide.All
import OpenK.AllK
import Wide.FinOn
import HandS.ForMost
import HandS.Codes
import HandS.Flow
import HandS.TupAny
import HandS.TupMul
import HandS.Deep
import HandS.IsInst
import HandS.Wide
import HandS.Walk
import KE.GoesEnum
import PySem.Challenge.RW_blockcarrier_k04_plainly
set_option Elab.async false
set_option linter.all false
set_option maxRecDepth 100000
set_option maxHeartbeats 4000000
/-! BC0: data that never changes (Im), what stays (Kp, Ex), steps of readings. -/
namespace BC
open PySem PySem.Spec PyProof.Rows L2

/-! ### heaps -/
/-- tuples stay -/
def Kp (H H' : Hp) : Prop := ∀ a xs, H a = some (.tup xs) → H' a = some (.tup xs)
/-- all stays -/
def Ex (H H' : Hp) : Prop := ∀ x u, H x = some u → H' x = some u
/-- all stays but what stands at F -/
def Fr (F : List Addr) (H H' : Hp) : Prop := ∀ a o, H a = some o → a ∉ F → H' a = some o
theorem Kp.refl (H : Hp) : Kp H H := fun _ _ h => h
theorem Kp.trans {H H1 H2 : Hp} (a : Kp H H1) (b : Kp H1 H2) : Kp H H2 := fun x o h => b x o (a x o h)
theorem Ex.refl (H : Hp) : Ex H H := fun _ _ z => z
theorem Ex.trans {H H1 H2 : Hp} (e : Ex H H1) (e' : Ex H1 H2) : Ex H H2 := fun x u z => e' x u (e x u z)
theorem Ex.kp {H H' : Hp} (e : Ex H H') : Kp H H' := fun a xs h => e a _ h
theorem Ex.new {H : Hp} {p : Addr} {o : HO} (h : H p = none) : Ex H (upd H p o) := fun x u z => by
  rw [upd_ne (ne_of_none z h)]
  exact z
theorem Ex.mut {H H' : Hp} {p : Addr} {o : HO} (h : H p = none) (e : Ex H H') : Ex H (upd H' p o) := fun a u ha => by
  rw [upd_ne (ne_of_none ha h)]
  exact e a u ha
theorem Ex.free {H H' : Hp} {p : Addr} (e : Ex H H') (h : H' p = none) : H p = none := by
  cases h1 : H p with
  | none => rfl
  | some o =>
    rw [e p o h1] at h
    cases h
theorem Kp.new {H H' : Hp} {p : Addr} {o : HO} (h : H' p = none) (e : Kp H H') : Kp H (upd H' p o) := e.trans (Ex.new h).kp
/-- not a tuple -/
def Nt : Option HO → Prop
  | some (.tup _) => False
  | _ => True
theorem Kp.mut {H H' : Hp} {p : Addr} {o : HO} (h : Nt (H' p)) (e : Kp H H') : Kp H (upd H' p o) := fun a xs ha => by
  have h1 := e a xs ha
  have : a ≠ p := fun z => by
    subst z
    rw [h1] at h
    exact h
  rw [upd_ne this]
  exact h1
theorem nt_of {H : Hp} {p : Addr} {o : HO} (h : H p = some o) (n : Nt (some o)) : Nt (H p) := by
  rw [h]
  exact n
theorem Fr.refl (F : List Addr) (H : Hp) : Fr F H H := fun _ _ h _ => h
theorem Fr.trans {F : List Addr} {H H1 H2 : Hp} (a : Fr F H H1) (b : Fr F H1 H2) : Fr F H H2 := fun x o h n => b x o (a x o h n) n
theorem Ex.fr {F : List Addr} {H H' : Hp} (e : Ex H H') : Fr F H H' := fun a o h _ => e a o h
theorem Fr.mut {F : List Addr} {H H' : Hp} {p : Addr} {o : HO} (h : p ∈ F) (e : Fr F H H') : Fr F H (upd H' p o) := fun a u ha n => by
  have : a ≠ p := fun z => n (z ▸ h)
  rw [upd_ne this]
  exact e a u ha n
theorem Fr.new {F : List Addr} {H H' : Hp} {p : Addr} {o : HO} (h : H' p = none) (e : Fr F H H') : Fr F H (upd H' p o) := e.trans (Ex.new h).fr
theorem Fr.mono {F G : List Addr} {H H' : Hp} (h : ∀ a ∈ F, a ∈ G) (e : Fr F H H') : Fr G H H' := fun a o ha n => e a o ha fun z => n (h a z)
/-- what was changed had not been there -/
theorem Fr.ex {F : List Addr} {H0 H H' : Hp} (e0 : Ex H0 H) (n : ∀ a ∈ F, H0 a = none) (e : Fr F H H') : Ex H0 H' := fun a o ha =>
  e a o (e0 a o ha) fun z => by
    rw [n a z] at ha
    cases ha

/-! ### data that never changes: none, bools, ints, texts, tuples -/
mutual
def Im (H : Hp) : PyData → V → Prop
  | .none, v => v = .non
  | .bool b, v => v = .bl b
  | .int i, v => v = .int i
  | .str s, v => v = .str s
  | .tuple ds, v => ∃ a xs, v = .ref a ∧ H a = some (.tup xs) ∧ ImL H ds xs
  | .list _, _ => False
  | .dict _, _ => False
def ImL (H : Hp) : List PyData → List V → Prop
  | [], xs => xs = []
  | d :: ds, xs => ∃ v vs, xs = v :: vs ∧ Im H d v ∧ ImL H ds vs
end
mutual
theorem Im.kp {H H' : Hp} (k : Kp H H') : ∀ (d : PyData) (v : V), Im H d v → Im H' d v
  | .none, _, h => by simpa only [Im] using h
  | .bool _, _, h => by simpa only [Im] using h
  | .int _, _, h => by simpa only [Im] using h
  | .str _, _, h => by simpa only [Im] using h
  | .tuple ds, v, h => by
    simp only [Im] at h ⊢
    obtain ⟨a, xs, rfl, h1, h2⟩ := h
    exact ⟨a, xs, rfl, k a xs h1, ImL.kp k ds xs h2⟩
  | .list _, _, h => by simp only [Im] at h
  | .dict _, _, h => by simp only [Im] at h
theorem ImL.kp {H H' : Hp} (k : Kp H H') : ∀ (ds : List PyData) (vs : List V), ImL H ds vs → ImL H' ds vs
  | [], _, h => by simpa only [ImL] using h
  | d :: ds, vs, h => by
    simp only [ImL] at h ⊢
    obtain ⟨x, xs, rfl, h1, h2⟩ := h
    exact ⟨x, xs, rfl, Im.kp k d x h1, ImL.kp k ds xs h2⟩
end
mutual
theorem Im.dp {K : PySem.W.Frag} {H : Hp} : ∀ (d : PyData) (v : V), Im H d v → Dp K H v d
  | .none, _, h => by simp only [Im] at h; subst h; exact .non
  | .bool _, _, h => by simp only [Im] at h; subst h; exact .bl _
  | .int _, _, h => by simp only [Im] at h; subst h; exact .int _
  | .str _, _, h => by simp only [Im] at h; subst h; exact .str _
  | .tuple ds, v, h => by
    simp only [Im] at h
    obtain ⟨a, xs, rfl, h1, h2⟩ := h
    exact .tup (SqT.of h1) (ImL.dp ds xs h2)
  | .list _, _, h => by simp only [Im] at h
  | .dict _, _, h => by simp only [Im] at h
theorem ImL.dp {K : PySem.W.Frag} {H : Hp} : ∀ (ds : List PyData) (vs : List V), ImL H ds vs → DpAll K H vs ds
  | [], _, h => by simp only [ImL] at h; subst h; exact .nil
  | d :: ds, vs, h => by
    simp only [ImL] at h
    obtain ⟨x, xs, rfl, h1, h2⟩ := h
    exact .cons (Im.dp d x h1) (ImL.dp ds xs h2)
end
section
variable {H H' : Hp} {v x : V} {vs xs : List V} {d e : PyData} {ds es : List PyData} {a : Addr} {K : PySem.W.Frag}
theorem Im.int_iff {i : Int} : Im H (.int i) v ↔ v = .int i := by simp only [Im]
theorem Im.str_iff {s : Str} : Im H (.str s) v ↔ v = .str s := by simp only [Im]
theorem Im.none_iff : Im H .none v ↔ v = .non := by simp only [Im]
theorem Im.bool_iff {b : Bool} : Im H (.bool b) v ↔ v = .bl b := by simp only [Im]
theorem im_int {i : Int} : Im H (.int i) (.int i) := by simp only [Im]
theorem im_str {s : Str} : Im H (.str s) (.str s) := by simp only [Im]
theorem im_non : Im H .none .non := by simp only [Im]
theorem im_bl {b : Bool} : Im H (.bool b) (.bl b) := by simp only [Im]
theorem im_tup (h1 : H a = some (.tup xs)) (h2 : ImL H ds xs) : Im H (.tuple ds) (.ref a) := by
  simp only [Im]
  exact ⟨a, xs, rfl, h1, h2⟩
theorem Im.tup (h : Im H (.tuple ds) v) : ∃ a xs, v = .ref a ∧ H a = some (.tup xs) ∧ ImL H ds xs := by
  simpa only [Im] using h
theorem iml_nil : ImL H [] [] := by simp only [ImL]
theorem iml_cons (h1 : Im H d v) (h2 : ImL H ds vs) : ImL H (d :: ds) (v :: vs) := by
  simp only [ImL]
  exact ⟨v, vs, rfl, h1, h2⟩
theorem ImL.cons_inv (h : ImL H (d :: ds) xs) : ∃ v vs, xs = v :: vs ∧ Im H d v ∧ ImL H ds vs := by simpa only [ImL] using h
theorem ImL.nil_inv (h : ImL H [] xs) : xs = [] := by simpa only [ImL] using h
theorem ImL.length : ∀ {ds : List PyData} {xs : List V}, ImL H ds xs → xs.length = ds.length
  | [], _, h => by rw [h.nil_inv]; rfl
  | d :: ds, _, h => by
    obtain ⟨v, vs, rfl, _, h2⟩ := h.cons_inv
    rw [List.length_cons, List.length_cons, h2.length]
theorem ImL.get : ∀ {ds : List PyData} {xs : List V} {i : Nat} {d : PyData}, ImL H ds xs → ds[i]? = some d → ∃ v, xs[i]? = some v ∧ Im H d v
  | [], _, _, _, _, e => by simp at e
  | d :: ds, _, 0, _, h, e => by
    obtain ⟨v, vs, rfl, h1, _⟩ := h.cons_inv
    simp at e
    subst e
    exact ⟨v, by simp, h1⟩
  | d :: ds, _, i + 1, _, h, e => by
    obtain ⟨v, vs, rfl, _, h2⟩ := h.cons_inv
    obtain ⟨v', g1, g2⟩ := h2.get (i := i) (by simpa using e)
    exact ⟨v', by simpa using g1, g2⟩
/-- the other way round -/
theorem ImL.get' : ∀ {ds : List PyData} {xs : List V} {i : Nat} {v : V}, ImL H ds xs → xs[i]? = some v → ∃ d, ds[i]? = some d ∧ Im H d v
  | [], _, _, _, h, e => by
    rw [h.nil_inv] at e
    simp at e
  | d :: ds, _, 0, _, h, e => by
    obtain ⟨v, vs, rfl, h1, _⟩ := h.cons_inv
    simp at e
    subst e
    exact ⟨d, by simp, h1⟩
  | d :: ds, _, i + 1, _, h, e => by
    obtain ⟨v, vs, rfl, _, h2⟩ := h.cons_inv
    obtain ⟨d', g1, g2⟩ := h2.get' (i := i) (by simpa using e)
    exact ⟨d', by simpa using g1, g2⟩
theorem ImL.append : ∀ {ds es : List PyData} {xs ys : List V}, ImL H ds xs → ImL H es ys → ImL H (ds ++ es) (xs ++ ys)
  | [], _, _, _, h, h' => by
    rw [h.nil_inv]
    exact h'
  | d :: ds, _, _, _, h, h' => by
    obtain ⟨v, vs, rfl, h1, h2⟩ := h.cons_inv
    exact iml_cons h1 (h2.append h')
theorem ImL.snoc (h : ImL H ds xs) (h1 : Im H d v) : ImL H (ds ++ [d]) (xs ++ [v]) := h.append (iml_cons h1 iml_nil)
theorem ImL.drop : ∀ {ds : List PyData} {xs : List V} (n : Nat), ImL H ds xs → ImL H (ds.drop n) (xs.drop n)
  | _, _, 0, h => h
  | [], _, _ + 1, h => by
    rw [h.nil_inv]
    exact iml_nil
  | d :: ds, _, n + 1, h => by
    obtain ⟨v, vs, rfl, h1, h2⟩ := h.cons_inv
    exact h2.drop n
theorem ImL.take : ∀ {ds : List PyData} {xs : List V} (n : Nat), ImL H ds xs → ImL H (ds.take n) (xs.take n)
  | _, _, 0, h => iml_nil
  | [], _, _ + 1, h => by
    rw [h.nil_inv]
    exact iml_nil
  | d :: ds, _, n + 1, h => by
    obtain ⟨v, vs, rfl, h1, h2⟩ := h.cons_inv
    exact iml_cons h1 (h2.take n)
theorem ImL.set : ∀ {ds : List PyData} {xs : List V} (n : Nat), ImL H ds xs → Im H d v → ImL H (ds.set n d) (xs.set n v)
  | [], _, _, h, _ => by
    rw [h.nil_inv]
    exact iml_nil
  | _ :: ds, _, 0, h, h' => by
    obtain ⟨v, vs, rfl, h1, h2⟩ := h.cons_inv
    exact iml_cons h' h2
  | _ :: ds, _, n + 1, h, h' => by
    obtain ⟨v, vs, rfl, h1, h2⟩ := h.cons_inv
    exact iml_cons h1 (h2.set n h')
theorem ImL.ints : ∀ {ns : List Int} {xs : List V}, ImL H (ns.map .int) xs ↔ xs = ns.map V.int
  | [], _ => ⟨fun h => h.nil_inv, fun h => by rw [h]; exact iml_nil⟩
  | n :: ns, xs => ⟨fun h => by
      obtain ⟨v, vs, rfl, h1, h2⟩ := h.cons_inv
      rw [Im.int_iff.mp h1, ImL.ints.mp h2]
      rfl, fun h => by rw [h]; exact iml_cons im_int (ImL.ints.mpr rfl)⟩
theorem lst_dp (h1 : H a = some (.lst xs)) (h2 : ImL H ds xs) : Dp K H (.ref a) (.list ds) := .lst (SqL.of h1) (h2.dp _ _)
theorem atI_iml {i : Int} (h : ImL H ds xs) (e : atI ds i = some d) : ∃ v, atI xs i = some v ∧ Im H d v := by
  unfold atI at e ⊢
  rw [h.length]
  cases q : ixN ds.length i with
  | none =>
    rw [q] at e
    cases e
  | some j =>
    rw [q] at e
    exact h.get e
end
end BC
/-! BC1: steps of readings. -/
namespace BC
open PySem PySem.Spec PyProof.Rows L2
open C8 (tCut pss_cut)

section
variable {K : PySem.W.Frag} {σ : L2.St} {H H0 H1 : Hp} {D : Ends} {Q : VK} {QT : Bool → Hp → Prop} {QA : List V → Hp → Prop} {t u : TS} {ta tb te tc : TE} {tA tB' : TT} {g : TG} {i j : Int} {n : Nat} {v x y : V} {vs : List V} {d e : PyData} {ds es : List PyData} {r : R2}
/-! statements -/
theorem st_seq (h : t { D with nx := u D } σ H) : tSeq t u D σ H := h
theorem st_cut (Mid : L2.St → Hp → Prop) (h : t { D with nx := Mid } σ H) (k : ∀ σ' H', Mid σ' H' → u D σ' H') : tCut t u D σ H := ⟨Mid, h, k⟩
theorem st_next (h : D.nx σ H) : tNext D σ H := h
theorem st_brk (h : D.bk σ H) : tBreak D σ H := h
theorem st_cont (h : D.ct σ H) : tCont D σ H := h
theorem st_asg (h : te σ H fun x H1 => g x σ H1 D.nx) : tAsg te g D σ H := h
theorem st_ret (h : te σ H D.rt) : tRet te D σ H := h
theorem st_retN (h : D.rt .non H) : tRetN D σ H := h
theorem st_drop (h : te σ H fun _ H1 => D.nx σ H1) : tDrop te D σ H := h
theorem st_ifS (h : tA σ H fun b H1 => if b = true then t D σ H1 else u D σ H1) : tIfS tA t u D σ H := h
theorem st_aug {m : Nat} {ti : TIp} (e : σ[m]? = some (some x)) (h : te σ H fun y H1 => ti x y H1 fun z H2 => D.nx (σ.set m (some z)) H2) : tAug m te ti D σ H := ⟨x, e, h⟩
theorem st_ip {f : Int → Int → Int} (h : Q (.int (f i j)) H) : ipI f (.int i) (.int j) H Q := ⟨i, j, rfl, rfl, h⟩
theorem st_name {m : Nat} {QS : L2.St → Hp → Prop} (h : QS (σ.set m (some v)) H) : gName m v σ H QS := h
theorem st_gnil {QS : L2.St → Hp → Prop} (h : QS σ H) : gNil [] σ H QS := ⟨rfl, h⟩
theorem st_gcons {vs : List V} {G : TG} {Gs : TGs} {QS : L2.St → Hp → Prop} (h : G v σ H fun σ' H' => Gs vs σ' H' QS) : gCons G Gs (v :: vs) σ H QS := ⟨v, vs, rfl, h⟩
/-! expressions -/
theorem st_var {m : Nat} (e : σ[m]? = some (some v)) (h : Q v H) : tVar m σ H Q := ⟨v, e, h⟩
theorem st_c (h : Q v H) : tC v σ H Q := h
theorem st_op (h : ta σ H fun x H1 => tb σ H1 fun y H2 => r x y H2 Q) : tOp r ta tb σ H Q := h
theorem st_un {f : V → Hp → VK → Prop} (h : ta σ H fun x H1 => f x H1 Q) : tUn f ta σ H Q := h
theorem st_if (h : tA σ H fun c H1 => if c = true then ta σ H1 Q else tb σ H1 Q) : tIf tA ta tb σ H Q := h
theorem st_andV (h : ta σ H fun x H1 => ∃ c, x = .bl c ∧ if c = true then tb σ H1 Q else Q (.bl false) H1) : tAndV ta tb σ H Q := h
theorem st_orV (h : ta σ H fun x H1 => ∃ c, x = .bl c ∧ if c = true then Q (.bl true) H1 else tb σ H1 Q) : tOrV ta tb σ H Q := h
theorem st_notV (h : ta σ H fun x H1 => ∃ c, x = .bl c ∧ Q (.bl (!c)) H1) : tNotV ta σ H Q := h
theorem st_test (h : te σ H fun x H1 => ∃ c, x = .bl c ∧ QT c H1) : tTest te σ H QT := h
theorem st_tB (h : te σ H fun x H1 => ∃ c, x = .bl c ∧ QT c H1) : tB te σ H QT := h
theorem st_and (h : tA σ H fun c H1 => if c = true then tB' σ H1 QT else QT false H1) : tAnd tA tB' σ H QT := h
theorem st_or (h : tA σ H fun c H1 => if c = true then QT true H1 else tB' σ H1 QT) : tOr tA tB' σ H QT := h
theorem st_not (h : tA σ H fun c H1 => QT (!c) H1) : tNot tA σ H QT := h
theorem st_yes (h : QT true H) : tYes σ H QT := h
theorem st_nil (h : QA [] H) : tNil σ H QA := h
theorem st_cons {tr : TA} (h : ta σ H fun x H1 => tr σ H1 fun xs H2 => QA (x :: xs) H2) : tCons ta tr σ H QA := h
theorem st_call {sp : Sp} {E : XK} {tr : TA} (h : tr σ H fun vs H1 => sp vs H1 Q E) : tCall sp [] E tr σ H Q := by
  show tr σ H fun vs H1 => sp (vs ++ []) H1 Q E
  simpa only [List.append_nil] using h
theorem sz_le {n : Nat} (h : n ≤ 100000) : n ≤ sizeLine := Nat.le_trans h (by decide)
theorem sz_lt {m : Nat} (h : m < 100000) : m < sizeLine := Nat.lt_of_lt_of_le h (by decide)
/-- a new tuple, a new list -/
def NewT (H : Hp) (xs : List V) (Q : VK) : Prop := xs.length ≤ sizeLine ∧ ∀ p, H p = none → Q (.ref p) (upd H p (.tup xs))
def NewL (H : Hp) (xs : List V) (Q : VK) : Prop := xs.length ≤ sizeLine ∧ ∀ p, H p = none → Q (.ref p) (upd H p (.lst xs))
theorem st_tup {tr : TA} (h : tr σ H fun xs H1 => NewT H1 xs Q) : tTup tr σ H Q := h
theorem st_lst {tr : TA} (h : tr σ H fun xs H1 => NewL H1 xs Q) : tLst tr σ H Q := h
theorem st_newT (h : vs.length ≤ 100000) (k : ∀ p H2, H p = none → Ex H H2 → H2 p = some (.tup vs) → Q (.ref p) H2) : NewT H vs Q :=
  ⟨sz_le h, fun p hp => k p _ hp (Ex.new hp) upd_same⟩
theorem st_newL (h : vs.length ≤ 100000) (k : ∀ p H2, H p = none → Ex H H2 → H2 p = some (.lst vs) → Q (.ref p) H2) : NewL H vs Q :=
  ⟨sz_le h, fun p hp => k p _ hp (Ex.new hp) upd_same⟩
theorem st_CB {f : List V → Hp → VK → Prop} {tr : TA} (h : tr σ H fun vs H1 => f vs H1 Q) : tCB f tr σ H Q := h
theorem st_bl {b : Bool} {F : Bool → Prop} (h : F b) : ∃ c, V.bl b = .bl c ∧ F c := ⟨b, rfl, h⟩
theorem st_T {A B : Prop} (h : A) : if true = true then A else B := iteT h
theorem st_F {A B : Prop} (h : B) : if false = true then A else B := iteF h
theorem st_D {p : Prop} [Decidable p] {A B : Prop} (h1 : p → A) (h2 : ¬ p → B) : if decide p = true then A else B := by
  by_cases h : p
  · rw [decide_eq_true h]; exact iteT (h1 h)
  · rw [decide_eq_false h]; exact iteF (h2 h)
theorem st_ND {p : Prop} [Decidable p] {A B : Prop} (h1 : ¬ p → A) (h2 : p → B) : if (!decide p) = true then A else B := by
  by_cases h : p
  · rw [decide_eq_true h]; exact iteF (h2 h)
  · rw [decide_eq_false h]; exact iteT (h1 h)
theorem st_B {b : Bool} {A B : Prop} (h1 : b = true → A) (h2 : b = false → B) : if b = true then A else B := by
  cases b with
  | true => exact iteT (h1 rfl)
  | false => exact iteF (h2 rfl)
theorem st_NB {b : Bool} {A B : Prop} (h1 : b = false → A) (h2 : b = true → B) : if (!b) = true then A else B := by
  cases b with
  | true => exact iteF (h2 rfl)
  | false => exact iteT (h1 rfl)
/-! operators -/
theorem st_I0 {f : Int → Int → V} (h : Q (f i j) H) : rI0 f (.int i) (.int j) H Q := ⟨i, j, rfl, rfl, h⟩
theorem st_I {C : Int → Int → Prop} {f : Int → Int → V} (c : C i j) (h : Q (f i j) H) : rI C f (.int i) (.int j) H Q := ⟨i, j, rfl, rfl, c, h⟩
theorem decV_int : decide (V.int i = V.int j) = decide (i = j) := decide_eq_decide.mpr ⟨V.int.inj, congrArg _⟩
theorem decV_str {a b : Str} : decide (V.str a = V.str b) = decide (a = b) := decide_eq_decide.mpr ⟨V.str.inj, congrArg _⟩
theorem decV_bl {a b : Bool} : decide (V.bl a = V.bl b) = decide (a = b) := decide_eq_decide.mpr ⟨V.bl.inj, congrArg _⟩
theorem st_eqI (h : Q (.bl (decide (i = j))) H) : rEq (.int i) (.int j) H Q := ⟨rfl, by rw [decV_int]; exact h⟩
theorem st_neI (h : Q (.bl (!decide (i = j))) H) : rNe (.int i) (.int j) H Q := ⟨rfl, by rw [decV_int]; exact h⟩
theorem st_eqS {a b : Str} (h : Q (.bl (decide (a = b))) H) : rEq (.str a) (.str b) H Q := ⟨rfl, by rw [decV_str]; exact h⟩
theorem st_neS {a b : Str} (h : Q (.bl (!decide (a = b))) H) : rNe (.str a) (.str b) H Q := ⟨rfl, by rw [decV_str]; exact h⟩
theorem st_eqB {a b : Bool} (h : Q (.bl (decide (a = b))) H) : rEq (.bl a) (.bl b) H Q := ⟨rfl, by rw [decV_bl]; exact h⟩
theorem st_neB {a b : Bool} (h : Q (.bl (!decide (a = b))) H) : rNe (.bl a) (.bl b) H Q := ⟨rfl, by rw [decV_bl]; exact h⟩
end
/-- is None, is not None, by names -/
def rIsN : R2 := fun x u H Q => u = .non ∧ Q (.bl (decide (x = .non))) H
def rNotN : R2 := fun x u H Q => u = .non ∧ Q (.bl (!decide (x = .non))) H
theorem o_isN {X : Cx} : OpR X (compareOp .Is) rIsN := op_isN
theorem o_notN {X : Cx} : OpR X (compareOp .IsNot) rNotN := op_notN
def rLenS (K : PySem.W.Frag) : List V → Hp → VK → Prop := fun us H Q => ∃ p zs, us = [.ref p] ∧ (SqL K H p zs ∨ SqT K H p zs) ∧ Q (.int zs.length) H
theorem c_len {X : Cx} : CallR X (.builtin "len") (rLenS X.K) := call_len_seq
def rInt1 : List V → Hp → VK → Prop := fun xs H Q => (∃ i, xs = [.int i] ∧ Q (.int i) H) ∨ ∃ k, xs = [.bl k] ∧ Q (.int (if k then 1 else 0)) H
theorem c_int {X : Cx} : CallR X (.type "int") rInt1 := call_int1
def rLenStr : List V → Hp → VK → Prop := fun xs H Q => ∃ z, xs = [.str z] ∧ z.length ≤ sizeLine ∧ Q (.int z.length) H
theorem c_lenStr {X : Cx} : CallR X (.builtin "len") rLenStr := call_len_str
def rStrI : List V → Hp → VK → Prop := fun xs H Q => ∃ i, xs = [.int i] ∧ i.natAbs.log2 < 1920 ∧ Q (.str (toString i)) H
theorem c_str {X : Cx} : CallR X (.type "str") rStrI := call_str_int
def rAddS : R2 := fun x y H Q => ∃ i j, x = .str i ∧ y = .str j ∧ i.length + j.length ≤ sizeLine ∧ Q (.str (i ++ j)) H
theorem o_addS {X : Cx} : OpR X (binaryOp .Add) rAddS := op_add_str
def rMin2 : List V → Hp → VK → Prop := fun xs H Q => ∃ i j, xs = [.int i, .int j] ∧ Q (.int (if j < i then j else i)) H
theorem c_min {X : Cx} (hc : X.calm = true) : CallR X (.builtin "min") rMin2 := call_min2 hc
def rListOf (K : PySem.W.Frag) : List V → Hp → VK → Prop := fun xs H Q => ∃ p ys, xs = [.ref p] ∧ (SqL K H p ys ∨ SqT K H p ys) ∧ ∀ l, H l = none → Q (.ref l) (upd H l (.lst ys))
theorem c_list {X : Cx} : CallR X (.type "list") (rListOf X.K) := call_list_of
def rTupOf (K : PySem.W.Frag) : List V → Hp → VK → Prop := fun xs H Q => ∃ p ys, xs = [.ref p] ∧ ((SqL K H p ys ∧ ∀ l, H l = none → Q (.ref l) (upd H l (.tup ys))) ∨ (SqT K H p ys ∧ Q (.ref p) H))
theorem c_tuple {X : Cx} : CallR X (.type "tuple") (rTupOf X.K) := call_tuple_of
section
variable {K : PySem.W.Frag} {σ : L2.St} {H H0 H1 : Hp} {D : Ends} {Q : VK} {i j : Int} {n : Nat} {v x y : V} {d e : PyData} {ds es : List PyData} {vs xs ys : List V} {a b l : Addr}
theorem st_isN (h : Q (.bl (decide (x = .non))) H) : rIsN x .non H Q := ⟨rfl, h⟩
theorem st_notN (h : Q (.bl (!decide (x = .non))) H) : rNotN x .non H Q := ⟨rfl, h⟩
theorem st_isN0 (h : Q (.bl true) H) : rIsN .non .non H Q := ⟨rfl, h⟩
theorem st_isNI (h : Q (.bl false) H) : rIsN (.int i) .non H Q := ⟨rfl, h⟩
theorem st_isNR (h : Q (.bl false) H) : rIsN (.ref a) .non H Q := ⟨rfl, h⟩
theorem st_notN0 (h : Q (.bl false) H) : rNotN .non .non H Q := ⟨rfl, h⟩
theorem st_notNI (h : Q (.bl true) H) : rNotN (.int i) .non H Q := ⟨rfl, h⟩
theorem st_notNR (h : Q (.bl true) H) : rNotN (.ref a) .non H Q := ⟨rfl, h⟩
theorem st_intB {b : Bool} (h : Q (.int (if b then 1 else 0)) H) : rInt1 [.bl b] H Q := .inr ⟨b, rfl, h⟩
theorem st_min (h : Q (.int (if j < i then j else i)) H) : rMin2 [.int i, .int j] H Q := ⟨i, j, rfl, h⟩
/-! data -/
theorem st_ixT (h : Im H0 (.tuple ds) x) (k : Kp H0 H) (e : atI ds i = some d) (q : ∀ v, Im H d v → Q v H) : rIxT K x (.int i) H Q := by
  obtain ⟨a, xs, rfl, h1, h2⟩ := (h.kp k).tup
  obtain ⟨v, e1, h3⟩ := atI_iml h2 e
  exact ⟨a, xs, i, v, rfl, rfl, SqT.of h1, e1, q v h3⟩
theorem st_ixT_int (h : Im H0 (.tuple ds) x) (k : Kp H0 H) (e : atI ds i = some (.int j)) (q : Q (.int j) H) : rIxT K x (.int i) H Q :=
  st_ixT h k e fun v hv => by rw [Im.int_iff.mp hv]; exact q
theorem st_ixT_str {s : Str} (h : Im H0 (.tuple ds) x) (k : Kp H0 H) (e : atI ds i = some (.str s)) (q : Q (.str s) H) : rIxT K x (.int i) H Q :=
  st_ixT h k e fun v hv => by rw [Im.str_iff.mp hv]; exact q
theorem st_ixL (h : H l = some (.lst xs)) (e : atI xs i = some v) (q : Q v H) : rIxL K (.ref l) (.int i) H Q := ⟨l, xs, i, v, rfl, rfl, SqL.of h, e, q⟩
theorem st_ixLI {ns : List Int} (h : H l = some (.lst (ns.map V.int))) (e : atI ns i = some j) (q : Q (.int j) H) : rIxL K (.ref l) (.int i) H Q := by
  refine st_ixL h ?_ q
  unfold atI at e ⊢
  rw [List.length_map]
  cases z : ixN ns.length i with
  | none =>
    rw [z] at e
    cases e
  | some m =>
    rw [z] at e
    show (ns.map V.int)[m]? = some (.int j)
    rw [List.getElem?_map]
    show (ns[m]?).map V.int = some (.int j)
    have e' : ns[m]? = some j := e
    rw [e']
    rfl
theorem st_lenT (h : Im H0 (.tuple ds) x) (k : Kp H0 H) (q : Q (.int ds.length) H) : rLenS K [x] H Q := by
  obtain ⟨a, xs, rfl, h1, h2⟩ := (h.kp k).tup
  exact ⟨a, xs, rfl, .inr (SqT.of h1), by rw [h2.length]; exact q⟩
theorem st_lenL (h : H l = some (.lst xs)) (q : Q (.int xs.length) H) : rLenS K [.ref l] H Q := ⟨l, xs, rfl, .inl (SqL.of h), q⟩
theorem st_gtup {Gs : TGs} {QS : L2.St → Hp → Prop} (h : Im H0 (.tuple ds) x) (k : Kp H0 H) (hn : ds.length = n) (q : ∀ xs, ImL H ds xs → Gs xs σ H QS) : gTup K n Gs x σ H QS := by
  obtain ⟨a, xs, rfl, h1, h2⟩ := (h.kp k).tup
  exact ⟨a, xs, rfl, SqT.of h1, h2.length.trans hn, q xs h2⟩
theorem st_gtup' {Gs : TGs} {QS : L2.St → Hp → Prop} (h : H a = some (.tup xs)) (hn : xs.length = n) (q : Gs xs σ H QS) : gTup K n Gs (.ref a) σ H QS := ⟨a, xs, rfl, SqT.of h, hn, q⟩
theorem st_listT (h : Im H0 (.tuple ds) x) (k : Kp H0 H) (q : ∀ l xs H2, H l = none → Ex H H2 → ImL H2 ds xs → H2 l = some (.lst xs) → Q (.ref l) H2) : rListOf K [x] H Q := by
  obtain ⟨a, xs, rfl, h1, h2⟩ := (h.kp k).tup
  exact ⟨a, xs, rfl, .inr (SqT.of h1), fun l hl => q l xs _ hl (Ex.new hl) (h2.kp (Ex.new hl).kp) upd_same⟩
theorem st_listL (h : H a = some (.lst xs)) (q : ∀ l H2, H l = none → Ex H H2 → H2 l = some (.lst xs) → Q (.ref l) H2) : rListOf K [.ref a] H Q := ⟨a, xs, rfl, .inl (SqL.of h), fun l hl => q l _ hl (Ex.new hl) upd_same⟩
theorem st_tupL (h : H a = some (.lst xs)) (q : ∀ l H2, H l = none → Ex H H2 → H2 l = some (.tup xs) → Q (.ref l) H2) : rTupOf K [.ref a] H Q := ⟨a, xs, rfl, .inl ⟨SqL.of h, fun l hl => q l _ hl (Ex.new hl) upd_same⟩⟩
theorem st_app {z : V} (h : H l = some (.lst xs)) (hz : xs.length < sizeLine) (q : ∀ H2, Fr [l] H H2 → Kp H H2 → H2 l = some (.lst (xs ++ [z])) → Q .non H2) : rAppend (.ref l) [z] H Q :=
  ⟨l, xs, z, rfl, rfl, h, hz, q _ (Fr.mut (List.mem_singleton.mpr rfl) (Fr.refl _ _)) (Kp.mut (nt_of h trivial) (Kp.refl _)) upd_same⟩
theorem st_bm {T : String} {f : V → List V → Hp → VK → Prop} {to : TE} {tr : TA} (h : to σ H fun x H1 => tyV K T x H1 ∧ tr σ H1 fun xs H2 => f x xs H2 Q) : tBM K T f to tr σ H Q := h
theorem st_bm0 {T : String} {f : V → List V → Hp → VK → Prop} {to : TE} (h : to σ H fun x H1 => tyV K T x H1 ∧ f x [] H1 Q) : tBM0 K T f to σ H Q := h
theorem tyL {A : Prop} (h : H l = some (.lst xs)) (q : A) : tyV K "list" (.ref l) H ∧ A := ⟨.inl ⟨rfl, _, SqL.of h⟩, q⟩
/-- for over a tuple -/
theorem st_forT {te : TE} {g : TG} {tb : TS} (Pv : Nat → L2.St → Hp → Prop)
    (h : te σ H fun x H1 => Im H1 (.tuple ds) x ∧ Pv 0 σ H1 ∧ ∀ m σ' H', Pv m σ' H' → Kp H1 H')
    (hs : ∀ m d v σ' H', ds[m]? = some d → Pv m σ' H' → Im H' d v → g v σ' H' fun σ2 H2 => tb { D with nx := Pv (m + 1), ct := Pv (m + 1), bk := D.nx } σ2 H2)
    (hd : ∀ σ' H', Pv ds.length σ' H' → D.nx σ' H')
    (mono : ∀ Q Q' : VK, (∀ x H1, Q x H1 → Q' x H1) → te σ H Q → te σ H Q') : tFor (iTup K te) g tb D σ H := by
  refine mono _ _ (fun x H1 ⟨hx, h0, hk⟩ => ?_) h
  obtain ⟨a, xs, rfl, h1, h2⟩ := hx.tup
  refine ⟨a, rfl, ⟨xs, SqT.of h1⟩, for_tup (K := K) (a := a) (xs := xs) Pv h0 (fun m σ' H' _ p => SqT.of (hk m σ' H' p a xs h1)) (fun m v σ' H' hv p => ?_) fun σ' H' p => hd σ' H' (h2.length ▸ p)⟩
  obtain ⟨d, e1, e2⟩ := h2.get' hv
  exact hs m d v σ' H' e1 p (e2.kp (hk m σ' H' p))
theorem st_forT0 {m0 : Nat} {g : TG} {tb : TS} (Pv : Nat → L2.St → Hp → Prop) (e : σ[m0]? = some (some x)) (h : Im H0 (.tuple ds) x) (k : Kp H0 H) (h0 : Pv 0 σ H) (hk : ∀ m σ' H', Pv m σ' H' → Kp H0 H')
    (hs : ∀ m d v σ' H', ds[m]? = some d → Pv m σ' H' → Im H' d v → g v σ' H' fun σ2 H2 => tb { D with nx := Pv (m + 1), ct := Pv (m + 1), bk := D.nx } σ2 H2)
    (hd : ∀ σ' H', Pv ds.length σ' H' → D.nx σ' H') : tFor (iTup K (tVar m0)) g tb D σ H := by
  obtain ⟨a, xs, rfl, h1, h2⟩ := h.tup
  refine ⟨_, e, a, rfl, ⟨xs, SqT.of (k a xs h1)⟩, for_tup (K := K) (a := a) (xs := xs) Pv h0 (fun m σ' H' _ p => SqT.of (hk m σ' H' p a xs h1)) (fun m v σ' H' hv p => ?_) fun σ' H' p => hd σ' H' (h2.length ▸ p)⟩
  obtain ⟨d, e1, e2⟩ := h2.get' hv
  exact hs m d v σ' H' e1 p (e2.kp (hk m σ' H' p))
/-- for over range -/
theorem st_forR {ta : TA} {g : TG} {tb : TS} {hi : Int} (Pv : Nat → L2.St → Hp → Prop) (h : ta σ H fun vs H1 => vs = [.int hi] ∧ (hi < 4611686018427387904 ∧ -4611686018427387904 ≤ hi) ∧ Pv 0 σ H1)
    (mono : ∀ Q Q' : List V → Hp → Prop, (∀ x H1, Q x H1 → Q' x H1) → ta σ H Q → ta σ H Q')
    (hs : ∀ (m : Nat) σ' H', (m : Int) < hi → Pv m σ' H' → g (.int (m : Int)) σ' H' fun σ2 H2 => tb { D with nx := Pv (m + 1), ct := Pv (m + 1), bk := D.nx } σ2 H2)
    (hd : ∀ σ' H', Pv hi.toNat σ' H' → D.nx σ' H') : tFor (iRng1 ta) g tb D σ H := by
  refine mono _ _ (fun vs H1 ⟨e, hb, p⟩ => ?_) h
  refine ⟨hi, e, by omega, by omega, for_range (lo := 0) (n := hi.toNat) Pv p (fun m σ' H' hm p => ?_) hd⟩
  have e0 : (0 : Int) + (m : Int) = (m : Int) := Int.zero_add _
  rw [e0]
  exact hs m σ' H' (by omega) p
end
/-! defs, methods, classes that keep their promises -/
/-- a def that may be called by its name -/
structure Cal (CX : CXT) (P : Program) (w : World) (K : PySem.W.Frag) (mg : Str → Option Value) (base : Heap) (k : Nat) (x : Str) (sp : Sp) : Prop where
  ex : ∃ (f : Addr) (fd : FuncData) (ps : List Str), FnOk P w K mg base CX k f fd ps sp ∧ mg x = some (.ref f) ∧ PySem.W.keepIn K (.ref f) = true ∧ Binds K fd ps []
/-- a method of a class, C its place -/
structure Met (CX : CXT) (P : Program) (w : World) (K : PySem.W.Frag) (mg : Str → Option Value) (base : Heap) (k : Nat) (C : Addr) (m : Str) (sp : Sp) : Prop where
  ex : ∃ (f : Addr) (fd : FuncData) (ps : List Str), Cls K C ∧ Meth K C m f ∧ FnOk P w K mg base CX k f fd ps sp ∧ Binds K fd ps []
/-- a class that may be called by its name -/
structure Mak (CX : CXT) (P : Program) (w : World) (K : PySem.W.Frag) (mg : Str → Option Value) (base : Heap) (k : Nat) (x : Str) (C : Addr) (sp : Sp) : Prop where
  ex : ∃ (f : Addr) (fd : FuncData) (ps : List Str), Mk K C f ∧ FnOk P w K mg base CX k f fd ps sp ∧ mg x = some (.ref C) ∧ Binds K fd ps []
section
variable {X : Cx} {k j : Nat} {C : Addr} {x m : Str} {sp : Sp} {p pos apos : Pos} {e o : Expr} {es : List Expr} {ta : TE} {t : TA}
theorem pe_c0 (c : Cal CX0 X.prog X.w X.K X.mg X.base k x sp) (hr : Room j X.A) (hk : k ≤ j) (hg : Gl X x) (hdb : (x == ("__debug__" : Str)) = false := by decide) :
    PE X (.Call (.Name x p) [] [] pos) (tCall sp [] E0 tNil) := by
  obtain ⟨f, fd, ps, F, hm, kp, b⟩ := c.ex
  exact pe_call0 F (hr.mono hk) hg hm kp b .nil pass0 hdb
theorem pe_c (c : Cal CX0 X.prog X.w X.K X.mg X.base k x sp) (hr : Room j X.A) (hk : k ≤ j) (hg : Gl X x) (ha : PA X (e :: es) t)
    (h1 : (x == ("__debug__" : Str)) = false := by decide) (h2 : starEach (e :: es) X.env = (false, eval e X.env) :: starEach es X.env := by rfl) (h3 : (backTo pos (starEach es X.env)).any (·.1) = false := by rfl) :
    PE X (.Call (.Name x p) (e :: es) [] pos) (tCall sp [] E0 t) := by
  obtain ⟨f, fd, ps, F, hm, kp, b⟩ := c.ex
  exact pe_call F (hr.mono hk) hg hm kp b .nil pass0 ha h1 h2 h3
theorem pe_mk (c : Mak CX0 X.prog X.w X.K X.mg X.base k x C sp) (hr : Room j X.A) (hk : k + 1 ≤ j) (hg : Gl X x) (ha : PA X (e :: es) t)
    (h1 : (x == ("__debug__" : Str)) = false := by decide) (h2 : starEach (e :: es) X.env = (false, eval e X.env) :: starEach es X.env := by rfl) (h3 : (backTo pos (starEach es X.env)).any (·.1) = false := by rfl) :
    PE X (.Call (.Name x p) (e :: es) [] pos) (tMake C sp [] E0 t) := by
  obtain ⟨f, fd, ps, M, F, hm, b⟩ := c.ex
  exact pe_make M F (hr.mono hk) hg hm b .nil pass0 ha h1 h2 h3
theorem pe_mt {pl : Sem Bool} (c : Met CX0 X.prog X.w X.K X.mg X.base k C m sp) (hr : Room j X.A) (hk : k ≤ j) (he : PE X o ta) (ha : PA X (e :: es) t)
    (h1 : starEach (e :: es) X.env = (false, eval e X.env) :: starEach es X.env := by rfl) (h2 : (backTo pos (starEach es X.env)).any (·.1) = false := by rfl)
    (h3 : eval (.Call (.Attribute o m apos) (e :: es) [] pos) X.env = (do
      let ov ← eval o X.env
      standAt apos.atName
      let (g, first) ← holding [ov] (getMethod ov m pl)
      callWith pos g first (backTo pos (starEach (e :: es) X.env)) (backToKw pos (keywordEach [] X.env))) := by rfl) :
    PE X (.Call (.Attribute o m apos) (e :: es) [] pos) (tMeth C m sp [] E0 ta t) := by
  obtain ⟨f, fd, ps, hc, hm, F, b⟩ := c.ex
  exact pe_meth (pl := pl) he hc hm F (hr.mono hk) b .nil pass0 ha h1 h2 h3
theorem pe_mt0 {pl : Sem Bool} (c : Met CX0 X.prog X.w X.K X.mg X.base k C m sp) (hr : Room j X.A) (hk : k ≤ j) (he : PE X o ta)
    (h3 : eval (.Call (.Attribute o m apos) [] [] pos) X.env = (do
      let ov ← eval o X.env
      standAt apos.atName
      let (g, first) ← holding [ov] (getMethod ov m pl)
      callWith pos g first (backTo pos (starEach [] X.env)) (backToKw pos (keywordEach [] X.env))) := by rfl) :
    PE X (.Call (.Attribute o m apos) [] [] pos) (tMeth C m sp [] E0 ta tNil) := by
  obtain ⟨f, fd, ps, hc, hm, F, b⟩ := c.ex
  exact pe_meth0 (pl := pl) he hc hm F (hr.mono hk) b .nil pass0 h3
theorem pe_gc {v : V} (g : Gl X x) (h : ∃ u, X.mg x = some u ∧ RelV v u) (hd : (x == ("__debug__" : Str)) = false := by decide) : PE X (.Name x pos) (tC v) := by
  obtain ⟨u, hm, r⟩ := h
  exact pe_glob g hm r hd
end
section
variable {P : Program} {w : World} {K : PySem.W.Frag} {mg : Str → Option Value} {base : Heap} {x qual m : Str} {st : Stmt} {f C : Addr} {fd : FuncData} {N ps : List Str} {k : Nat} {sp : Sp}
abbrev BindsOf (x qual : Str) (st : Stmt) (ps : List Str) : Prop := ∀ (kV doc pm : Value) (an : Option Addr) (cdv ct : Value) (us : List Value), us.length = ps.length → bindArgs (PySem.W.fnOf x qual (defArgs st) (defBody st) (defScope st) .none kV doc pm an cdv ct) ⟨us, []⟩ = pure (ps.zip us)
abbrev BodyOf (P : Program) (w : World) (K : PySem.W.Frag) (mg : Str → Option Value) (base : Heap) (qual : Str) (st : Stmt) (f : Addr) (N : List Str) (k : Nat) (sp : Sp) : Prop :=
  ∀ (cdv : Value) (A : Around) (outer : List Env) (s : Shared) (H : Hp) (vs : List V) (Q : VK) (E : XK), Room k (A.deeper (envOfC qual (defScope st) s.heap.objs.size f cdv)) → sp vs H Q E →
      ∃ t, PSs (cxOf CX0 P w K mg base N qual (defScope st) f cdv A outer s H E).nox (defBody st) t ∧ t { nx := fun _ H' => Q .non H', rt := Q } (start N vs) H
/-- a def of the module keeps its promise, by its body -/
theorem cal_of (F : Fun K x x st f fd) (hm : mg x = some (.ref f)) (b : BindsOf x x st ps) (S : FnScope N ps (defScope st)) (len : ∀ vs H Q E, sp vs H Q E → vs.length = ps.length)
    (body : BodyOf P w K mg base x st f N k sp) : Cal CX0 P w K mg base (k + 1) x sp :=
  ⟨f, fd, ps, F.ok S len body, hm, F.kp, F.binds b⟩
theorem met_of (c : Cls K C) (me : Meth K C m f) (F : Fun K m qual st f fd) (b : BindsOf m qual st ps) (S : FnScope N ps (defScope st)) (len : ∀ vs H Q E, sp vs H Q E → vs.length = ps.length)
    (body : BodyOf P w K mg base qual st f N k sp) : Met CX0 P w K mg base (k + 1) C m sp :=
  ⟨f, fd, ps, c, me, F.ok S len body, F.binds b⟩
theorem mak_of (M : Mk K C f) (hm : mg x = some (.ref C)) (F : Fun K "__init__" qual st f fd) (b : BindsOf "__init__" qual st ps) (S : FnScope N ps (defScope st)) (len : ∀ vs H Q E, sp vs H Q E → vs.length = ps.length)
    (body : BodyOf P w K mg base qual st f N k sp) : Mak CX0 P w K mg base (k + 1) x C sp :=
  ⟨f, fd, ps, M, F.ok S len body, hm, F.binds b⟩
end
/-- a module's constant -/
def HasC (mg : Str → Option Value) (x : Str) (v : V) : Prop := ∃ u, mg x = some u ∧ RelV v u
end BC
/-! BCEnum: enumerate(tuple). -/
namespace BC
open PySem PySem.Spec PyProof.Rows L2
open PySem.Sem (wp)
theorem meets_enumerate_new1 {v : Value} {o : Obj} {H : Heap → Prop} (B : Begins v o H) :
    Meets (Builtin.«enumerate.__new__» ⟨[.type "enumerate", v], []⟩) (fun _ R s => H s.heap ∧
      R (.ok (.ret (.ref (s.heap.push o).objs.size))) { s with heap := (s.heap.push o).push { cls := .type "enumerate", data := .fields #[.none, .bool false, .ref s.heap.objs.size, rawInt 0, .none, .none] } }) :=
  .of_wp fun prog w A R s h => by
    obtain ⟨hp0, g, d, tk0, os⟩ := s; obtain ⟨g1, h⟩ := h
    have hsub := sub_enumerate
    have beg : ∀ {A' : Around} {E : Value → Shared → Prop} {Q : Value → Shared → Prop}, Q (.ref hp0.objs.size) ⟨hp0.push o, g, d, tk0, os⟩ → wpAny (model prog w) A' (pyIter v) Q E ⟨hp0, g, d, tk0, os⟩ :=
      fun q => B.iter prog w _ _ ⟨hp0, g, d, tk0, os⟩ _ g1 q
    wp_walk using beg
    refine wpAny_stack_any (fun stk => wpAny_pure ?_)
    split
    · rename_i c _ _ _ _ _
      cases (c == (.type "enumerate" : Value))
      · wp_walk using beg
        exact ⟨_, rfl, h⟩
      · wp_walk using beg
        exact ⟨_, rfl, h⟩
    · wp_walk using beg
      exact ⟨_, rfl, h⟩
section
variable {prog : Program} {w : World} {A : Around} {s : Shared} {E : Value → Shared → Prop}
theorem call_enumerate_tuple {t : Addr} {items : Array Value} {Q : Value → Shared → Prop} (ht : s.heap.IsTuple t items)
    (h : ∀ h', IsEnum h' (s.heap.objs.size + 1) s.heap.objs.size 0 .none → h'.IsTupleIter s.heap.objs.size t 0 → h'.objs.size = s.heap.objs.size + 2 →
      (∀ b o, s.heap.get? b = some o → h'.get? b = some o) → Q (.ref (s.heap.objs.size + 1)) { s with heap := h' }) :
    wpAny (model prog w) A (call (.type "enumerate") [.ref t]) Q E s := by
  refine callType_new F.called_enumerate (by decide) (F.typeCall_enumerate_1 _) (F.newCall_enumerate_1 _) (fun obj => F.args_object_init_2 obj _) F.entry_enumerate_new
    (meets_enumerate_new1 (begins_tuple t items)) ⟨ht, ?_⟩
  have zE : (s.heap.push { cls := .type "tuple_iterator", data := .fields #[.ref t, .int 0 0] }).objs.size = s.heap.objs.size + 1 := Heap.size_push ..
  show _ ∧ _
  rw [zE]
  have hE : IsEnum ((s.heap.push { cls := .type "tuple_iterator", data := .fields #[.ref t, .int 0 0] }).push
      { cls := .type "enumerate", data := .fields #[.none, .bool false, .ref s.heap.objs.size, rawInt 0, .none, .none] }) (s.heap.objs.size + 1) s.heap.objs.size 0 .none := by
    have := Heap.get?_push_size (s.heap.push { cls := .type "tuple_iterator", data := .fields #[.ref t, .int 0 0] })
      (o := { cls := .type "enumerate", data := .fields #[.none, .bool false, .ref s.heap.objs.size, rawInt 0, .none, .none] }) rfl
    rw [zE] at this; exact this
  refine ⟨⟨_, hE, rfl⟩, h _ hE ⟨_, Heap.get?_push_of_some _ (Heap.get?_push_size _ rfl), rfl, rfl⟩ (by rw [Heap.size_push, zE]) fun b o x => Heap.get?_push_of_some _ (Heap.get?_push_of_some _ x)⟩
end
/-- the tuple at a, each item in a new pair -/
def ItT (K : PySem.W.Frag) (a : Addr) : It :=
  ⟨fun i H => ∃ (xs : List V) (x : V), SqT K H a xs ∧ xs[i]? = some x, fun i H v H' => ∃ T x, v = .ref T ∧ H T = none ∧ H' = upd H T (.tup [.int (i : Nat), x]) ∧ ∀ xs, SqT K H a xs → xs[i]? = some x, fun i H => ∃ xs : List V, SqT K H a xs ∧ xs.length = i⟩
theorem turn_enumT {P : Program} {w : World} {K : PySem.W.Frag} {elts : List Expr} {kk : Nat} {tpos : Pos} (a e it : Addr) :
    Turn P w K (.Tuple elts kk tpos) (ItT K a) [e, it] e (fun i h => (∃ o0, IsEnum h e it ((i : Nat) : Int) o0) ∧ h.IsTupleIter it a i ∧ e ≠ it ∧ a ≠ it ∧ a ≠ e) where
  mem := by simp
  obj := fun i h st b nb => by
    obtain ⟨⟨o0, hE⟩, ⟨o, ho, hc, hd⟩, _⟩ := st
    have e' : b = e ∨ b = it := by simpa using nb
    rcases e' with z | z
    · rw [z]; exact ⟨_, hE, fun v q => nomatch q⟩
    · rw [z]; exact ⟨o, ho, fun v q => by rw [hd] at q; cases q⟩
  keep := fun i h h' st k => let ⟨⟨o0, hE⟩, hi, hN⟩ := st; ⟨⟨o0, k e (by simp) _ hE⟩, hi.at fun o q => k it (by simp) o q, hN⟩
  item := by
    intro X gP gw gK hc i pn s σ H E I hfp st go0
    subst gP gw gK
    obtain ⟨⟨o0, hE⟩, hI, hN, hai, hae⟩ := st
    obtain ⟨xs, x, sq, at0⟩ := go0
    obtain ⟨us0, rV, p, zE⟩ := I.tuple sq
    obtain ⟨u, uAt, rU⟩ := rV.get at0
    have ltE : e < s.heap.objs.size := Heap.lt_size hE
    have ltI : it < s.heap.objs.size := by obtain ⟨_, q, _⟩ := hI; exact Heap.lt_size q
    have hlt : i < us0.toArray.size := by
      have := (List.getElem?_eq_some_iff.mp uAt).1
      simpa using this
    refine wpAny_pyNext_enum_itemD (Draws.tuple (A := X.A.in1) (I.ok.hd hc) it a hai us0.toArray) hE ⟨hI, show s.heap.IsTuple a us0.toArray from p⟩ hlt hN (by simp; exact ⟨hN, fun z => hae z.symm⟩) fun x' h' tk0 gP ho hst' newT sz0 kp0 => ?_
    obtain ⟨hI', hp0'⟩ := hst'
    have ex : x' = u := by
      have g1 : us0.toArray[i]? = some u := by simpa using uAt
      rw [g1] at gP
      exact (Option.some.inj gP).symm
    subst ex
    refine ⟨_, rfl, wpAny_letOwnedTupleGo_enum (s := { s with heap := h', toks := tk0 + 1 }) ho fun h'' hE' sB => ?_⟩
    have hT2 : h''.get? s.heap.objs.size = some { cls := .type "tuple", data := .seq #[.int i tk0, x'] } := (sB.2 _ (Nat.ne_of_gt ltE)).trans newT
    have new : ObjOk X.prog X.w (upd H s.heap.objs.size (.tup [.int (i : Nat), x])) h'' s.heap.objs.size (.tup [.int (i : Nat), x]) :=
      ⟨by show 2 ≤ sizeLine; decide, [.int i tk0, x'], .cons ⟨_, rfl⟩ (.cons rU .nil), ⟨_, hT2, rfl, _, rfl⟩⟩
    have J1 : Inv X pn σ (upd H s.heap.objs.size (.tup [.int (i : Nat), x])) { s with heap := h'', toks := tk0 + 1 } :=
      I.turnedNew (ch := [e, it]) (fun b ob nb q => (sB.2 b (fun z => nb (by simp [z]))).trans (kp0 b ob (fun z => nb (by simp [z])) (fun z => nb (by simp [z])) q)) hfp (Nat.le_refl _) new
    refine ⟨.ref s.heap.objs.size, _, J1, rfl, ⟨_, x, rfl, I.hok.fresh (Nat.le_refl _), rfl, fun ys hy => by rw [I.tuple_inj hy sq]; exact at0⟩, ⟨⟨x', ?_⟩, hI'.at fun o q => (sB.2 it (Ne.symm hN)).trans q, hN, hai, hae⟩, fun b nb => ?_⟩
    · have ee1 : ((i + 1 : Nat) : Int) = (i : Int) + 1 := by omega
      rw [ee1]; exact hE'
    · have nb' : b < s.heap.objs.size := by
        have e' : b = e ∨ b = it := by simpa using nb
        rcases e' with z | z
        · rw [z]; exact ltE
        · rw [z]; exact ltI
      rw [upd_ne (Nat.ne_of_lt nb')]
      exact (hfp b nb).1
  done := by
    intro X gP gw gK hc i pn s σ H E I hfp st go0
    subst gP gw gK
    obtain ⟨⟨o0, hE⟩, hI, hN, hai, hae⟩ := st
    obtain ⟨xs, sq, at0⟩ := go0
    obtain ⟨us0, rV, p, zE⟩ := I.tuple sq
    obtain ⟨c0, c1, c2, c3, c4, c5⟩ := hfp it (by simp)
    have hl := rV.length
    have leB : us0.toArray.size = i := by simp; omega
    subst leB
    exact wpAny_pyNext_enum_endD (Draws.tuple (A := X.A.in1) (I.ok.hd hc) it a hai us0.toArray) hE ⟨hI, show s.heap.IsTuple a us0.toArray from p⟩ fun h' ebt => ⟨rfl, I.turned (t' := s.toks) (fun b o nb q => ebt b o nb q) c0 c1 c3 c4 c5⟩
  self := fun A i s Q E st h => let ⟨⟨_, hE⟩, _⟩ := st; wpAny_pyIter_enum hE h
def iEnumT (K : PySem.W.Frag) (ta : TA) : TI := fun σ H R => ta σ H fun vs H1 => ∃ a xs, vs = [.ref a] ∧ SqT K H1 a xs ∧ R (ItT K a) H1
theorem pi_enumT {X : Cx} {e : Expr} {ta : TA} {p pos tpos : Pos} {elts : List Expr} {kk : Nat} (go0 : Gl X "enumerate") (hm : X.mg "enumerate" = none) (ha : PA X [e] ta) (hs : starEach [e] X.env = [(false, eval e X.env)] := by rfl) :
    PI X (.Tuple elts kk tpos) (.Call (.Name "enumerate" p) [e] [] pos) (iEnumT X.K ta) := by
  refine ⟨fun pn s σ H R I h => ?_⟩
  refine Call_ (ld_blt I go0 hm boot_enumerate (PyProof.Rows.callWith_type1 (thn (ha.run pos pn s σ H _ I h) fun us s1 ⟨vs, H1, J1, r1, beg⟩ => ?_) hs rfl))
  obtain ⟨a, xs, ex, sq, q⟩ := beg
  subst ex
  cases r1 with
  | cons r rr =>
    cases rr
    cases r
    obtain ⟨us0, rV, p', zE⟩ := J1.tuple sq
    have hal : a < s1.heap.objs.size := p'.lt
    refine call_enumerate_tuple (show s1.heap.IsTuple a us0.toArray from p') fun h' hE hI sz0 kp0 => wpAny_pyIter_enum hE ?_
    have J2 : Inv X pn σ H1 { s1 with heap := h' } := J1.kept (t' := s1.toks) kp0
    refine ⟨s1.heap.objs.size + 1, [s1.heap.objs.size + 1, s1.heap.objs.size], _, _, H1, rfl, J2, turn_enumT a (s1.heap.objs.size + 1) s1.heap.objs.size, ⟨⟨.none, hE⟩, hI, Nat.succ_ne_self _, Nat.ne_of_lt hal, Nat.ne_of_lt (Nat.lt_succ_of_lt hal)⟩, fun b nb => ?_, q⟩
    have e' : b = s1.heap.objs.size + 1 ∨ b = s1.heap.objs.size := by simpa using nb
    have leB : s1.heap.objs.size ≤ b := by
      rcases e' with z | z
      · rw [z]; exact Nat.le_add_right _ _
      · rw [z]; exact Nat.le_refl _
    exact J1.fpOk leB (J1.hok.fresh leB)
theorem walk_enumT {K : PySem.W.Frag} {a : Addr} {xs : List V} : Walk (ItT K a) xs.length (fun H => SqT K H a xs) (YPair (fun i => some (.int (i : Nat))) (fun i => xs[i]?)) := by
  refine ⟨fun i _ hi q => ⟨xs, xs[i], q, by simp [hi]⟩, fun _ q => ⟨xs, q, rfl⟩, fun i H v H' _ q y => ?_⟩
  obtain ⟨T, x, g1, h2, h3, h4⟩ := y
  exact ⟨T, .int (i : Nat), x, g1, h2, h3, rfl, h4 xs q⟩
/-- for i, x in enumerate(t): the pair is unpacked into two slots -/
theorem st_forET {K : PySem.W.Frag} {σ : L2.St} {H H0 : Hp} {D : Ends} {x : V} {ds : List PyData} {m0 m1 m2 : Nat} {tb : TS} (Pv : Nat → L2.St → Hp → Prop) (e : σ[m0]? = some (some x)) (h : Im H0 (.tuple ds) x) (k : Kp H0 H) (h0 : Pv 0 σ H) (kp0 : ∀ m σ' H', Pv m σ' H' → Kp H0 H')
    (hs : ∀ (m : Nat) d v σ' H' H'', ds[m]? = some d → Pv m σ' H' → Ex H' H'' → Im H'' d v → tb { D with nx := Pv (m + 1), ct := Pv (m + 1), bk := D.nx } ((σ'.set m1 (some (.int (m : Int)))).set m2 (some v)) H'')
    (hd : ∀ σ' H', Pv ds.length σ' H' → D.nx σ' H') : tFor (iEnumT K (tCons (tVar m0) tNil)) (gTup K 2 (gCons (gName m1) (gCons (gName m2) gNil))) tb D σ H := by
  obtain ⟨a, xs, rfl, g1, h2⟩ := h.tup
  refine ⟨_, e, a, xs, rfl, SqT.of (k a xs g1), for_it (walk_enumT (K := K) (a := a) (xs := xs)) Pv h0 (fun m σ' H' _ p => SqT.of (kp0 m σ' H' p a xs g1)) (fun m v σ' H' H'' hlt p y => ?_) fun σ' H' p => hd σ' H' (h2.length ▸ p)⟩
  obtain ⟨T, y1, y2, rfl, f, rfl, ee1, e2⟩ := y
  have ee1' : y1 = .int (m : Int) := (Option.some.inj ee1).symm
  subst ee1'
  obtain ⟨d, g1, g2⟩ := h2.get' e2
  refine ⟨T, [.int (m : Int), y2], rfl, SqT.of upd_same, rfl, _, [y2], rfl, y2, [], rfl, rfl, ?_⟩
  exact hs m d y2 σ' H' _ g1 p (Ex.new f) (g2.kp ((kp0 m σ' H' p).trans (Ex.new f).kp))
end BC
/-! BCData: boards as data, raw ones and good ones; more steps. -/
namespace BC
open PySem PySem.Spec PyProof.Rows L2
section
variable {K : PySem.W.Frag} {σ : L2.St} {H H0 H1 : Hp} {D : Ends} {Q : VK} {i j : Int} {n : Nat} {v x y : V} {d e : PyData} {ds es : List PyData} {vs xs ys : List V} {a b l p : Addr}
theorem st_fdiv {f : Int → Int → V} (c : 0 < j ∧ j < 1073741824) (h : Q (f i j) H) : rI CDiv f (.int i) (.int j) H Q := ⟨i, j, rfl, rfl, c, h⟩
theorem st_mod {f : Int → Int → V} (c : 0 < j) (h : Q (f i j) H) : rI (fun _ j => 0 < j) f (.int i) (.int j) H Q := ⟨i, j, rfl, rfl, c, h⟩
theorem st_mul {f : Int → Int → V} (c : (-(2 ^ 64) < i ∧ i < 2 ^ 64) ∨ (-(2 ^ 64) < j ∧ j < 2 ^ 64)) (h : Q (f i j) H) : rI CMul f (.int i) (.int j) H Q := ⟨i, j, rfl, rfl, c, h⟩
theorem st_in {neg : Bool} (h : H p = some (.tup xs)) (hx : flatV x = true) (hf : xs.all flatV = true) (q : Q (.bl (if neg then !inV x xs else inV x xs)) H) : rIn K neg x (.ref p) H Q := ⟨p, xs, rfl, .inr (SqT.of h), hx, hf, q⟩
theorem st_inL {neg : Bool} (h : H p = some (.lst xs)) (hx : flatV x = true) (hf : xs.all flatV = true) (q : Q (.bl (if neg then !inV x xs else inV x xs)) H) : rIn K neg x (.ref p) H Q := ⟨p, xs, rfl, .inl (SqL.of h), hx, hf, q⟩
theorem st_in2 {s s1 s2 : Str} (h : H p = some (.tup [.str s1, .str s2])) (q : Q (.bl (decide (s = s1 ∨ s = s2))) H) : rIn K false (.str s) (.ref p) H Q := by
  refine st_in h rfl rfl ?_
  have e : inV (.str s) [.str s1, .str s2] = decide (s = s1 ∨ s = s2) := by
    simp only [inV, List.any_cons, List.any_nil, eqV, Bool.or_false]
    rw [Bool.eq_iff_iff]
    simp only [Bool.or_eq_true, beq_iff_eq, decide_eq_true_eq]
    constructor
    · rintro (h | h)
      · exact .inl h.symm
      · exact .inr h.symm
    · rintro (h | h)
      · exact .inl h.symm
      · exact .inr h.symm
  show Q (.bl (inV (.str s) [.str s1, .str s2])) H
  rw [e]
  exact q
theorem Im.new (hp : H p = none) (h : Im H d v) {o : HO} : Im (upd H p o) d v := h.kp (Kp.new hp (Kp.refl H))
theorem ImL.new (hp : H p = none) (h : ImL H ds vs) {o : HO} : ImL (upd H p o) ds vs := h.kp (Kp.new hp (Kp.refl H))
theorem Im.ex (e : Ex H H1) (h : Im H d v) : Im H1 d v := h.kp e.kp
theorem ImL.ex (e : Ex H H1) (h : ImL H ds vs) : ImL H1 ds vs := h.kp e.kp
end

/-! ### raw boards -/
abbrev ROrd := Int × Int × Int × Option Int
abbrev RDeed := Str × List Int
structure RB where
  mem : List Int
  ords : List ROrd
  prog : List RDeed
def pyOpt : Option Int → PyData
  | none => .none
  | some i => .int i
abbrev pyOrd (o : ROrd) : PyData := .tuple [.int o.1, .int o.2.1, .int o.2.2.1, pyOpt o.2.2.2]
abbrev pyDeed (d : RDeed) : PyData := .tuple (.str d.1 :: d.2.map .int)
abbrev pyMem (m : List Int) : PyData := .tuple (m.map .int)
abbrev pyOrds (os : List ROrd) : PyData := .tuple (os.map pyOrd)
abbrev pyProg (p : List RDeed) : PyData := .tuple (p.map pyDeed)
abbrev pyB (b : RB) : PyData := .tuple [pyMem b.mem, pyOrds b.ords, pyProg b.prog]
/-- the value of an optional number -/
def vOpt : Option Int → V
  | none => .non
  | some i => .int i
theorem im_opt {H : Hp} {o : Option Int} {v : V} : Im H (pyOpt o) v ↔ v = vOpt o := by
  cases o with
  | none => exact Im.none_iff
  | some i => exact Im.int_iff
/-- an order, unpacked -/
theorem ord_inv {H : Hp} {o : ROrd} {xs : List V} (h : ImL H [.int o.1, .int o.2.1, .int o.2.2.1, pyOpt o.2.2.2] xs) : xs = [.int o.1, .int o.2.1, .int o.2.2.1, vOpt o.2.2.2] := by
  obtain ⟨v1, r1, rfl, h1, h⟩ := h.cons_inv
  obtain ⟨v2, r2, rfl, h2, h⟩ := h.cons_inv
  obtain ⟨v3, r3, rfl, h3, h⟩ := h.cons_inv
  obtain ⟨v4, r4, rfl, h4, h⟩ := h.cons_inv
  rw [h.nil_inv, Im.int_iff.mp h1, Im.int_iff.mp h2, Im.int_iff.mp h3, im_opt.mp h4]
theorem ints_at {ns : List Int} {i : Nat} {n : Int} (h : ns[i]? = some n) : (ns.map PyData.int)[i]? = some (.int n) := by
  rw [List.getElem?_map, h]
  rfl
theorem map_at {α β : Type} {f : α → β} {l : List α} {i : Nat} {x : α} (h : l[i]? = some x) : (l.map f)[i]? = some (f x) := by
  rw [List.getElem?_map, h]
  rfl
theorem map_at' {α β : Type} {f : α → β} {l : List α} {i : Nat} {y : β} (h : (l.map f)[i]? = some y) : ∃ x, l[i]? = some x ∧ y = f x := by
  rw [List.getElem?_map] at h
  cases e : l[i]? with
  | none =>
    rw [e] at h
    cases h
  | some x =>
    rw [e] at h
    exact ⟨x, rfl, (Option.some.inj h).symm⟩

/-! ### what check_board looks at -/
def digit (n : Int) : Bool := decide (0 ≤ n ∧ n ≤ 9)
/-- memory_fault -/
def memFault (m : List Int) : Option Nat :=
  if m.length % 4 ≠ 0 ∨ ¬ (1 ≤ m.length / 4 ∧ m.length / 4 ≤ 4) then some 0 else m.findIdx? fun n => !digit n
def ordOk (cells n i : Nat) (o : ROrd) : Bool :=
  decide (1 ≤ o.2.2.1 ∧ o.2.2.1 ≤ 8) && decide (0 ≤ o.1 ∧ o.1 ≤ cells - o.2.2.1) && decide (0 ≤ o.2.1 ∧ o.2.1 ≤ cells - o.2.2.1) &&
    match o.2.2.2 with
    | none => true
    | some l => decide ((i : Int) + 1 ≤ l ∧ l ≤ (n : Int) - 1)
def deedOk (cells n : Nat) (d : RDeed) : Bool :=
  if d.1 = "wait" then d.2.length == 0
  else if d.1 = "set" ∨ d.1 = "add" then
    match d.2 with
    | [x, y] => decide (0 ≤ x ∧ x ≤ (cells : Int) - 1) && decide (0 ≤ y ∧ y ≤ if d.1 = "set" then (9 : Int) else (cells : Int) - 1)
    | _ => false
  else
    match d.2 with
    | [x] => if d.1 = "say" then decide (0 ≤ x ∧ x ≤ (cells : Int) - 1) else if d.1 = "start" then decide (0 ≤ x ∧ x ≤ (n : Int) - 1) else decide (d.1 = "clean" ∨ d.1 = "drop") && decide (0 ≤ x ∧ x ≤ ((cells / 4 : Nat) : Int) - 1)
    | _ => false
def isStart (d : RDeed) : Bool := decide (d.1 = "start")
/-- a board that can be -/
structure RGood (b : RB) : Prop where
  mem : memFault b.mem = none
  ords : b.ords.length ≤ 4 ∧ ∀ i o, b.ords[i]? = some o → ordOk b.mem.length b.ords.length i o = true
  prog : b.prog.length ≤ 60 ∧ (∀ d ∈ b.prog, deedOk b.mem.length b.ords.length d = true) ∧ (b.prog.filter isStart).length ≤ 3
end BC
/-! BCTyped: good boards: orders, deeds, moves. -/
namespace BC
open PySem PySem.Spec PyProof.Rows L2
theorem ofS_inj {a b : String} : Str.ofString a = Str.ofString b ↔ a = b := by
  constructor
  · intro h
    have h1 : (Str.ofString a).cps.toList = (Str.ofString b).cps.toList := by rw [h]
    have h2 : a.toList.map Char.toNat = b.toList.map Char.toNat := by simpa [Str.ofString_eq_toList] using h1
    have h3 : a.toList = b.toList := (List.map_inj_right (f := Char.toNat) (fun x y hxy => Char.toNat_inj.mp hxy)).mp h2
    exact String.toList_inj.mp h3
  · intro h
    rw [h]
theorem ofS_beq {a b : String} : (Str.ofString a == Str.ofString b) = decide (a = b) := by
  rw [Bool.eq_iff_iff, beq_iff_eq, decide_eq_true_eq]
  exact ofS_inj
structure Ord where
  src : Nat
  dst : Nat
  many : Nat
  later : Option Nat
def oN : Option Nat → Option Int
  | none => none
  | some n => some (n : Int)
abbrev Ord.raw (o : Ord) : ROrd := ((o.src : Int), (o.dst : Int), (o.many : Int), oN o.later)
inductive Deed where
  | set (c n : Nat) | add (c o : Nat) | say (c : Nat) | start (k : Nat) | wait | clean (l : Nat) | drop (l : Nat)
  deriving DecidableEq
abbrev Deed.raw : Deed → RDeed
  | .set c n => ("set", [(c : Int), (n : Int)])
  | .add c o => ("add", [(c : Int), (o : Int)])
  | .say c => ("say", [(c : Int)])
  | .start k => ("start", [(k : Int)])
  | .wait => ("wait", [])
  | .clean l => ("clean", [(l : Int)])
  | .drop l => ("drop", [(l : Int)])
def Deed.isStart : Deed → Bool
  | .start _ => true
  | _ => false
structure Bd where
  mem : List Int
  ords : List Ord
  prog : List Deed
abbrev Bd.raw (b : Bd) : RB := ⟨b.mem, b.ords.map Ord.raw, b.prog.map Deed.raw⟩
structure OrdsOk (cells : Nat) (os : List Ord) : Prop where
  ok : ∀ i o, os[i]? = some o → 1 ≤ o.many ∧ o.many ≤ 8 ∧ o.src + o.many ≤ cells ∧ o.dst + o.many ≤ cells ∧ ∀ l, o.later = some l → i < l ∧ l < os.length
def Deed.Ok (cells n : Nat) : Deed → Prop
  | .set c k => c < cells ∧ k ≤ 9
  | .add c o => c < cells ∧ o < cells
  | .say c => c < cells
  | .start k => k < n
  | .wait => True
  | .clean l => l < cells / 4
  | .drop l => l < cells / 4
structure Good (b : Bd) : Prop where
  four : b.mem.length % 4 = 0
  lines : 1 ≤ b.mem.length / 4 ∧ b.mem.length / 4 ≤ 4
  digits : ∀ n ∈ b.mem, 0 ≤ n ∧ n ≤ 9
  ords : b.ords.length ≤ 4
  ordsOk : OrdsOk b.mem.length b.ords
  len : b.prog.length ≤ 60
  deeds : ∀ d ∈ b.prog, d.Ok b.mem.length b.ords.length
  starts : (b.prog.filter Deed.isStart).length ≤ 3
theorem deedOk_raw {cells n : Nat} : ∀ {d : Deed}, d.Ok cells n → deedOk cells n d.raw = true
  | .set c k, h => by
    have h1 : c < cells ∧ k ≤ 9 := h
    simp [deedOk, Deed.raw, ofS_inj]
    omega
  | .add c o, h => by
    have h1 : c < cells ∧ o < cells := h
    simp [deedOk, Deed.raw, ofS_inj]
    omega
  | .say c, h => by
    have h1 : c < cells := h
    simp [deedOk, Deed.raw, ofS_inj]
    omega
  | .start k, h => by
    have h1 : k < n := h
    simp [deedOk, Deed.raw, ofS_inj]
    omega
  | .wait, h => by simp [deedOk, Deed.raw, ofS_inj]
  | .clean l, h => by
    have h1 : l < cells / 4 := h
    simp [deedOk, Deed.raw, ofS_inj]
    omega
  | .drop l, h => by
    have h1 : l < cells / 4 := h
    simp [deedOk, Deed.raw, ofS_inj]
    omega
theorem isStart_raw : ∀ d : Deed, BC.isStart d.raw = d.isStart
  | .set _ _ => by simp [BC.isStart, Deed.raw, Deed.isStart, ofS_inj]
  | .add _ _ => by simp [BC.isStart, Deed.raw, Deed.isStart, ofS_inj]
  | .say _ => by simp [BC.isStart, Deed.raw, Deed.isStart, ofS_inj]
  | .start _ => by simp [BC.isStart, Deed.raw, Deed.isStart, ofS_inj]
  | .wait => by simp [BC.isStart, Deed.raw, Deed.isStart, ofS_inj]
  | .clean _ => by simp [BC.isStart, Deed.raw, Deed.isStart, ofS_inj]
  | .drop _ => by simp [BC.isStart, Deed.raw, Deed.isStart, ofS_inj]
theorem Good.raw {b : Bd} (g : Good b) : RGood b.raw where
  mem := by
    unfold memFault
    rw [if_neg (by
      have h1 := g.four
      have h2 := g.lines
      rintro (h | h)
      · exact h h1
      · exact h h2), List.findIdx?_eq_none_iff]
    intro n hn
    have := g.digits n hn
    simp [digit, this]
  ords := by
    refine ⟨by simpa using g.ords, fun i o ho => ?_⟩
    obtain ⟨o', h1, rfl⟩ := map_at' ho
    have h2 := g.ordsOk.ok i o' h1
    obtain ⟨a1, a2, a3, a4, a5⟩ := h2
    unfold ordOk
    simp only [List.length_map, Ord.raw, Bool.and_eq_true, decide_eq_true_eq]
    refine ⟨⟨⟨by omega, by omega⟩, by omega⟩, ?_⟩
    cases e : o'.later with
    | none => rfl
    | some l =>
      have := a5 l e
      simp only [oN, decide_eq_true_eq]
      omega
  prog := by
    refine ⟨by simpa using g.len, fun d hd => ?_, ?_⟩
    · obtain ⟨d', h1, rfl⟩ := List.mem_map.mp hd
      simp only [List.length_map]
      exact deedOk_raw (g.deeds d' h1)
    · have := g.starts
      simp only [List.filter_map, List.length_map]
      have e : (BC.isStart ∘ Deed.raw) = Deed.isStart := funext isStart_raw
      rw [e]
      exact this

/-! ### moves -/
structure Mv where
  src : Nat
  dst : Nat
  bell : Option Nat
  deriving DecidableEq
abbrev pyMv (m : Mv) : PyData := .tuple [.int (m.src : Int), .int (m.dst : Int), pyOpt (oN m.bell)]
def mvAt (o : Ord) (k s : Nat) : Mv := ⟨o.src + s, o.dst + s, if s + 1 = o.many then some k else none⟩
def movesOne (o : Ord) (k : Nat) : List Mv := (List.range o.many).map (mvAt o k)
def movesFrom (os : List Ord) : Nat → Nat → List Mv
  | 0, _ => []
  | n + 1, k => match os[k]? with
    | none => []
    | some o => movesOne o k ++ match o.later with
      | none => []
      | some l => movesFrom os n l
def movesOf (os : List Ord) (k : Nat) : List Mv := movesFrom os os.length k
def movesO (os : List Ord) : Option Nat → List Mv
  | none => []
  | some k => movesOf os k
theorem movesFrom_fuel {cells : Nat} {os : List Ord} (g : OrdsOk cells os) : ∀ (n m k : Nat), os.length ≤ n + k → os.length ≤ m + k → movesFrom os n k = movesFrom os m k
  | 0, 0, _, _, _ => rfl
  | 0, m + 1, k, h, _ => by
    have e : os[k]? = none := List.getElem?_eq_none (by omega)
    simp [movesFrom, e]
  | n + 1, 0, k, _, h => by
    have e : os[k]? = none := List.getElem?_eq_none (by omega)
    simp [movesFrom, e]
  | n + 1, m + 1, k, h1, h2 => by
    cases e : os[k]? with
    | none => simp [movesFrom, e]
    | some o =>
      simp only [movesFrom, e]
      cases e2 : o.later with
      | none => rfl
      | some l =>
        have := (g.ok k o e).2.2.2.2 l e2
        simp only
        rw [movesFrom_fuel g n m l (by omega) (by omega)]
theorem movesO_some {cells : Nat} {os : List Ord} (g : OrdsOk cells os) {k : Nat} {o : Ord} (h : os[k]? = some o) : movesO os (some k) = movesOne o k ++ movesO os o.later := by
  show movesFrom os os.length k = _
  have hk : k < os.length := (List.getElem?_eq_some_iff.mp h).1
  cases hn : os.length with
  | zero => omega
  | succ n =>
    simp only [movesFrom, h]
    cases e2 : o.later with
    | none => rfl
    | some l =>
      have := (g.ok k o h).2.2.2.2 l e2
      simp only [movesO, movesOf]
      rw [movesFrom_fuel g n os.length l (by omega) (by omega)]
theorem movesOne_len (o : Ord) (k : Nat) : (movesOne o k).length = o.many := by simp [movesOne]
theorem moves_in {cells : Nat} {os : List Ord} (g : OrdsOk cells os) : ∀ (n k : Nat) (m : Mv), m ∈ movesFrom os n k → m.src < cells ∧ m.dst < cells
  | 0, _, _, h => by simp [movesFrom] at h
  | n + 1, k, m, h => by
    cases e : os[k]? with
    | none => simp [movesFrom, e] at h
    | some o =>
      simp only [movesFrom, e] at h
      obtain ⟨a1, a2, a3, a4, a5⟩ := g.ok k o e
      rcases List.mem_append.mp h with h | h
      · simp only [movesOne, List.mem_map, List.mem_range] at h
        obtain ⟨s, hs, rfl⟩ := h
        simp only [mvAt]
        omega
      · cases e2 : o.later with
        | none => simp [e2] at h
        | some l =>
          simp only [e2] at h
          exact moves_in g n l m h
theorem moves_len {cells : Nat} {os : List Ord} (g : OrdsOk cells os) : ∀ (n k : Nat), (movesFrom os n k).length ≤ 8 * n
  | 0, _ => by simp [movesFrom]
  | n + 1, k => by
    cases e : os[k]? with
    | none => simp [movesFrom, e]
    | some o =>
      obtain ⟨a1, a2, a3, a4, a5⟩ := g.ok k o e
      simp only [movesFrom, e, List.length_append, movesOne_len]
      cases e2 : o.later with
      | none => simp only [List.length_nil]; omega
      | some l =>
        have := moves_len g n l
        simp only
        omega
end BC
/-! BCObj: steps about objects and dicts; the plain object. -/
namespace BC
open PySem PySem.Spec PyProof.Rows L2
theorem st_NT {A B : Prop} (h : B) : if (!true) = true then A else B := iteF h
theorem st_NF {A B : Prop} (h : A) : if (!false) = true then A else B := iteT h
theorem fr1 {H H2 : Hp} {a b : Addr} {o : HO} (f : Fr [a] H H2) (h : H b = some o) (n : b ≠ a) : H2 b = some o := f b o h (by simpa using n)
theorem ne_ins {H : Hp} {p l C dx : Addr} {fs : List (Str × V)} {xs : List V} (h1 : H p = some (.ins C dx fs)) (h2 : H l = some (.lst xs)) : p ≠ l := ne_of h1 h2 (by intro z; cases z)
def GetF (K : PySem.W.Frag) (f : Str) (x : V) (H : Hp) (Q : VK) : Prop := ∃ a C dx fs v, x = .ref a ∧ H a = some (.ins C dx fs) ∧ Cls K C ∧ NoAttr K C f ∧ fs.lookup f = some v ∧ Q v H
def SetF (K : PySem.W.Frag) (f : Str) (y x : V) (H : Hp) (R : Hp → Prop) : Prop := ∃ a C dx fs, x = .ref a ∧ H a = some (.ins C dx fs) ∧ Cls K C ∧ NoAttr K C f ∧ fs.length < 1000 ∧ R (upd H a (.ins C dx (putF f y fs)))
def CallM (C : Addr) (m : Str) (sp : Sp) (E : XK) (tr : TA) (x : V) (σ : L2.St) (H : Hp) (Q : VK) : Prop := ∃ a dx fs, x = .ref a ∧ H a = some (.ins C dx fs) ∧ fs.lookup m = none ∧ tr σ H fun vs H2 => sp (x :: vs) H2 Q E
def MakeC (C : Addr) (sp : Sp) (E : XK) (vs : List V) (H1 : Hp) (Q : VK) : Prop := ∀ x dx, H1 x = none → H1 dx = none → dx ≠ x → sp (.ref x :: vs) (upd (upd H1 dx (.own x)) x (.ins C dx [])) (fun v H2 => v = .non ∧ Q (.ref x) H2) E
section
variable {K : PySem.W.Frag} {σ : L2.St} {H H0 H1 : Hp} {D : Ends} {Q : VK} {t u : TS} {ta tb te tv : TE} {tr : TA} {i j : Int} {n : Nat} {v x y : V} {vs xs : List V} {a C dx l p : Addr} {f m : Str} {fs : List (Str × V)} {sp : Sp} {E : XK}
theorem st_fld (h : ta σ H fun x H1 => GetF K f x H1 Q) : tFld K ta f σ H Q := h
theorem st_getF (h : H a = some (.ins C dx fs)) (hc : Cls K C) (hn : NoAttr K C f) (e : fs.lookup f = some v) (q : Q v H) : GetF K f (.ref a) H Q := ⟨a, C, dx, fs, v, rfl, h, hc, hn, e, q⟩
theorem st_sfld (h : tv σ H fun y H1 => ta σ H1 fun x H2 => SetF K f y x H2 (D.nx σ)) : sFld K ta tv f D σ H := h
theorem st_setF {R : Hp → Prop} (h : H a = some (.ins C dx fs)) (hc : Cls K C) (hn : NoAttr K C f) (hl : fs.length < 1000) (q : ∀ H2, Fr [a] H H2 → Kp H H2 → H2 a = some (.ins C dx (putF f y fs)) → R H2) : SetF K f y (.ref a) H R :=
  ⟨a, C, dx, fs, rfl, h, hc, hn, hl, q _ (Fr.mut (List.mem_singleton.mpr rfl) (Fr.refl _ _)) (Kp.mut (nt_of h trivial) (Kp.refl _)) upd_same⟩
theorem st_meth (h : ta σ H fun x H1 => CallM C m sp E tr x σ H1 Q) : tMeth C m sp [] E ta tr σ H Q := by
  show ta σ H fun x H1 => ∃ a dx fs, x = .ref a ∧ H1 a = some (.ins C dx fs) ∧ fs.lookup m = none ∧ tr σ H1 fun vs H2 => sp (x :: (vs ++ [])) H2 Q E
  unfold CallM at h
  simpa only [List.append_nil] using h
theorem st_callM (h : H a = some (.ins C dx fs)) (e : fs.lookup m = none) (q : tr σ H fun vs H2 => sp (.ref a :: vs) H2 Q E) : CallM C m sp E tr (.ref a) σ H Q := ⟨a, dx, fs, rfl, h, e, q⟩
theorem st_make (h : tr σ H fun vs H1 => MakeC C sp E vs H1 Q) : tMake C sp [] E tr σ H Q := by
  show tr σ H fun vs H1 => ∀ x dx, H1 x = none → H1 dx = none → dx ≠ x → sp (.ref x :: (vs ++ [])) (upd (upd H1 dx (.own x)) x (.ins C dx [])) (fun v H2 => v = .non ∧ Q (.ref x) H2) E
  unfold MakeC at h
  simpa only [List.append_nil] using h
theorem st_makeC (k : ∀ x dx H2, H x = none → Ex H H2 → H2 x = some (.ins C dx []) → sp (.ref x :: vs) H2 (fun v H3 => v = .non ∧ Q (.ref x) H3) E) : MakeC C sp E vs H Q :=
  fun x dx nx nd ne => k x dx _ nx ((Ex.new nd).trans (Ex.new (by rw [upd_ne (Ne.symm ne)]; exact nx))) upd_same
/-- o.f += e -/
def AugF (K : PySem.W.Frag) (tv : TE) (rd : R2) (f : Str) (D : Ends) (x : V) (σ : L2.St) (H1 : Hp) : Prop := ∃ a C dx fs v, x = .ref a ∧ H1 a = some (.ins C dx fs) ∧ Cls K C ∧ NoAttr K C f ∧ fs.lookup f = some v ∧
  tv σ H1 fun u H2 => rd v u H2 fun r H3 => ∃ dy gs, H3 a = some (.ins C dy gs) ∧ gs.length < 1000 ∧ D.nx σ (upd H3 a (.ins C dy (putF f r gs)))
theorem st_fldaug {rd : R2} (h : ta σ H fun x H1 => AugF K tv rd f D x σ H1) : sFldAug K ta tv rd f D σ H := h
/-- .. of an int, by a constant -/
theorem st_augF (h : H a = some (.ins C dx fs)) (hc : Cls K C) (hn : NoAttr K C f) (e : fs.lookup f = some (.int i)) (hl : fs.length < 1000) (q : ∀ H2, Fr [a] H H2 → Kp H H2 → H2 a = some (.ins C dx (putF f (.int (i + j)) fs)) → D.nx σ H2) :
    AugF K (tC (.int j)) rAdd f D (.ref a) σ H :=
  ⟨a, C, dx, fs, _, rfl, h, hc, hn, e, i, j, rfl, rfl, dx, fs, h, hl, q _ (Fr.mut (List.mem_singleton.mpr rfl) (Fr.refl _ _)) (Kp.mut (nt_of h trivial) (Kp.refl _)) upd_same⟩
/-- xs[i] = e -/
def SetI (o i v : V) (H : Hp) (R : Hp → Prop) : Prop := rSetL o i v H R
theorem st_gsub {to ti : TE} {QS : L2.St → Hp → Prop} (h : to σ H fun o H1 => ti σ H1 fun i H2 => SetI o i v H2 (fun H3 => QS σ H3)) : gSub to ti rSetL v σ H QS := h
theorem ixN_nat {m k : Nat} (hk : k < m) : ixN m (k : Int) = some k := by
  unfold ixN
  rw [if_pos (by omega), if_pos (by omega), Int.toNat_natCast]
theorem st_setI {k : Nat} {R : Hp → Prop} (h : H l = some (.lst xs)) (hk : k < xs.length) (q : ∀ H2, Fr [l] H H2 → Kp H H2 → H2 l = some (.lst (xs.set k v)) → R H2) : SetI (.ref l) (.int (k : Int)) v H R :=
  ⟨l, xs, k, k, rfl, rfl, h, ixN_nat hk, q _ (Fr.mut (List.mem_singleton.mpr rfl) (Fr.refl _ _)) (Kp.mut (nt_of h trivial) (Kp.refl _)) upd_same⟩
/-! dicts -/
def DGetP (x y : V) (H2 : Hp) (Q : VK) : Prop := ∃ a v, x = .ref a ∧ DGet H2 a y (some v) ∧ Q v H2
theorem st_dget {td ty : TE} (h : td σ H fun x H1 => ty σ H1 fun y H2 => DGetP x y H2 Q) : tDGet td ty σ H Q := h
theorem st_dgetI {kvs : List (Key × V)} (h : H a = some (.dK kvs)) (e : valV kvs (Sum.inl i) = some v) (q : Q v H) : DGetP (.ref a) (.int i) H Q := ⟨a, v, rfl, by rw [← e]; exact DGet.k (k := Sum.inl i) h, q⟩
theorem st_dgetS {kvs : List (Key × V)} {s : Str} (h : H a = some (.dK kvs)) (e : valV kvs (Sum.inr s) = some v) (q : Q v H) : DGetP (.ref a) (.str s) H Q := ⟨a, v, rfl, by rw [← e]; exact DGet.k (k := Sum.inr s) h, q⟩
def DInP (y x : V) (H2 : Hp) (Q : VK) : Prop := ∃ a o, x = .ref a ∧ DGet H2 a y o ∧ Q (.bl o.isSome) H2
def DNotInP (y x : V) (H2 : Hp) (Q : VK) : Prop := ∃ a o, x = .ref a ∧ DGet H2 a y o ∧ Q (.bl (!o.isSome)) H2
theorem st_din {td ty : TE} (h : ty σ H fun y H1 => td σ H1 fun x H2 => DInP y x H2 Q) : tDIn ty td σ H Q := h
theorem st_dnotin {td ty : TE} (h : ty σ H fun y H1 => td σ H1 fun x H2 => DNotInP y x H2 Q) : tDNotIn ty td σ H Q := h
theorem st_dinI {kvs : List (Key × V)} (h : H a = some (.dK kvs)) (q : Q (.bl (valV kvs (Sum.inl i)).isSome) H) : DInP (.int i) (.ref a) H Q := ⟨a, _, rfl, DGet.k (k := Sum.inl i) h, q⟩
theorem st_dinS {kvs : List (Key × V)} {s : Str} (h : H a = some (.dK kvs)) (q : Q (.bl (valV kvs (Sum.inr s)).isSome) H) : DInP (.str s) (.ref a) H Q := ⟨a, _, rfl, DGet.k (k := Sum.inr s) h, q⟩
theorem st_dnotinI {kvs : List (Key × V)} (h : H a = some (.dK kvs)) (q : Q (.bl (!(valV kvs (Sum.inl i)).isSome)) H) : DNotInP (.int i) (.ref a) H Q := ⟨a, _, rfl, DGet.k (k := Sum.inl i) h, q⟩
def DPutP (v x y : V) (H3 : Hp) (R : Hp → Prop) : Prop := ∃ a H4, x = .ref a ∧ DPut H3 a y v H4 ∧ R H4
theorem st_dput {td ty tv : TE} (h : tv σ H fun v H1 => td σ H1 fun x H2 => ty σ H2 fun y H3 => DPutP v x y H3 (D.nx σ)) : sDPut td ty tv D σ H := h
theorem st_dputK {k : Key} {kvs : List (Key × V)} {R : Hp → Prop} (h : H a = some (.dK kvs)) (hy : y = kV k) (hl : kvs.length < 100000) (q : ∀ H2, Fr [a] H H2 → Kp H H2 → H2 a = some (.dK (putK kvs k v)) → R H2) : DPutP v (.ref a) y H R :=
  ⟨a, _, rfl, by rw [hy]; exact DPut.k h (sz_lt hl), q _ (Fr.mut (List.mem_singleton.mpr rfl) (Fr.refl _ _)) (Kp.mut (nt_of h trivial) (Kp.refl _)) upd_same⟩
theorem st_dnewK (q : ∀ d H2, H d = none → Ex H H2 → H2 d = some (.dK []) → Q (.ref d) H2) : tDNewK σ H Q := fun p hp => q p _ hp (Ex.new hp) upd_same
/-! deep == -/
theorem st_eqD {d e : PyData} (hx : Dp K H x d) (hy : Dp K H y e) (sd : SeqAt.shaped d = true) (se : SeqAt.shaped e = true) (q : Q (.bl (PyData.eqv d e)) H) : rEqD K x y H Q := ⟨d, e, hx, hy, sd, se, q⟩
theorem st_neD {d e : PyData} (hx : Dp K H x d) (hy : Dp K H y e) (sd : SeqAt.shaped d = true) (se : SeqAt.shaped e = true) (q : Q (.bl (!PyData.eqv d e)) H) : rNeD K x y H Q := ⟨d, e, hx, hy, sd, se, q⟩
end
/-! ### seen pairs -/
abbrev pySeen (s : Nat × Int) : PyData := .tuple [.int (s.1 : Int), .int s.2]
/-! ### the plain object -/
structure PS where
  mem : List Int
  reads : List (Nat × Int)
  fetches : List (Nat × Int)
  said : List Int
def plainF (ml rl fl sl : Addr) : List (Str × V) := [("memory", .ref ml), ("reads", .ref rl), ("fetches", .ref fl), ("said", .ref sl)]
theorem lk_plain_memory {a b c d : Addr} : (plainF a b c d).lookup ("memory" : Str) = some (.ref a) := by simp [plainF, List.lookup, ofS_beq]
theorem lk_plain_reads {a b c d : Addr} : (plainF a b c d).lookup ("reads" : Str) = some (.ref b) := by simp [plainF, List.lookup, ofS_beq]
theorem lk_plain_fetches {a b c d : Addr} : (plainF a b c d).lookup ("fetches" : Str) = some (.ref c) := by simp [plainF, List.lookup, ofS_beq]
theorem lk_plain_said {a b c d : Addr} : (plainF a b c d).lookup ("said" : Str) = some (.ref d) := by simp [plainF, List.lookup, ofS_beq]
theorem lk_plain_look {a b c d : Addr} : (plainF a b c d).lookup ("look" : Str) = none := by simp [plainF, List.lookup, ofS_beq]
theorem lk_plain_does {a b c d : Addr} : (plainF a b c d).lookup ("does" : Str) = none := by simp [plainF, List.lookup, ofS_beq]
structure PlainAt (C : Addr) (H : Hp) (p dx ml rl fl sl : Addr) (S : PS) : Prop where
  ob : H p = some (.ins C dx (plainF ml rl fl sl))
  me : H ml = some (.lst (S.mem.map V.int))
  re : ∃ xs, H rl = some (.lst xs) ∧ ImL H (S.reads.map pySeen) xs
  fe : ∃ xs, H fl = some (.lst xs) ∧ ImL H (S.fetches.map pySeen) xs
  sa : H sl = some (.lst (S.said.map V.int))
  nd : [ml, rl, fl, sl].Nodup
theorem PlainAt.ex {C : Addr} {H H' : Hp} {p dx ml rl fl sl : Addr} {S : PS} (e : Ex H H') (h : PlainAt C H p dx ml rl fl sl S) : PlainAt C H' p dx ml rl fl sl S := by
  obtain ⟨x1, a1, b1⟩ := h.re
  obtain ⟨x2, a2, b2⟩ := h.fe
  exact ⟨e _ _ h.ob, e _ _ h.me, ⟨x1, e _ _ a1, b1.ex e⟩, ⟨x2, e _ _ a2, b2.ex e⟩, e _ _ h.sa, h.nd⟩
/-- what Plain's methods do -/
def PS.set (S : PS) (c : Nat) (n : Int) : PS := { S with mem := S.mem.set c n }
def PS.look (S : PS) (c : Nat) : PS := { S with reads := S.reads ++ [(c, S.mem.getD c 0)] }
def PS.move (S : PS) (m : Mv) : PS := { S with fetches := S.fetches ++ [(m.src, S.mem.getD m.src 0)], mem := S.mem.set m.dst (S.mem.getD m.src 0) }
def PS.deed (os : List Ord) (S : PS) : Deed → PS
  | .set c n => S.set c (n : Int)
  | .add c o => ((S.look c).look o).set c ((S.mem.getD c 0 + S.mem.getD o 0) % 10)
  | .say c => { S.look c with said := S.said ++ [S.mem.getD c 0] }
  | .start k => (movesOf os k).foldl PS.move S
  | _ => S
def PS.init (m : List Int) : PS := ⟨m, [], [], []⟩
def plainOf (b : Bd) : PS := b.prog.foldl (PS.deed b.ords) (PS.init b.mem)
end BC
namespace BC
open PySem PySem.Spec PyProof.Rows L2
theorem st_sT {a : String} {A B : Prop} (h : A) : if decide (Str.ofString a = Str.ofString a) = true then A else B := by
  rw [decide_eq_true rfl]
  exact iteT h
theorem st_sF {a b : String} {A B : Prop} (ne : a ≠ b) (h : B) : if decide (Str.ofString a = Str.ofString b) = true then A else B := by
  rw [decide_eq_false fun z => ne (ofS_inj.mp z)]
  exact iteF h
theorem st_oT1 {a : String} {p A B : Prop} [Decidable p] (h : A) : if decide (Str.ofString a = Str.ofString a ∨ p) = true then A else B := by
  rw [decide_eq_true (.inl rfl)]
  exact iteT h
theorem st_oT2 {a : String} {p A B : Prop} [Decidable p] (h : A) : if decide (p ∨ Str.ofString a = Str.ofString a) = true then A else B := by
  rw [decide_eq_true (.inr rfl)]
  exact iteT h
theorem st_oF {a b c : String} {A B : Prop} (n1 : a ≠ b) (n2 : a ≠ c) (h : B) : if decide (Str.ofString a = Str.ofString b ∨ Str.ofString a = Str.ofString c) = true then A else B := by
  rw [decide_eq_false fun z => z.elim (fun z => n1 (ofS_inj.mp z)) fun z => n2 (ofS_inj.mp z)]
  exact iteF h
theorem st_intS {a : String} {H : Hp} {Q : VK} (h : Q (.int 1) H) : rInt1 [.bl (decide (Str.ofString a = Str.ofString a))] H Q := .inr ⟨_, rfl, by rw [decide_eq_true rfl]; exact h⟩
theorem st_intN {a b : String} {H : Hp} {Q : VK} (n : a ≠ b) (h : Q (.int 0) H) : rInt1 [.bl (decide (Str.ofString a = Str.ofString b))] H Q := .inr ⟨_, rfl, by rw [decide_eq_false fun z => n (ofS_inj.mp z)]; exact h⟩
theorem getD_at {ns : List Int} {c : Nat} (h : c < ns.length) : ns[c]? = some (ns.getD c 0) := by
  rw [List.getD_eq_getElem?_getD, List.getElem?_eq_getElem h]
  rfl
/-! walks -/
def WalkL (K : PySem.W.Frag) (g : TG) (tb : TS) (D : Ends) (σ : L2.St) (x : V) (H1 : Hp) : Prop := ∃ a, x = .ref a ∧ (∃ xs, SqL K H1 a xs) ∧ ∃ W : Nat → Nat → L2.St → Hp → Prop, (∃ m, W 0 m σ H1) ∧ ∀ i m σ H, W i m σ H →
  ((Itl K a).stop i H ∧ D.nx σ H) ∨ ((Itl K a).go i H ∧ ∃ N : L2.St → Hp → Prop, (∀ σ' H', N σ' H' → ∃ m', m' < m ∧ W (i + 1) m' σ' H') ∧ ∀ x H', (Itl K a).yld i H x H' → g x σ H' fun σ2 H2 => tb { D with nx := N, ct := N, bk := D.nx } σ2 H2)
def WalkT (K : PySem.W.Frag) (g : TG) (tb : TS) (D : Ends) (σ : L2.St) (x : V) (H1 : Hp) : Prop := ∃ a, x = .ref a ∧ (∃ xs, SqT K H1 a xs) ∧ ∃ W : Nat → Nat → L2.St → Hp → Prop, (∃ m, W 0 m σ H1) ∧ ∀ i m σ H, W i m σ H →
  ((Itt K a).stop i H ∧ D.nx σ H) ∨ ((Itt K a).go i H ∧ ∃ N : L2.St → Hp → Prop, (∀ σ' H', N σ' H' → ∃ m', m' < m ∧ W (i + 1) m' σ' H') ∧ ∀ x H', (Itt K a).yld i H x H' → g x σ H' fun σ2 H2 => tb { D with nx := N, ct := N, bk := D.nx } σ2 H2)
def WalkR (g : TG) (tb : TS) (D : Ends) (σ : L2.St) (vs : List V) (H1 : Hp) : Prop := ∃ j : Int, vs = [.int j] ∧ -(2 ^ 62) ≤ j ∧ j < 2 ^ 62 ∧ ∃ W : Nat → Nat → L2.St → Hp → Prop, (∃ m, W 0 m σ H1) ∧ ∀ i m σ H, W i m σ H →
  ((Itr 0 j.toNat).stop i H ∧ D.nx σ H) ∨ ((Itr 0 j.toNat).go i H ∧ ∃ N : L2.St → Hp → Prop, (∀ σ' H', N σ' H' → ∃ m', m' < m ∧ W (i + 1) m' σ' H') ∧ ∀ x H', (Itr 0 j.toNat).yld i H x H' → g x σ H' fun σ2 H2 => tb { D with nx := N, ct := N, bk := D.nx } σ2 H2)
section
variable {K : PySem.W.Frag} {σ : L2.St} {H H0 H1 : Hp} {D : Ends} {te : TE} {ta : TA} {g : TG} {tb : TS} {x : V} {l : Addr} {xs : List V} {ds : List PyData}
theorem st_wL (h : te σ H fun x H1 => WalkL K g tb D σ x H1) : tFor (iList K te) g tb D σ H := h
theorem st_wT (h : te σ H fun x H1 => WalkT K g tb D σ x H1) : tFor (iTup K te) g tb D σ H := h
theorem st_wR (h : ta σ H fun vs H1 => WalkR g tb D σ vs H1) : tFor (iRng1 ta) g tb D σ H := h
theorem st_walkL (h : H l = some (.lst xs)) (Pv : Nat → L2.St → Hp → Prop) (h0 : Pv 0 σ H) (hk : ∀ m σ' H', Pv m σ' H' → H' l = some (.lst xs))
    (hs : ∀ m v σ' H', xs[m]? = some v → Pv m σ' H' → g v σ' H' fun σ2 H2 => tb { D with nx := Pv (m + 1), ct := Pv (m + 1), bk := D.nx } σ2 H2) (hd : ∀ σ' H', Pv xs.length σ' H' → D.nx σ' H') : WalkL K g tb D σ (.ref l) H :=
  ⟨l, rfl, ⟨xs, SqL.of h⟩, for_list (K := K) (a := l) (xs := xs) Pv h0 (fun m σ' H' _ p => SqL.of (hk m σ' H' p)) hs hd⟩
theorem st_walkT (h : Im H0 (.tuple ds) x) (k : Kp H0 H) (Pv : Nat → L2.St → Hp → Prop) (h0 : Pv 0 σ H) (hk : ∀ m σ' H', Pv m σ' H' → Kp H0 H')
    (hs : ∀ m d v σ' H', ds[m]? = some d → Pv m σ' H' → Im H' d v → g v σ' H' fun σ2 H2 => tb { D with nx := Pv (m + 1), ct := Pv (m + 1), bk := D.nx } σ2 H2) (hd : ∀ σ' H', Pv ds.length σ' H' → D.nx σ' H') : WalkT K g tb D σ x H := by
  obtain ⟨a, xs, rfl, h1, h2⟩ := h.tup
  refine ⟨a, rfl, ⟨xs, SqT.of (k a xs h1)⟩, for_tup (K := K) (a := a) (xs := xs) Pv h0 (fun m σ' H' _ p => SqT.of (hk m σ' H' p a xs h1)) (fun m v σ' H' hv p => ?_) fun σ' H' p => hd σ' H' (h2.length ▸ p)⟩
  obtain ⟨d, e1, e2⟩ := h2.get' hv
  exact hs m d v σ' H' e1 p (e2.kp (hk m σ' H' p))
theorem st_walkR {n : Nat} (hn : n ≤ 1000000) (Pv : Nat → L2.St → Hp → Prop) (h0 : Pv 0 σ H)
    (hs : ∀ (m : Nat) σ' H', m < n → Pv m σ' H' → g (.int (m : Int)) σ' H' fun σ2 H2 => tb { D with nx := Pv (m + 1), ct := Pv (m + 1), bk := D.nx } σ2 H2) (hd : ∀ σ' H', Pv n σ' H' → D.nx σ' H') : WalkR g tb D σ [.int (n : Int)] H := by
  refine ⟨(n : Int), rfl, by omega, by omega, for_range (lo := 0) (n := ((n : Int)).toNat) Pv h0 (fun m σ' H' hm p => ?_) (by simpa using hd)⟩
  have e0 : (0 : Int) + (m : Int) = (m : Int) := Int.zero_add _
  rw [e0]
  exact hs m σ' H' (by omega) p
end
/-! ### the plain object's changes -/
section
variable {C p dx ml rl fl sl t : Addr} {H H2 : Hp} {S : PS} {xs : List V} {c : Nat} {n : Int}
theorem PlainAt.addRead (h : PlainAt C H p dx ml rl fl sl S) (hr : H rl = some (.lst xs)) (ir : ImL H (S.reads.map pySeen) xs) (f : Fr [rl] H H2) (k : Kp H H2) (h2 : H2 rl = some (.lst (xs ++ [.ref t]))) (ht : H2 t = some (.tup [.int (c : Int), .int n])) :
    PlainAt C H2 p dx ml rl fl sl { S with reads := S.reads ++ [(c, n)] } := by
  obtain ⟨ob, me, _, ⟨x2, a2, b2⟩, sa, nd⟩ := h
  have q := nd
  simp only [List.nodup_cons, List.mem_cons, List.not_mem_nil, or_false, not_or, List.mem_singleton] at q
  refine ⟨fr1 f ob (ne_ins ob hr), fr1 f me (fun z => q.1.1 z), ⟨_, h2, ?_⟩, ⟨x2, fr1 f a2 (fun z => q.2.1.1 z.symm), b2.kp k⟩, fr1 f sa (fun z => q.2.1.2 z.symm), nd⟩
  rw [List.map_append]
  exact (ir.kp k).append (iml_cons (im_tup ht (iml_cons im_int (iml_cons im_int iml_nil))) iml_nil)
theorem PlainAt.addFetch (h : PlainAt C H p dx ml rl fl sl S) (hr : H fl = some (.lst xs)) (ir : ImL H (S.fetches.map pySeen) xs) (f : Fr [fl] H H2) (k : Kp H H2) (h2 : H2 fl = some (.lst (xs ++ [.ref t]))) (ht : H2 t = some (.tup [.int (c : Int), .int n])) :
    PlainAt C H2 p dx ml rl fl sl { S with fetches := S.fetches ++ [(c, n)] } := by
  obtain ⟨ob, me, ⟨x2, a2, b2⟩, _, sa, nd⟩ := h
  have q := nd
  simp only [List.nodup_cons, List.mem_cons, List.not_mem_nil, or_false, not_or, List.mem_singleton] at q
  refine ⟨fr1 f ob (ne_ins ob hr), fr1 f me (fun z => q.1.2.1 z), ⟨x2, fr1 f a2 (fun z => q.2.1.1 z), b2.kp k⟩, ⟨_, h2, ?_⟩, fr1 f sa (fun z => q.2.2.1 z.symm), nd⟩
  rw [List.map_append]
  exact (ir.kp k).append (iml_cons (im_tup ht (iml_cons im_int (iml_cons im_int iml_nil))) iml_nil)
theorem PlainAt.addSaid (h : PlainAt C H p dx ml rl fl sl S) (f : Fr [sl] H H2) (k : Kp H H2) (h2 : H2 sl = some (.lst (S.said.map V.int ++ [.int n]))) :
    PlainAt C H2 p dx ml rl fl sl { S with said := S.said ++ [n] } := by
  obtain ⟨ob, me, ⟨x1, a1, b1⟩, ⟨x2, a2, b2⟩, sa, nd⟩ := h
  have q := nd
  simp only [List.nodup_cons, List.mem_cons, List.not_mem_nil, or_false, not_or, List.mem_singleton] at q
  refine ⟨fr1 f ob (ne_ins ob sa), fr1 f me (fun z => q.1.2.2 z), ⟨x1, fr1 f a1 (fun z => q.2.1.2 z), b1.kp k⟩, ⟨x2, fr1 f a2 (fun z => q.2.2.1 z), b2.kp k⟩, ?_, nd⟩
  rw [List.map_append]
  exact h2
theorem PlainAt.setMem (h : PlainAt C H p dx ml rl fl sl S) (f : Fr [ml] H H2) (k : Kp H H2) (h2 : H2 ml = some (.lst ((S.mem.map V.int).set c (.int n)))) :
    PlainAt C H2 p dx ml rl fl sl { S with mem := S.mem.set c n } := by
  obtain ⟨ob, me, ⟨x1, a1, b1⟩, ⟨x2, a2, b2⟩, sa, nd⟩ := h
  have q := nd
  simp only [List.nodup_cons, List.mem_cons, List.not_mem_nil, or_false, not_or, List.mem_singleton] at q
  refine ⟨fr1 f ob (ne_ins ob me), ?_, ⟨x1, fr1 f a1 (fun z => q.1.1 z.symm), b1.kp k⟩, ⟨x2, fr1 f a2 (fun z => q.1.2.1 z.symm), b2.kp k⟩, fr1 f sa (fun z => q.1.2.2 z.symm), nd⟩
  rw [h2, List.map_set]
end
theorem PS.mem_len (os : List Ord) (S : PS) : ∀ d : Deed, (PS.deed os S d).mem.length = S.mem.length
  | .set c n => by simp [PS.deed, PS.set]
  | .add c o => by simp [PS.deed, PS.set, PS.look]
  | .say c => by simp [PS.deed, PS.look]
  | .start k => by
    show ((movesOf os k).foldl PS.move S).mem.length = S.mem.length
    generalize movesOf os k = ms
    induction ms generalizing S with
    | nil => rfl
    | cons m ms ih =>
      rw [List.foldl_cons, ih]
      simp [PS.move]
  | .wait => rfl
  | .clean _ => rfl
  | .drop _ => rfl
/-- sizes -/
structure PS.Small (n : Nat) (S : PS) : Prop where
  r : S.reads.length ≤ 40 * n
  f : S.fetches.length ≤ 40 * n
  s : S.said.length ≤ 40 * n
theorem move_sizes (ms : List Mv) : ∀ S : PS, (ms.foldl PS.move S).reads = S.reads ∧ (ms.foldl PS.move S).said = S.said ∧ (ms.foldl PS.move S).fetches.length = S.fetches.length + ms.length ∧ (ms.foldl PS.move S).mem.length = S.mem.length := by
  induction ms with
  | nil => intro S; exact ⟨rfl, rfl, rfl, rfl⟩
  | cons m ms ih =>
    intro S
    obtain ⟨h1, h2, h3, h4⟩ := ih (S.move m)
    rw [List.foldl_cons]
    refine ⟨h1.trans rfl, h2.trans rfl, ?_, ?_⟩
    · rw [h3]
      simp [PS.move]
      omega
    · rw [h4]
      simp [PS.move]
theorem PS.small_step {cells : Nat} {os : List Ord} (g : OrdsOk cells os) (h4 : os.length ≤ 4) {n : Nat} {S : PS} (h : S.Small n) : ∀ d : Deed, (PS.deed os S d).Small (n + 1)
  | .set c k => ⟨by have := h.r; simp [PS.deed, PS.set]; omega, by have := h.f; simp [PS.deed, PS.set]; omega, by have := h.s; simp [PS.deed, PS.set]; omega⟩
  | .add c o => ⟨by have := h.r; simp [PS.deed, PS.set, PS.look]; omega, by have := h.f; simp [PS.deed, PS.set, PS.look]; omega, by have := h.s; simp [PS.deed, PS.set, PS.look]; omega⟩
  | .say c => ⟨by have := h.r; simp [PS.deed, PS.look]; omega, by have := h.f; simp [PS.deed, PS.look]; omega, by have := h.s; simp [PS.deed, PS.look]; omega⟩
  | .start k => by
    obtain ⟨h1, h2, h3, _⟩ := move_sizes (movesOf os k) S
    have hl : (movesOf os k).length ≤ 8 * os.length := moves_len g _ _
    have a := h.r
    have b := h.f
    have c := h.s
    refine ⟨?_, ?_, ?_⟩
    · show ((movesOf os k).foldl PS.move S).reads.length ≤ _
      rw [h1]; omega
    · show ((movesOf os k).foldl PS.move S).fetches.length ≤ _
      rw [h3]; omega
    · show ((movesOf os k).foldl PS.move S).said.length ≤ _
      rw [h2]; omega
  | .wait => ⟨by have := h.r; simp [PS.deed]; omega, by have := h.f; simp [PS.deed]; omega, by have := h.s; simp [PS.deed]; omega⟩
  | .clean _ => ⟨by have := h.r; simp [PS.deed]; omega, by have := h.f; simp [PS.deed]; omega, by have := h.s; simp [PS.deed]; omega⟩
  | .drop _ => ⟨by have := h.r; simp [PS.deed]; omega, by have := h.f; simp [PS.deed]; omega, by have := h.s; simp [PS.deed]; omega⟩
end BC

namespace BC
open PySem PySem.Spec PyProof.Rows L2
/-- the four lists -/
structure PlainL (H : Hp) (ml rl fl sl : Addr) (S : PS) : Prop where
  me : H ml = some (.lst (S.mem.map V.int))
  re : ∃ xs, H rl = some (.lst xs) ∧ ImL H (S.reads.map pySeen) xs
  fe : ∃ xs, H fl = some (.lst xs) ∧ ImL H (S.fetches.map pySeen) xs
  sa : H sl = some (.lst (S.said.map V.int))
  nd : [ml, rl, fl, sl].Nodup
theorem PlainAt.l {C : Addr} {H : Hp} {p dx ml rl fl sl : Addr} {S : PS} (h : PlainAt C H p dx ml rl fl sl S) : PlainL H ml rl fl sl S := ⟨h.me, h.re, h.fe, h.sa, h.nd⟩
theorem PlainL.ex {H H' : Hp} {ml rl fl sl : Addr} {S : PS} (e : Ex H H') (h : PlainL H ml rl fl sl S) : PlainL H' ml rl fl sl S := by
  obtain ⟨x1, a1, b1⟩ := h.re
  obtain ⟨x2, a2, b2⟩ := h.fe
  exact ⟨e _ _ h.me, ⟨x1, e _ _ a1, b1.ex e⟩, ⟨x2, e _ _ a2, b2.ex e⟩, e _ _ h.sa, h.nd⟩
section
variable {C p dx ml rl fl sl t : Addr} {H H2 : Hp} {S : PS} {xs : List V} {c : Nat} {n : Int}
theorem PlainL.addRead (h : PlainL H ml rl fl sl S) (hr : H rl = some (.lst xs)) (ir : ImL H (S.reads.map pySeen) xs) (f : Fr [rl] H H2) (k : Kp H H2) (h2 : H2 rl = some (.lst (xs ++ [.ref t]))) (ht : H2 t = some (.tup [.int (c : Int), .int n])) :
    PlainL H2 ml rl fl sl { S with reads := S.reads ++ [(c, n)] } := by
  obtain ⟨me, _, ⟨x2, a2, b2⟩, sa, nd⟩ := h
  have q := nd
  simp only [List.nodup_cons, List.mem_cons, List.not_mem_nil, or_false, not_or, List.mem_singleton] at q
  refine ⟨fr1 f me (fun z => q.1.1 z), ⟨_, h2, ?_⟩, ⟨x2, fr1 f a2 (fun z => q.2.1.1 z.symm), b2.kp k⟩, fr1 f sa (fun z => q.2.1.2 z.symm), nd⟩
  rw [List.map_append]
  exact (ir.kp k).append (iml_cons (im_tup ht (iml_cons im_int (iml_cons im_int iml_nil))) iml_nil)
theorem PlainL.addFetch (h : PlainL H ml rl fl sl S) (hr : H fl = some (.lst xs)) (ir : ImL H (S.fetches.map pySeen) xs) (f : Fr [fl] H H2) (k : Kp H H2) (h2 : H2 fl = some (.lst (xs ++ [.ref t]))) (ht : H2 t = some (.tup [.int (c : Int), .int n])) :
    PlainL H2 ml rl fl sl { S with fetches := S.fetches ++ [(c, n)] } := by
  obtain ⟨me, ⟨x2, a2, b2⟩, _, sa, nd⟩ := h
  have q := nd
  simp only [List.nodup_cons, List.mem_cons, List.not_mem_nil, or_false, not_or, List.mem_singleton] at q
  refine ⟨fr1 f me (fun z => q.1.2.1 z), ⟨x2, fr1 f a2 (fun z => q.2.1.1 z), b2.kp k⟩, ⟨_, h2, ?_⟩, fr1 f sa (fun z => q.2.2.1 z.symm), nd⟩
  rw [List.map_append]
  exact (ir.kp k).append (iml_cons (im_tup ht (iml_cons im_int (iml_cons im_int iml_nil))) iml_nil)
theorem PlainL.addSaid (h : PlainL H ml rl fl sl S) (f : Fr [sl] H H2) (k : Kp H H2) (h2 : H2 sl = some (.lst (S.said.map V.int ++ [.int n]))) :
    PlainL H2 ml rl fl sl { S with said := S.said ++ [n] } := by
  obtain ⟨me, ⟨x1, a1, b1⟩, ⟨x2, a2, b2⟩, sa, nd⟩ := h
  have q := nd
  simp only [List.nodup_cons, List.mem_cons, List.not_mem_nil, or_false, not_or, List.mem_singleton] at q
  refine ⟨fr1 f me (fun z => q.1.2.2 z), ⟨x1, fr1 f a1 (fun z => q.2.1.2 z), b1.kp k⟩, ⟨x2, fr1 f a2 (fun z => q.2.2.1 z), b2.kp k⟩, ?_, nd⟩
  rw [List.map_append]
  exact h2
theorem PlainL.setMem (h : PlainL H ml rl fl sl S) (f : Fr [ml] H H2) (k : Kp H H2) (h2 : H2 ml = some (.lst ((S.mem.map V.int).set c (.int n)))) :
    PlainL H2 ml rl fl sl { S with mem := S.mem.set c n } := by
  obtain ⟨me, ⟨x1, a1, b1⟩, ⟨x2, a2, b2⟩, sa, nd⟩ := h
  have q := nd
  simp only [List.nodup_cons, List.mem_cons, List.not_mem_nil, or_false, not_or, List.mem_singleton] at q
  refine ⟨?_, ⟨x1, fr1 f a1 (fun z => q.1.1 z.symm), b1.kp k⟩, ⟨x2, fr1 f a2 (fun z => q.1.2.1 z.symm), b2.kp k⟩, fr1 f sa (fun z => q.1.2.2 z.symm), nd⟩
  rw [h2, List.map_set]
end

theorem plain_small {cells : Nat} {os : List Ord} (g : OrdsOk cells os) (h4 : os.length ≤ 4) : ∀ (p : List Deed) (n : Nat) (S : PS), S.Small n → (p.foldl (PS.deed os) S).Small (n + p.length)
  | [], _, _, h => h
  | d :: p, n, S, h => by
    have := plain_small g h4 p (n + 1) _ (PS.small_step g h4 h d)
    rw [List.foldl_cons, List.length_cons, show n + (p.length + 1) = n + 1 + p.length by omega]
    exact this
theorem plainOf_small {b : Bd} (g : Good b) : (plainOf b).Small 60 := by
  have h := plain_small g.ordsOk g.ords b.prog 0 (PS.init b.mem) ⟨by simp [PS.init], by simp [PS.init], by simp [PS.init]⟩
  have hl := g.len
  exact ⟨Nat.le_trans h.r (by omega), Nat.le_trans h.f (by omega), Nat.le_trans h.s (by omega)⟩
theorem plain_mem_len (os : List Ord) : ∀ (p : List Deed) (S : PS), (p.foldl (PS.deed os) S).mem.length = S.mem.length
  | [], _ => rfl
  | d :: p, S => by
    rw [List.foldl_cons, plain_mem_len os p, PS.mem_len]
theorem im_ints {H : Hp} {t : Addr} {ns : List Int} (h : H t = some (.tup (ns.map V.int))) : Im H (pyMem ns) (.ref t) := im_tup h (ImL.ints.mpr rfl)
theorem putF_nil {f : Str} {v : V} : putF f v [] = [(f, v)] := rfl
end BC
/-! BCLc: comprehensions, shapes, isinstance, the box of draws. -/
namespace BC
open PySem PySem.Spec PyProof.Rows L2
/-! ### comprehensions -/
/-- the turns of a comprehension over what J gives -/
def LcT (J : It) (g : TG) (tt : TT) (te : TE) (own : List Nat) (σ : L2.St) (H0 : Hp) (Q : VK) : Prop :=
  ∀ D, H0 D = none → ∃ W : Nat → Nat → Hp → Prop, (∃ m, W 0 m (upd H0 D (.lst []))) ∧ ∀ i m Hi, W i m Hi →
    (J.stop i Hi ∧ Q (.ref D) Hi) ∨
    (J.go i Hi ∧ ∃ Nx : Hp → Prop, (∀ Hj, Nx Hj → ∃ k, k < m ∧ W (i + 1) k Hj) ∧ ∀ x Hj, J.yld i Hi x Hj →
      g x (wipe σ own) Hj fun σ2 H2 => wipe σ2 own = wipe σ own ∧ tt σ2 H2 fun b H3 =>
        if b = true then te σ2 H3 fun y H4 => ∃ acc, H4 D = some (.lst acc) ∧ acc.length < sizeLine ∧ Nx (upd H4 D (.lst (acc ++ [y])))
        else Nx H3)
def LcR (g : TG) (tt : TT) (te : TE) (vs : List Nat) (σ : L2.St) (us : List V) (H1 : Hp) (Q : VK) : Prop := ∃ j : Int, us = [.int j] ∧ -(2 ^ 62) ≤ j ∧ j < 2 ^ 62 ∧ LcT (Itr 0 j.toNat) g tt te vs σ H1 Q
def LcL (K : PySem.W.Frag) (g : TG) (tt : TT) (te : TE) (vs : List Nat) (σ : L2.St) (x : V) (H1 : Hp) (Q : VK) : Prop := ∃ a, x = .ref a ∧ (∃ xs, SqL K H1 a xs) ∧ LcT (Itl K a) g tt te vs σ H1 Q
def LcU (K : PySem.W.Frag) (g : TG) (tt : TT) (te : TE) (vs : List Nat) (σ : L2.St) (x : V) (H1 : Hp) (Q : VK) : Prop := ∃ a, x = .ref a ∧ (∃ xs, SqT K H1 a xs) ∧ LcT (Itt K a) g tt te vs σ H1 Q
section
variable {K : PySem.W.Frag} {σ : L2.St} {H H0 H1 : Hp} {Q : VK} {te tl : TE} {ta : TA} {g : TG} {tt : TT} {own : List Nat} {x : V} {l : Addr} {xs : List V} {ds : List PyData}
theorem st_lcR (h : ta σ H fun us H1 => LcR g tt te own σ us H1 Q) : tLc (iRng1 ta) g tt te own σ H Q := h
theorem st_lcL (h : tl σ H fun x H1 => LcL K g tt te own σ x H1 Q) : tLc (iList K tl) g tt te own σ H Q := h
theorem st_lcU (h : tl σ H fun x H1 => LcU K g tt te own σ x H1 Q) : tLc (iTup K tl) g tt te own σ H Q := h
/-- the new list at D gets y -/
def LcPut (D : Addr) (Nx : Hp → Prop) (y : V) (H4 : Hp) : Prop := ∃ acc, H4 D = some (.lst acc) ∧ acc.length < sizeLine ∧ Nx (upd H4 D (.lst (acc ++ [y])))
theorem st_lcPut {D : Addr} {Nx : Hp → Prop} {y : V} {acc : List V} (h : H D = some (.lst acc)) (hl : acc.length < 100000) (q : ∀ H5, Fr [D] H H5 → Kp H H5 → H5 D = some (.lst (acc ++ [y])) → Nx H5) : LcPut D Nx y H :=
  ⟨acc, h, sz_lt hl, q _ (Fr.mut (List.mem_singleton.mpr rfl) (Fr.refl _ _)) (Kp.mut (nt_of h trivial) (Kp.refl _)) upd_same⟩
/-- a turn of a comprehension: x is given; Nx is wanted behind it -/
abbrev LcTurn (g : TG) (tt : TT) (te : TE) (own : List Nat) (σ : L2.St) (D : Addr) (x : V) (H : Hp) (Nx : Hp → Prop) : Prop :=
  g x (wipe σ own) H fun σ2 H2 => wipe σ2 own = wipe σ own ∧ tt σ2 H2 fun b H3 => if b = true then te σ2 H3 fun y H4 => LcPut D Nx y H4 else Nx H3
theorem st_lcRange {n : Nat} (hn : n ≤ 1000000) (k : ∀ D H2, H1 D = none → Ex H1 H2 → H2 D = some (.lst []) → ∃ Pv : Nat → Hp → Prop, Pv 0 H2 ∧ (∀ (i : Nat) H, i < n → Pv i H → LcTurn g tt te own σ D (.int (i : Int)) H (Pv (i + 1))) ∧ ∀ H, Pv n H → Q (.ref D) H) :
    LcR g tt te own σ [.int (n : Int)] H1 Q := by
  refine ⟨(n : Int), rfl, by omega, by omega, fun D hD => ?_⟩
  obtain ⟨Pv, h0, hs, hd⟩ := k D _ hD (Ex.new hD) upd_same
  refine lc_range (lo := 0) (n := ((n : Int)).toNat) Pv h0 (fun i H hi p => ?_) (by simpa using hd)
  have e0 : (0 : Int) + (i : Int) = (i : Int) := Int.zero_add _
  rw [e0]
  exact hs i H (by omega) p
theorem st_lcList (h : SqL K H1 l xs) (k : ∀ D H2, H1 D = none → Ex H1 H2 → H2 D = some (.lst []) → ∃ Pv : Nat → Hp → Prop, Pv 0 H2 ∧ (∀ i H, Pv i H → SqL K H l xs) ∧ (∀ (i : Nat) v H, xs[i]? = some v → Pv i H → LcTurn g tt te own σ D v H (Pv (i + 1))) ∧ ∀ H, Pv xs.length H → Q (.ref D) H) :
    LcL K g tt te own σ (.ref l) H1 Q := by
  refine ⟨l, rfl, ⟨xs, h⟩, fun D hD => ?_⟩
  obtain ⟨Pv, h0, hk, hs, hd⟩ := k D _ hD (Ex.new hD) upd_same
  exact lc_list (K := K) (a := l) (xs := xs) Pv h0 (fun i H _ p => hk i H p) (fun i v H hv p => hs i v H hv p) hd
theorem st_lcTup (h : Im H0 (.tuple ds) x) (k0 : Kp H0 H1) (k : ∀ D H2, H1 D = none → Ex H1 H2 → H2 D = some (.lst []) → ∃ Pv : Nat → Hp → Prop, Pv 0 H2 ∧ (∀ i H, Pv i H → Kp H0 H) ∧ (∀ (i : Nat) d v H, ds[i]? = some d → Im H d v → Pv i H → LcTurn g tt te own σ D v H (Pv (i + 1))) ∧ ∀ H, Pv ds.length H → Q (.ref D) H) :
    LcU K g tt te own σ x H1 Q := by
  obtain ⟨a, xs, rfl, h1, h2⟩ := h.tup
  refine ⟨a, rfl, ⟨xs, SqT.of (k0 a xs h1)⟩, fun D hD => ?_⟩
  obtain ⟨Pv, p0, hk, hs, hd⟩ := k D _ hD (Ex.new hD) upd_same
  refine lc_tup (K := K) (a := a) (xs := xs) Pv p0 (fun i H _ p => SqT.of (hk i H p a xs h1)) (fun i v H hv p => ?_) (fun H p => hd H (h2.length ▸ p))
  obtain ⟨d, e1, e2⟩ := h2.get' hv
  exact hs i d v H e1 (e2.kp (hk i H p)) p
theorem ex_l {a : Addr} (e : Ex H H1) (h : SqL K H a xs) : SqL K H1 a xs := by
  rcases h with (h | ⟨o, h⟩) | h
  · exact Or.inl (.inl (e a _ h))
  · exact Or.inl (.inr ⟨o, e a _ h⟩)
  · exact Or.inr h
theorem st_walkLS {D : Ends} {tb : TS} (h : SqL K H l xs) (Pv : Nat → L2.St → Hp → Prop) (h0 : Pv 0 σ H) (hk : ∀ m σ' H', Pv m σ' H' → SqL K H' l xs)
    (hs : ∀ m v σ' H', xs[m]? = some v → Pv m σ' H' → g v σ' H' fun σ2 H2 => tb { D with nx := Pv (m + 1), ct := Pv (m + 1), bk := D.nx } σ2 H2) (hd : ∀ σ' H', Pv xs.length σ' H' → D.nx σ' H') : WalkL K g tb D σ (.ref l) H :=
  ⟨l, rfl, ⟨xs, h⟩, for_list (K := K) (a := l) (xs := xs) Pv h0 (fun m σ' H' _ p => hk m σ' H' p) hs hd⟩
theorem st_listS (h : SqL K H l xs) (q : ∀ a H2, H a = none → Ex H H2 → H2 a = some (.lst xs) → Q (.ref a) H2) : rListOf K [.ref l] H Q := ⟨l, xs, rfl, .inl h, fun a ha => q a _ ha (Ex.new ha) upd_same⟩
theorem st_lenS (h : SqL K H l xs) (q : Q (.int xs.length) H) : rLenS K [.ref l] H Q := ⟨l, xs, rfl, .inl h, q⟩
theorem st_fdivW {i j : Int} {f : Int → Int → V} (c : 0 < j ∧ j.natAbs.log2 < 9000) (h : Q (f i j) H) : rI CDivW f (.int i) (.int j) H Q := ⟨i, j, rfl, rfl, c, h⟩
theorem st_popAt0 {x : V} {r : List V} (h : H l = some (.lst (x :: r))) (q : ∀ H2, Fr [l] H H2 → Kp H H2 → H2 l = some (.lst r) → Q x H2) : rPopAt (.ref l) [.int 0] H Q := by
  refine ⟨l, x :: r, 0, 0, x, rfl, rfl, h, by decide, by decide, ?_, rfl, ?_⟩
  · rw [seqIndex_of (by omega) (by simp only [List.length_cons]; omega)]
    rfl
  · exact q _ (Fr.mut (List.mem_singleton.mpr rfl) (Fr.refl _ _)) (Kp.mut (nt_of h trivial) (Kp.refl _)) upd_same
end
section
variable {H : Hp} {Q : VK} {l : Addr} {xs : List V}
theorem st_clear (h : H l = some (.lst xs)) (q : ∀ H2, Fr [l] H H2 → Kp H H2 → H2 l = some (.lst []) → Q .non H2) : rClear (.ref l) [] H Q :=
  ⟨l, xs, rfl, rfl, h, q _ (Fr.mut (List.mem_singleton.mpr rfl) (Fr.refl _ _)) (Kp.mut (nt_of h trivial) (Kp.refl _)) upd_same⟩
end
theorem ix01 {b : Bool} {x y : V} : atI [x, y] (if b = true then 1 else 0) = some (if b = true then y else x) := by
  cases b with
  | true => exact atI_nat (j := 1) rfl
  | false => exact atI_nat (j := 0) rfl
/-! ### shapes -/
def Sh (n : Nat) (d : PyData) : Prop := d.canLay0 = true ∧ d.depth ≤ n
theorem Sh.shaped {n : Nat} {d : PyData} (h : Sh n d) (hn : n ≤ 64 := by decide) : SeqAt.shaped d = true := by
  unfold SeqAt.shaped
  rw [h.1, Bool.true_and, decide_eq_true_eq]
  exact Nat.le_trans h.2 hn
theorem sh_int {n : Nat} {i : Int} : Sh n (.int i) := ⟨rfl, Nat.zero_le _⟩
theorem sh_none {n : Nat} : Sh n .none := ⟨rfl, Nat.zero_le _⟩
theorem sh_bool {n : Nat} {b : Bool} : Sh n (.bool b) := ⟨rfl, Nat.zero_le _⟩
theorem sh_str {n : Nat} {s : Str} (h : PyData.strOk s = true) : Sh n (.str s) := ⟨h, Nat.zero_le _⟩
theorem sh_all {n : Nat} : ∀ {ds : List PyData}, (∀ d ∈ ds, Sh n d) → PyData.canLayAll0 ds = true ∧ PyData.depthAll ds ≤ n
  | [], _ => ⟨rfl, Nat.zero_le _⟩
  | d :: ds, h => by
    obtain ⟨h1, h2⟩ := h d List.mem_cons_self
    obtain ⟨h3, h4⟩ := sh_all (ds := ds) fun e he => h e (List.mem_cons_of_mem _ he)
    refine ⟨?_, ?_⟩
    · show (d.canLay0 && PyData.canLayAll0 ds) = true
      rw [h1, h3]
      rfl
    · show max d.depth (PyData.depthAll ds) ≤ n
      exact Nat.max_le.mpr ⟨h2, h4⟩
theorem sh_tup {n : Nat} {ds : List PyData} (h : ∀ d ∈ ds, Sh n d) : Sh (n + 1) (.tuple ds) := by
  obtain ⟨h1, h2⟩ := sh_all h
  exact ⟨h1, Nat.succ_le_succ h2⟩
theorem sh_lst {n : Nat} {ds : List PyData} (h : ∀ d ∈ ds, Sh n d) : Sh (n + 1) (.list ds) := by
  obtain ⟨h1, h2⟩ := sh_all h
  exact ⟨h1, Nat.succ_le_succ h2⟩
theorem sh_opt {n : Nat} {o : Option Int} : Sh n (pyOpt o) := by
  cases o with
  | none => exact sh_none
  | some i => exact sh_int
theorem sh_ints {n : Nat} {ns : List Int} : ∀ d ∈ ns.map PyData.int, Sh n d := fun d hd => by
  obtain ⟨i, _, rfl⟩ := List.mem_map.mp hd
  exact sh_int
/-- equal data -/
theorem eqv_same {n : Nat} {d : PyData} (h : Sh n d) : PyData.eqv d d = true := SeqAt.eqv_refl d h.1
/-! ### isinstance, items of any data -/
def tyN : PyData → String
  | .none => "NoneType"
  | .bool _ => "bool"
  | .int _ => "int"
  | .str _ => "str"
  | .list _ => "list"
  | .tuple _ => "tuple"
  | .dict _ => "dict"
section
variable {K : PySem.W.Frag} {H : Hp} {Q : VK} {v x : V} {d e : PyData} {ds : List PyData} {i : Int}
theorem Dp.ty (h : Dp K H v d) : TyX K H v (.type (tyN d)) := by
  cases h with
  | non => exact .base .non
  | bl b => exact .base (.bl b)
  | int i => exact .base (.int i)
  | str s => exact .base (.str s)
  | lst h _ =>
    rcases h with (h | ⟨o, h⟩) | ⟨o, its, n, h1, h2, _⟩
    · exact .base (.lst h)
    · exact .base (.frz h)
    · exact .kList h1 h2
  | tup h _ =>
    rcases h with (h | ⟨o, h⟩) | ⟨o, its, n, h1, h2, _⟩
    · exact .base (.tup h)
    · exact .fTuple h
    · exact .kTuple h1 h2
theorem st_isi {T : String} {b : Bool} (h : Dp K H x d) (e : kitB (tyN d) T = some b) (q : Q (.bl b) H) : rIsi K [x, .ty T] H Q := ⟨x, _, _, _, b, rfl, .ty T, Dp.ty h, kit_ty e, q⟩
theorem DpAll.length : ∀ {vs : List V} {ds : List PyData}, DpAll K H vs ds → vs.length = ds.length
  | _, _, .nil => rfl
  | _, _, .cons _ r => by rw [List.length_cons, List.length_cons, DpAll.length r]
theorem DpAll.get : ∀ {vs : List V} {ds : List PyData} {i : Nat} {d : PyData}, DpAll K H vs ds → ds[i]? = some d → ∃ v, vs[i]? = some v ∧ Dp K H v d
  | _, _, _, _, .nil, e => by simp at e
  | _, _, 0, _, .cons h _, e => by
    simp at e
    subst e
    exact ⟨_, by simp, h⟩
  | _, _, i + 1, _, .cons _ r, e => by
    obtain ⟨v, g1, g2⟩ := DpAll.get (i := i) r (by simpa using e)
    exact ⟨v, by simpa using g1, g2⟩
theorem Dp.lst_inv (h : Dp K H v (.list ds)) : ∃ a xs, v = .ref a ∧ SqL K H a xs ∧ DpAll K H xs ds := by
  cases h with
  | lst h1 h2 => exact ⟨_, _, rfl, h1, h2⟩
theorem Dp.tup_inv (h : Dp K H v (.tuple ds)) : ∃ a xs, v = .ref a ∧ SqT K H a xs ∧ DpAll K H xs ds := by
  cases h with
  | tup h1 h2 => exact ⟨_, _, rfl, h1, h2⟩
/-- a list or a tuple -/
def Seqs (d : PyData) (ds : List PyData) : Prop := d = .list ds ∨ d = .tuple ds
theorem st_ixD {j : Nat} (h : Dp K H x d) (s : Seqs d ds) (g : ds[j]? = some e) (q : ∀ v, Dp K H v e → Q v H) : rIx K x (.int (j : Int)) H Q := by
  rcases s with rfl | rfl
  · obtain ⟨a, xs, rfl, h1, h2⟩ := Dp.lst_inv h
    obtain ⟨v, g1, g2⟩ := DpAll.get h2 g
    exact .inl ⟨a, xs, j, v, rfl, rfl, h1, atI_nat g1, q v g2⟩
  · obtain ⟨a, xs, rfl, h1, h2⟩ := Dp.tup_inv h
    obtain ⟨v, g1, g2⟩ := DpAll.get h2 g
    exact .inr (.inl ⟨a, xs, j, v, rfl, rfl, h1, atI_nat g1, q v g2⟩)
theorem st_lenD (h : Dp K H x d) (s : Seqs d ds) (q : Q (.int (ds.length : Int)) H) : rLenS K [x] H Q := by
  rcases s with rfl | rfl
  · obtain ⟨a, xs, rfl, h1, h2⟩ := Dp.lst_inv h
    exact ⟨a, xs, rfl, .inl h1, by rw [DpAll.length h2]; exact q⟩
  · obtain ⟨a, xs, rfl, h1, h2⟩ := Dp.tup_inv h
    exact ⟨a, xs, rfl, .inr h1, by rw [DpAll.length h2]; exact q⟩
end
theorem kb_NoneType_bool : kitB "NoneType" "bool" = some false := by decide +kernel
theorem kb_NoneType_int : kitB "NoneType" "int" = some false := by decide +kernel
theorem kb_NoneType_str : kitB "NoneType" "str" = some false := by decide +kernel
theorem kb_NoneType_tuple : kitB "NoneType" "tuple" = some false := by decide +kernel
theorem kb_NoneType_list : kitB "NoneType" "list" = some false := by decide +kernel
theorem kb_bool_bool : kitB "bool" "bool" = some true := by decide +kernel
theorem kb_bool_int : kitB "bool" "int" = some true := by decide +kernel
theorem kb_bool_str : kitB "bool" "str" = some false := by decide +kernel
theorem kb_bool_tuple : kitB "bool" "tuple" = some false := by decide +kernel
theorem kb_bool_list : kitB "bool" "list" = some false := by decide +kernel
theorem kb_int_bool : kitB "int" "bool" = some false := by decide +kernel
theorem kb_int_int : kitB "int" "int" = some true := by decide +kernel
theorem kb_int_str : kitB "int" "str" = some false := by decide +kernel
theorem kb_int_tuple : kitB "int" "tuple" = some false := by decide +kernel
theorem kb_int_list : kitB "int" "list" = some false := by decide +kernel
theorem kb_str_bool : kitB "str" "bool" = some false := by decide +kernel
theorem kb_str_int : kitB "str" "int" = some false := by decide +kernel
theorem kb_str_str : kitB "str" "str" = some true := by decide +kernel
theorem kb_str_tuple : kitB "str" "tuple" = some false := by decide +kernel
theorem kb_str_list : kitB "str" "list" = some false := by decide +kernel
theorem kb_list_bool : kitB "list" "bool" = some false := by decide +kernel
theorem kb_list_int : kitB "list" "int" = some false := by decide +kernel
theorem kb_list_str : kitB "list" "str" = some false := by decide +kernel
theorem kb_list_tuple : kitB "list" "tuple" = some false := by decide +kernel
theorem kb_list_list : kitB "list" "list" = some true := by decide +kernel
theorem kb_tuple_bool : kitB "tuple" "bool" = some false := by decide +kernel
theorem kb_tuple_int : kitB "tuple" "int" = some false := by decide +kernel
theorem kb_tuple_str : kitB "tuple" "str" = some false := by decide +kernel
theorem kb_tuple_tuple : kitB "tuple" "tuple" = some true := by decide +kernel
theorem kb_tuple_list : kitB "tuple" "list" = some false := by decide +kernel
/-- what _law_alike goes through: lists and tuples of this depth -/
def Al : Nat → PyData → Prop
  | 0, d => d = .none ∨ (∃ b, d = .bool b) ∨ (∃ i, d = .int i) ∨ ∃ s, d = .str s ∧ PyData.strOk s = true
  | n + 1, d => (d = .none ∨ (∃ b, d = .bool b) ∨ (∃ i, d = .int i) ∨ ∃ s, d = .str s ∧ PyData.strOk s = true) ∨ ∃ ds, Seqs d ds ∧ ds.length ≤ 1000000 ∧ ∀ e ∈ ds, Al n e
theorem al_int {n : Nat} {i : Int} : Al n (.int i) := by cases n <;> simp [Al]
theorem al_none {n : Nat} : Al n .none := by cases n <;> simp [Al]
theorem al_bool {n : Nat} {b : Bool} : Al n (.bool b) := by cases n <;> simp [Al]
theorem al_str {n : Nat} {s : Str} (h : PyData.strOk s = true) : Al n (.str s) := by cases n <;> simp [Al, h]
theorem al_tup {n : Nat} {ds : List PyData} (hl : ds.length ≤ 1000000) (h : ∀ e ∈ ds, Al n e) : Al (n + 1) (.tuple ds) := .inr ⟨ds, .inr rfl, hl, h⟩
theorem al_lst {n : Nat} {ds : List PyData} (hl : ds.length ≤ 1000000) (h : ∀ e ∈ ds, Al n e) : Al (n + 1) (.list ds) := .inr ⟨ds, .inl rfl, hl, h⟩
theorem al_opt {n : Nat} {o : Option Int} : Al n (pyOpt o) := by
  cases o with
  | none => exact al_none
  | some i => exact al_int
theorem al_ints {n : Nat} {ns : List Int} : ∀ d ∈ ns.map PyData.int, Al n d := fun d hd => by
  obtain ⟨i, _, rfl⟩ := List.mem_map.mp hd
  exact al_int
theorem al_mono : ∀ {n m : Nat} {d : PyData}, n ≤ m → Al n d → Al m d
  | 0, 0, _, _, h => h
  | 0, m + 1, _, _, h => .inl h
  | n + 1, 0, _, hn, _ => absurd hn (by omega)
  | n + 1, m + 1, _, hn, h => by
    rcases h with h | ⟨ds, h1, h2, h3⟩
    · exact .inl h
    · exact .inr ⟨ds, h1, h2, fun e he => al_mono (by omega) (h3 e he)⟩
/-! ### the box of draws -/
/-- the box: its list of numbers stands at l -/
structure BoxAt (H : Hp) (b l : Addr) : Prop where
  box : ∃ st : Int, H b = some (.lst [.ref l, .int st]) ∧ 0 ≤ st ∧ st < 2147483647
  nums : ∃ ns : List Int, H l = some (.lst (ns.map V.int))
theorem BoxAt.ne {H : Hp} {b l : Addr} (h : BoxAt H b l) : b ≠ l := by
  obtain ⟨st, h1, _⟩ := h.box
  obtain ⟨ns, h2⟩ := h.nums
  refine ne_of h1 h2 fun z => ?_
  injection z with z
  cases ns with
  | nil => cases z
  | cons n ns => cases z
theorem BoxAt.keep {H H' : Hp} {b l : Addr} {F : List Addr} (h : BoxAt H b l) (f : Fr F H H') (h1 : b ∉ F) (h2 : l ∉ F) : BoxAt H' b l := by
  obtain ⟨st, a, r⟩ := h.box
  obtain ⟨ns, c⟩ := h.nums
  exact ⟨⟨st, f b _ a h1, r⟩, ⟨ns, f l _ c h2⟩⟩
theorem BoxAt.ex {H H' : Hp} {b l : Addr} (h : BoxAt H b l) (e : Ex H H') : BoxAt H' b l := h.keep (F := []) e.fr (by simp) (by simp)
/-- what a draw changes -/
def Dr (b l : Addr) (H H' : Hp) : Prop := Fr [b, l] H H' ∧ Kp H H' ∧ BoxAt H' b l
theorem Dr.trans {b l : Addr} {H H1 H2 : Hp} (a : Dr b l H H1) (c : Dr b l H1 H2) : Dr b l H H2 := ⟨a.1.trans c.1, a.2.1.trans c.2.1, c.2.2⟩
theorem Dr.ex {b l : Addr} {H H1 H2 : Hp} (a : Dr b l H H1) (e : Ex H1 H2) : Dr b l H H2 := ⟨a.1.trans e.fr, a.2.1.trans e.kp, a.2.2.ex e⟩
theorem Dr.put {b l D : Addr} {H H1 H2 : Hp} (h0 : BoxAt H b l) (a : Dr b l H H1) (nD : H D = none) (f : Fr [D] H1 H2) (k : Kp H1 H2) : Dr b l H H2 := by
  have hb : b ≠ D := fun z => by
    obtain ⟨st, h, _⟩ := h0.box
    rw [z, nD] at h
    cases h
  have hl : l ≠ D := fun z => by
    obtain ⟨ns, h⟩ := h0.nums
    rw [z, nD] at h
    cases h
  refine ⟨fun c o hc n => ?_, a.2.1.trans k, a.2.2.keep f (by simpa using hb) (by simpa using hl)⟩
  have : c ≠ D := fun z => by
    rw [z, nD] at hc
    cases hc
  exact f c o (a.1 c o hc n) (by simpa using this)
theorem Dr.start {b l : Addr} {H : Hp} (h : BoxAt H b l) : Dr b l H H := ⟨Fr.refl _ _, Kp.refl _, h⟩
end BC
/-! the law's own text: where each def stands, what the top has written. -/
namespace BC
open PySem PySem.Spec PyProof.Rows L2
open C8 (tCut pss_cut)
def topS (i : Nat) : Stmt := PySem.Challenge.pw_blockcarrier_k04_plainly.main.body.getD i (.Pass ⟨0, 0, 0, 0⟩)
abbrev s_is_from : Stmt := topS 11
abbrev s_lines_in : Stmt := topS 12
abbrev s_memory_fault : Stmt := topS 13
abbrev s_is_order : Stmt := topS 14
abbrev s_is_deed : Stmt := topS 15
abbrev s_check_board : Stmt := topS 16
abbrev s_moves_of : Stmt := topS 17
abbrev s_Plain___init__ : Stmt := inClass (topS 19) 0
abbrev s_Plain_look : Stmt := inClass (topS 19) 1
abbrev s_Plain_does : Stmt := inClass (topS 19) 2
abbrev s_plain_end : Stmt := topS 20
abbrev s_sights : Stmt := topS 21
abbrev s__law_begun : Stmt := topS 23
abbrev s__law_take : Stmt := topS 24
abbrev s__law_alike : Stmt := topS 25
abbrev s__law_order : Stmt := topS 26
abbrev s__law_deed : Stmt := topS 27
abbrev s__law_board : Stmt := topS 28
abbrev s__law_moves : Stmt := topS 29
abbrev s__law_plain : Stmt := topS 30
abbrev s__law_kinds : Stmt := topS 31
abbrev s_law : Stmt := topS 32
/-- where the classes stand -/
structure Cl where
  Plain : Addr
/-- what the top has written -/
structure Txt (K : PySem.W.Frag) (mg : Str → Option Value) (c : Cl) : Prop where
  len : mg "len" = none
  range : mg "range" = none
  min : mg "min" = none
  int : mg "int" = none
  list : mg "list" = none
  tuple : mg "tuple" = none
  enumerate : mg "enumerate" = none
  isinstance : mg "isinstance" = none
  bool : mg "bool" = none
  str : mg "str" = none
  ValueError : mg "ValueError" = none
  g_WIDE : HasC mg "WIDE" (.int 4)
  g_MOST_LINES : HasC mg "MOST_LINES" (.int 4)
  g_MOST_DIGIT : HasC mg "MOST_DIGIT" (.int 9)
  g_MOST_ORDERS : HasC mg "MOST_ORDERS" (.int 4)
  g_MOST_CELLS : HasC mg "MOST_CELLS" (.int 8)
  g_MOST_DEEDS : HasC mg "MOST_DEEDS" (.int 60)
  g_MOST_STARTS : HasC mg "MOST_STARTS" (.int 3)
  F_is_from : ∃ f fd, Fun K "is_from" "is_from" s_is_from f fd ∧ mg "is_from" = some (.ref f)
  F_lines_in : ∃ f fd, Fun K "lines_in" "lines_in" s_lines_in f fd ∧ mg "lines_in" = some (.ref f)
  F_memory_fault : ∃ f fd, Fun K "memory_fault" "memory_fault" s_memory_fault f fd ∧ mg "memory_fault" = some (.ref f)
  F_is_order : ∃ f fd, Fun K "is_order" "is_order" s_is_order f fd ∧ mg "is_order" = some (.ref f)
  F_is_deed : ∃ f fd, Fun K "is_deed" "is_deed" s_is_deed f fd ∧ mg "is_deed" = some (.ref f)
  F_check_board : ∃ f fd, Fun K "check_board" "check_board" s_check_board f fd ∧ mg "check_board" = some (.ref f)
  F_moves_of : ∃ f fd, Fun K "moves_of" "moves_of" s_moves_of f fd ∧ mg "moves_of" = some (.ref f)
  F_Plain___init__ : ∃ f fd, Fun K "__init__" "Plain.__init__" s_Plain___init__ f fd ∧ Mk K c.Plain f
  F_Plain_look : ∃ f fd, Fun K "look" "Plain.look" s_Plain_look f fd ∧ Meth K c.Plain "look" f
  F_Plain_does : ∃ f fd, Fun K "does" "Plain.does" s_Plain_does f fd ∧ Meth K c.Plain "does" f
  F_plain_end : ∃ f fd, Fun K "plain_end" "plain_end" s_plain_end f fd ∧ mg "plain_end" = some (.ref f)
  F_sights : ∃ f fd, Fun K "sights" "sights" s_sights f fd ∧ mg "sights" = some (.ref f)
  F__law_begun : ∃ f fd, Fun K "_law_begun" "_law_begun" s__law_begun f fd ∧ mg "_law_begun" = some (.ref f)
  F__law_take : ∃ f fd, Fun K "_law_take" "_law_take" s__law_take f fd ∧ mg "_law_take" = some (.ref f)
  F__law_alike : ∃ f fd, Fun K "_law_alike" "_law_alike" s__law_alike f fd ∧ mg "_law_alike" = some (.ref f)
  F__law_order : ∃ f fd, Fun K "_law_order" "_law_order" s__law_order f fd ∧ mg "_law_order" = some (.ref f)
  F__law_deed : ∃ f fd, Fun K "_law_deed" "_law_deed" s__law_deed f fd ∧ mg "_law_deed" = some (.ref f)
  F__law_board : ∃ f fd, Fun K "_law_board" "_law_board" s__law_board f fd ∧ mg "_law_board" = some (.ref f)
  F__law_moves : ∃ f fd, Fun K "_law_moves" "_law_moves" s__law_moves f fd ∧ mg "_law_moves" = some (.ref f)
  F__law_plain : ∃ f fd, Fun K "_law_plain" "_law_plain" s__law_plain f fd ∧ mg "_law_plain" = some (.ref f)
  F__law_kinds : ∃ f fd, Fun K "_law_kinds" "_law_kinds" s__law_kinds f fd ∧ mg "_law_kinds" = some (.ref f)
  F_law : ∃ f fd, Fun K "law" "law" s_law f fd ∧ mg "law" = some (.ref f)
  mg_Plain : mg "Plain" = some (.ref c.Plain)
  cl_Plain : Cls K c.Plain
  na_Plain_memory : NoAttr K c.Plain "memory"
  na_Plain_reads : NoAttr K c.Plain "reads"
  na_Plain_fetches : NoAttr K c.Plain "fetches"
  na_Plain_said : NoAttr K c.Plain "said"
end BC
namespace BC
open PySem PySem.Spec PyProof.Rows L2
open C8 (tCut pss_cut)
local macro_rules | `(tactic| walk_at "kp") => `(tactic| first
  | exact Kp.refl _ | assumption | exact Ex.kp (by assumption)
  | (refine Kp.new (by assumption) ?_; walk_at "kp")
  | (refine Kp.mut (nt_of (by assumption) trivial) ?_; walk_at "kp")
  | (refine Kp.trans ?_ (by assumption); walk_at "kp")
  | (refine Kp.trans ?_ (Ex.kp (by assumption)); walk_at "kp"))
local macro_rules | `(tactic| walk_at "ex") => `(tactic| first
  | exact Ex.refl _ | assumption
  | (refine Ex.trans ?_ (Ex.new (by assumption)); walk_at "ex")
  | (refine Ex.trans ?_ (by assumption); walk_at "ex"))
local macro_rules | `(tactic| walk_at "rd1") => `(tactic| first
  | with_reducible refine st_seq ?_ | with_reducible refine st_asg ?_ | with_reducible refine st_ret ?_ | with_reducible refine st_retN ?_ | with_reducible refine st_drop ?_ | with_reducible refine st_ifS ?_ | with_reducible refine st_name ?_
  | with_reducible refine st_var rfl ?_ | with_reducible refine st_c ?_ | with_reducible refine st_op ?_ | with_reducible refine st_un ?_ | with_reducible refine st_if ?_
  | with_reducible refine st_cons ?_ | with_reducible refine st_nil ?_ | with_reducible refine st_call ?_ | with_reducible refine st_CB ?_ | with_reducible refine st_tup ?_ | with_reducible refine st_lst ?_
  | with_reducible refine st_test ?_ | with_reducible refine st_tB ?_ | with_reducible refine st_and ?_ | with_reducible refine st_or ?_ | with_reducible refine st_not ?_ | with_reducible refine st_andV ?_ | with_reducible refine st_orV ?_ | with_reducible refine st_notV ?_
  | with_reducible refine st_bl ?_ | with_reducible refine st_T ?_ | with_reducible refine st_F ?_ | with_reducible refine st_next ?_ | with_reducible refine st_brk ?_ | with_reducible refine st_cont ?_
  | with_reducible refine st_I0 ?_ | with_reducible refine st_eqI ?_ | with_reducible refine st_neI ?_ | with_reducible refine st_eqS ?_ | with_reducible refine st_neS ?_ | with_reducible refine st_eqB ?_ | with_reducible refine st_neB ?_
  | with_reducible refine st_isN0 ?_ | with_reducible refine st_isNI ?_ | with_reducible refine st_isNR ?_ | with_reducible refine st_notN0 ?_ | with_reducible refine st_notNI ?_ | with_reducible refine st_notNR ?_ | with_reducible refine st_isN ?_ | with_reducible refine st_notN ?_
  | with_reducible refine st_intS ?_ | with_reducible refine st_intN (by decide) ?_ | with_reducible refine st_intB ?_ | with_reducible refine st_oT1 ?_ | with_reducible refine st_oT2 ?_ | with_reducible refine st_oF (by decide) (by decide) ?_ | with_reducible refine st_min ?_ | with_reducible refine st_gnil ?_ | with_reducible refine st_gcons ?_ | with_reducible refine st_bm ?_ | with_reducible refine st_bm0 ?_ | with_reducible refine st_yes ?_ | with_reducible refine st_lcR ?_ | with_reducible refine st_lcL ?_ | with_reducible refine st_lcU ?_ | with_reducible refine st_sT ?_ | with_reducible refine st_sF (by decide) ?_ | with_reducible refine st_wL ?_ | with_reducible refine st_wT ?_ | with_reducible refine st_wR ?_ | with_reducible refine st_NT ?_ | with_reducible refine st_NF ?_ | with_reducible refine st_fld ?_ | with_reducible refine st_sfld ?_ | with_reducible refine st_meth ?_ | with_reducible refine st_make ?_ | with_reducible refine st_fldaug ?_ | with_reducible refine st_gsub ?_ | with_reducible refine st_dget ?_ | with_reducible refine st_din ?_ | with_reducible refine st_dnotin ?_ | with_reducible refine st_dput ?_ | with_reducible refine st_aug rfl ?_ | with_reducible refine st_ip ?_ | with_reducible refine st_fdiv ⟨by decide, by decide⟩ ?_ | with_reducible refine st_mod (by decide) ?_)
local macro_rules | `(tactic| walk_at "rd") => `(tactic| repeat walk_at "rd1")
/-! ### moves_of -/
theorem sc_moves_of : FnScope ["orders", "number", "found", "source", "goal", "many", "later", "step"] ["orders", "number"] (defScope s_moves_of) := ⟨rfl, rfl, rfl, by decide +kernel, rfl, by decide +kernel, by decide +kernel⟩
def vN (o : Option Nat) : V := vOpt (oN o)
/-- the new list l holds these -/
def NewList (H H' : Hp) (l : Addr) (ds : List PyData) : Prop := H l = none ∧ Ex H H' ∧ ∃ xs, H' l = some (.lst xs) ∧ ImL H' ds xs
def sp_moves_of : Sp := fun vs H Q _ => ∃ (x : V) (cells : Nat) (os : List Ord) (k : Nat), vs = [x, .int (k : Int)] ∧ Im H (pyOrds (os.map Ord.raw)) x ∧ OrdsOk cells os ∧ os.length ≤ 4 ∧ k < os.length ∧
  ∀ l H', NewList H H' l ((movesOf os k).map pyMv) → Q (.ref l) H'
theorem cal_moves_of {P w base K mg c} (T : Txt K mg c) : Cal CX0 P w K mg base 1 "moves_of" sp_moves_of := by
  obtain ⟨f, fd, F, m⟩ := T.F_moves_of
  refine cal_of F m (fun _ _ _ _ _ _ us hl => match us, hl with | [_, _], _ => rfl) sc_moves_of (fun vs H Q E h => ?_) (fun cdv A outer s H vs Q E hr h => ?_)
  · obtain ⟨x, cells, os, k, rfl, _⟩ := h
    rfl
  · obtain ⟨x, cells, os, k, rfl, hx, g, h4, hk, q⟩ := h
    refine ⟨_, (pss_cons (ps_set (i := 2) sc_moves_of.nd rfl (.inl rfl) (pe_lst pa_nil))
      (pss_cons (ps_while PassesOwn.never (pt_cmpR o_notN (pv 1) pe_non (nomark _))
      (pss_cons (ps_asg (pe_ix ix_tup (pv 0) (pv 1) (fun _ _ => rfl)) (pg_tup (n := 4) rfl (pgs_cons (pg_name (i := 3) sc_moves_of.nd rfl (.inl rfl)) (pgs_cons (pg_name (i := 4) sc_moves_of.nd rfl (.inl rfl)) (pgs_cons (pg_name (i := 5) sc_moves_of.nd rfl (.inl rfl)) (pgs_cons (pg_name (i := 6) sc_moves_of.nd rfl (.inl rfl)) pgs_nil))))))
      (pss_cons (ps_for PassesOwn.never rfl (pi_range1 rfl T.range (pa_cons (pv 5) pa_nil)) (pg_name (i := 7) sc_moves_of.nd rfl (.inl rfl))
      (pss_one (ps_expr (pe_bm PySem.F.plainAttrs_list PySem.F.slot_list_append PySem.F.type_list_append mt_append (pv 2) (pa_cons (pe_tup (pa_cons (pe_op op_add (pv 3) (pv 7)) (pa_cons (pe_op op_add (pv 4) (pv 7)) (pa_cons (pe_ifExp (pt_cmpR op_eq (pv 7) (pe_op op_sub (pv 5) pe_int) (nomark _)) (pv 1) pe_non) pa_nil)))) pa_nil)))))
      (pss_one (ps_set (i := 1) sc_moves_of.nd rfl (.inl rfl) (pv 6))))))
      (pss_one (ps_ret (pv 2))))), ?_⟩
    walk_at "rd"
    refine st_newL (by decide) fun l H1 nl e1 hl => ?_
    walk_at "rd"
    -- while number is not None
    refine ⟨fun m σ H2 => ∃ (cur : Option Nat) (done : List Mv) (xs : List V) (a b c d e : Option V), σ = [some x, some (vN cur), some (.ref l), a, b, c, d, e] ∧ Ex H H2 ∧ H2 l = some (.lst xs) ∧ ImL H2 (done.map pyMv) xs ∧
      done ++ movesO os cur = movesOf os k ∧ (∀ j, cur = some j → j < os.length) ∧ m = (match cur with | none => 0 | some j => os.length - j), ⟨os.length - k, some k, [], [], _, _, _, _, _, rfl, e1, hl, iml_nil, rfl, fun j hj => by cases hj; exact hk, rfl⟩, fun m σ H2 hW => ?_⟩
    obtain ⟨cur, done, xs, a, b, c, d, e, rfl, e2, hl2, hxs, hd, hj, hm⟩ := hW
    walk_at "rd"
    cases cur with
    | none =>
      show if (!decide (V.non = V.non)) = true then _ else _
      rw [decide_eq_true rfl]
      walk_at "rd"
      have e0 : done = movesOf os k := by
        rw [← hd]
        exact (List.append_nil done).symm
      subst e0
      exact q l H2 ⟨nl, e2, xs, hl2, hxs⟩
    | some j =>
      have hj' : j < os.length := hj j rfl
      show if (!decide (V.int (j : Int) = V.non)) = true then _ else _
      rw [decide_eq_false (fun z => by cases z)]
      walk_at "rd"
      refine ⟨_, fun _ _ h => h, ?_⟩
      walk_at "rd"
      have ho : os[j]? = some os[j] := List.getElem?_eq_getElem hj'
      generalize eo : os[j] = o at ho
      refine st_ixT hx e2.kp (atI_nat (map_at (map_at ho))) fun v hv => ?_
      refine st_gtup hv (Kp.refl _) rfl fun ys hys => ?_
      cases ord_inv hys
      walk_at "rd"
      obtain ⟨b1, b2, b3, b4, b5⟩ := g.ok j o ho
      refine st_walkR (n := o.many) (by omega) (fun i σ H3 => ∃ (zs : List V) (y : Option V), σ = [some x, some (.int (j : Int)), some (.ref l), some (.int (o.src : Int)), some (.int (o.dst : Int)), some (.int (o.many : Int)), some (vN o.later), y] ∧ Ex H H3 ∧ H3 l = some (.lst zs) ∧ ImL H3 ((done ++ (List.range i).map (mvAt o j)).map pyMv) zs) ⟨xs, e, rfl, e2, hl2, by simpa using hxs⟩ (fun i σ' H3 hi p => ?_) (fun σ' H3 p => ?_)
      · obtain ⟨zs, y, rfl, e3, hl3, hzs⟩ := p
        walk_at "rd"
        refine tyL hl3 ?_
        walk_at "rd"
        have hlen : zs.length ≤ 32 := by
          have h1 : (movesOf os k).length ≤ 8 * os.length := moves_len g _ _
          have h2 : (movesOf os k).length = done.length + (movesO os (some j)).length := by rw [← hd, List.length_append]
          rw [movesO_some g ho, List.length_append, movesOne_len] at h2
          rw [hzs.length, List.length_map, List.length_append, List.length_map, List.length_range]
          omega
        have nx : ∀ (H5 : Hp) (p : Addr) (v : V), v = vN (if i + 1 = o.many then some j else none) → Ex H H5 → H5 p = some (.tup [.int ((o.src : Int) + (i : Int)), .int ((o.dst : Int) + (i : Int)), v]) → H5 l = some (.lst (zs ++ [.ref p])) → Kp H3 H5 →
            ∃ (zs : List V) (y : Option V), [some x, some (.int (j : Int)), some (.ref l), some (.int (o.src : Int)), some (.int (o.dst : Int)), some (.int (o.many : Int)), some (vN o.later), some (.int (i : Int))] = [some x, some (.int (j : Int)), some (.ref l), some (.int (o.src : Int)), some (.int (o.dst : Int)), some (.int (o.many : Int)), some (vN o.later), y] ∧ Ex H H5 ∧ H5 l = some (.lst zs) ∧ ImL H5 ((done ++ (List.range (i + 1)).map (mvAt o j)).map pyMv) zs := by
          intro H5 p v ev e5 hp hl5 k5
          refine ⟨zs ++ [.ref p], _, rfl, e5, hl5, ?_⟩
          rw [show done ++ (List.range (i + 1)).map (mvAt o j) = (done ++ (List.range i).map (mvAt o j)) ++ [mvAt o j i] by simp [List.range_succ], List.map_append (f := pyMv)]
          refine (hzs.kp k5).append (iml_cons (im_tup hp (iml_cons ?_ (iml_cons ?_ (iml_cons ?_ iml_nil)))) iml_nil)
          · rw [Im.int_iff]
            simp [mvAt]
          · rw [Im.int_iff]
            simp [mvAt]
          · rw [ev]
            exact im_opt.mpr rfl
        refine st_D (fun h => ?_) (fun h => ?_)
        all_goals walk_at "rd"
        all_goals refine st_newT (by simp) fun p H4 np e4 hp => ?_
        all_goals walk_at "rd"
        all_goals refine st_app (e4 l _ hl3) (sz_lt (by omega)) fun H5 f5 k5 hl5 => ?_
        all_goals walk_at "rd"
        · refine nx H5 p _ ?_ (Fr.ex (e3.trans e4) (fun a ha => by rw [List.mem_singleton.mp ha]; exact nl) f5) (k5 _ _ hp) hl5 (e4.kp.trans k5)
          rw [if_pos (by omega)]
          rfl
        · refine nx H5 p _ ?_ (Fr.ex (e3.trans e4) (fun a ha => by rw [List.mem_singleton.mp ha]; exact nl) f5) (k5 _ _ hp) hl5 (e4.kp.trans k5)
          rw [if_neg (by omega)]
          rfl
      · obtain ⟨zs, y, rfl, e3, hl3, hzs⟩ := p
        walk_at "rd"
        have hm' : m = os.length - j := hm
        refine ⟨match o.later with | none => 0 | some l => os.length - l, ?_, o.later, done ++ movesOne o j, zs, _, _, _, _, _, rfl, e3, hl3, ?_, ?_, fun l' hl' => (b5 l' hl').2, rfl⟩
        · rw [hm']
          cases e : o.later with
          | none =>
            show 0 < os.length - j
            omega
          | some l' =>
            have := b5 l' e
            show os.length - l' < os.length - j
            omega
        · exact hzs
        · rw [List.append_assoc, ← movesO_some g ho]
          exact hd
/-! ### Plain.look -/
theorem sc_Plain_look : FnScope ["self", "cell"] ["self", "cell"] (defScope s_Plain_look) := ⟨rfl, rfl, rfl, by decide +kernel, rfl, by decide +kernel, by decide +kernel⟩
def sp_Plain_look (C : Addr) : Sp := fun vs H Q _ => ∃ (p dx ml rl fl sl : Addr) (S : PS) (n : Nat), vs = [.ref p, .int (n : Int)] ∧ PlainAt C H p dx ml rl fl sl S ∧ n < S.mem.length ∧ S.reads.length ≤ 9000 ∧
  ∀ H', Fr [rl] H H' → Kp H H' → PlainAt C H' p dx ml rl fl sl (S.look n) → Q (.int (S.mem.getD n 0)) H'
theorem met_Plain_look {P w base K mg c} (T : Txt K mg c) : Met CX0 P w K mg base 1 c.Plain "look" (sp_Plain_look c.Plain) := by
  obtain ⟨f, fd, F, m⟩ := T.F_Plain_look
  refine met_of T.cl_Plain m F (fun _ _ _ _ _ _ us hl => match us, hl with | [_, _], _ => rfl) sc_Plain_look (fun vs H Q E h => ?_) (fun cdv A outer s H vs Q E hr h => ?_)
  · obtain ⟨p, dx, ml, rl, fl, sl, S, n, rfl, _⟩ := h
    rfl
  · obtain ⟨p, dx, ml, rl, fl, sl, S, n, rfl, hS, hn, hl, q⟩ := h
    refine ⟨_, (pss_cons (ps_expr (pe_bm PySem.F.plainAttrs_list PySem.F.slot_list_append PySem.F.type_list_append mt_append (pe_fld (pv 0) rfl) (pa_cons (pe_tup (pa_cons (pv 1) (pa_cons (pe_ix ix_list (pe_fld (pv 0) rfl) (pv 1) (fun _ _ => rfl)) pa_nil))) pa_nil)))
      (pss_one (ps_ret (pe_ix ix_list (pe_fld (pv 0) rfl) (pv 1) (fun _ _ => rfl))))), ?_⟩
    obtain ⟨xr, hre, ire⟩ := hS.re
    walk_at "rd"
    refine st_getF hS.ob T.cl_Plain T.na_Plain_reads lk_plain_reads ?_
    refine tyL hre ?_
    walk_at "rd"
    refine st_getF hS.ob T.cl_Plain T.na_Plain_memory lk_plain_memory ?_
    walk_at "rd"
    refine st_ixLI hS.me (atI_nat (getD_at hn)) ?_
    walk_at "rd"
    refine st_newT (by simp) fun t H1 nt e1 ht => ?_
    walk_at "rd"
    refine st_app (e1 _ _ hre) (sz_lt (by rw [ire.length, List.length_map]; omega)) fun H2 f2 k2 h2 => ?_
    have hS2 : PlainAt c.Plain H2 p dx ml rl fl sl (S.look n) := (hS.ex e1).addRead (e1 _ _ hre) (ire.ex e1) f2 k2 h2 (k2 _ _ ht)
    walk_at "rd"
    refine st_getF hS2.ob T.cl_Plain T.na_Plain_memory lk_plain_memory ?_
    walk_at "rd"
    refine st_ixLI hS2.me (atI_nat (getD_at hn)) ?_
    exact q H2 (e1.fr.trans f2) (e1.kp.trans k2) hS2
/-! ### Plain.does -/
theorem sc_Plain_does : FnScope ["self", "orders", "deed", "one", "source", "goal", "bell"] ["self", "orders", "deed"] (defScope s_Plain_does) := ⟨rfl, rfl, rfl, by decide +kernel, rfl, by decide +kernel, by decide +kernel⟩
def sp_Plain_does (C : Addr) : Sp := fun vs H Q _ => ∃ (p dx ml rl fl sl : Addr) (S : PS) (vo vd : V) (os : List Ord) (d : Deed) (n : Nat), vs = [.ref p, vo, vd] ∧ PlainAt C H p dx ml rl fl sl S ∧ Im H (pyOrds (os.map Ord.raw)) vo ∧ Im H (pyDeed d.raw) vd ∧
  OrdsOk S.mem.length os ∧ os.length ≤ 4 ∧ d.Ok S.mem.length os.length ∧ S.Small n ∧ n ≤ 100 ∧ ∀ H', Fr [ml, rl, fl, sl] H H' → Kp H H' → PlainAt C H' p dx ml rl fl sl (PS.deed os S d) → Q .non H'
theorem met_Plain_does {P w base K mg c} (T : Txt K mg c) : Met CX0 P w K mg base 2 c.Plain "does" (sp_Plain_does c.Plain) := by
  obtain ⟨f, fd, F, m⟩ := T.F_Plain_does
  have c_moves_of := cal_moves_of (P := P) (w := w) (base := base) T
  have m_Plain_look := met_Plain_look (P := P) (w := w) (base := base) T
  refine met_of T.cl_Plain m F (fun _ _ _ _ _ _ us hl => match us, hl with | [_, _, _], _ => rfl) sc_Plain_does (fun vs H Q E h => ?_) (fun cdv A outer s H vs Q E hr h => ?_)
  · obtain ⟨p, dx, ml, rl, fl, sl, S, vo, vd, os, d, n, rfl, _⟩ := h
    rfl
  · obtain ⟨p, dx, ml, rl, fl, sl, S, vo, vd, os, d, n, rfl, hS, ho, hd, g, h4, dk, hs, hn, q⟩ := h
    have hsr := hs.r
    have hsf := hs.f
    have hss := hs.s
    have i_ml : ml ∈ [ml, rl, fl, sl] := by simp
    have i_sub : ∀ a ∈ [rl], a ∈ [ml, rl, fl, sl] := by simp
    refine ⟨_, (pss_one (ps_if (pt_cmpR op_eq (pe_ix ix_tup (pv 2) pe_int (fun _ _ => rfl)) pe_str (nomark _)) (pss_one (ps_asg (pe_ix ix_tup (pv 2) pe_int (fun _ _ => rfl)) (pg_sub (pe_fld (pv 0) rfl) (pe_ix ix_tup (pv 2) pe_int (fun _ _ => rfl)) set_list))) (pss_one (ps_if (pt_cmpR op_eq (pe_ix ix_tup (pv 2) pe_int (fun _ _ => rfl)) pe_str (nomark _)) (pss_cons (ps_set (i := 3) sc_Plain_does.nd rfl (.inl rfl) (pe_mt m_Plain_look hr (by decide) (pv 0) (pa_cons (pe_ix ix_tup (pv 2) pe_int (fun _ _ => rfl)) pa_nil)))
      (pss_one (ps_asg (pe_op op_mod (pe_op op_add (pv 3) (pe_mt m_Plain_look hr (by decide) (pv 0) (pa_cons (pe_ix ix_tup (pv 2) pe_int (fun _ _ => rfl)) pa_nil))) pe_int) (pg_sub (pe_fld (pv 0) rfl) (pe_ix ix_tup (pv 2) pe_int (fun _ _ => rfl)) set_list)))) (pss_one (ps_if (pt_cmpR op_eq (pe_ix ix_tup (pv 2) pe_int (fun _ _ => rfl)) pe_str (nomark _)) (pss_one (ps_expr (pe_bm PySem.F.plainAttrs_list PySem.F.slot_list_append PySem.F.type_list_append mt_append (pe_fld (pv 0) rfl) (pa_cons (pe_mt m_Plain_look hr (by decide) (pv 0) (pa_cons (pe_ix ix_tup (pv 2) pe_int (fun _ _ => rfl)) pa_nil)) pa_nil)))) (pss_one (ps_if (pt_cmpR op_eq (pe_ix ix_tup (pv 2) pe_int (fun _ _ => rfl)) pe_str (nomark _)) (pss_one (ps_for PassesOwn.never rfl (pi_list (pe_c c_moves_of hr (by decide) (by rfl) (pa_cons (pv 1) (pa_cons (pe_ix ix_tup (pv 2) pe_int (fun _ _ => rfl)) pa_nil)))) (pg_tup (n := 3) rfl (pgs_cons (pg_name (i := 4) sc_Plain_does.nd rfl (.inl rfl)) (pgs_cons (pg_name (i := 5) sc_Plain_does.nd rfl (.inl rfl)) (pgs_cons (pg_name (i := 6) sc_Plain_does.nd rfl (.inl rfl)) pgs_nil))))
      (pss_cons (ps_expr (pe_bm PySem.F.plainAttrs_list PySem.F.slot_list_append PySem.F.type_list_append mt_append (pe_fld (pv 0) rfl) (pa_cons (pe_tup (pa_cons (pv 4) (pa_cons (pe_ix ix_list (pe_fld (pv 0) rfl) (pv 4) (fun _ _ => rfl)) pa_nil))) pa_nil)))
      (pss_one (ps_asg (pe_ix ix_list (pe_fld (pv 0) rfl) (pv 4) (fun _ _ => rfl)) (pg_sub (pe_fld (pv 0) rfl) (pv 5) set_list)))))) pss_nil)))))))), ?_⟩
    cases d with
    | set a k =>
      obtain ⟨d1, d2⟩ : a < S.mem.length ∧ k ≤ 9 := dk
      repeat (first | walk_at "rd1" | refine st_ixT_str hd (by walk_at "kp") (atI_nat (j := 0) rfl) ?_)
      refine st_ixT_int hd (Kp.refl _) (atI_nat (j := 2) rfl) ?_
      walk_at "rd"
      refine st_getF hS.ob T.cl_Plain T.na_Plain_memory lk_plain_memory ?_
      walk_at "rd"
      refine st_ixT_int hd (Kp.refl _) (atI_nat (j := 1) rfl) ?_
      refine st_setI hS.me (by rw [List.length_map]; exact d1) fun H2 f2 k2 h2 => ?_
      exact q H2 (f2.mono (by simp)) k2 (hS.setMem f2 k2 h2)
    | add a b =>
      obtain ⟨d1, d2⟩ : a < S.mem.length ∧ b < S.mem.length := dk
      repeat (first | walk_at "rd1" | refine st_ixT_str hd (by walk_at "kp") (atI_nat (j := 0) rfl) ?_)
      refine st_callM hS.ob lk_plain_look ?_
      walk_at "rd"
      refine st_ixT_int hd (Kp.refl _) (atI_nat (j := 1) rfl) ?_
      walk_at "rd"
      refine ⟨p, dx, ml, rl, fl, sl, S, a, rfl, hS, d1, by omega, fun H1 f1 k1 hS1 => ?_⟩
      walk_at "rd"
      refine st_callM hS1.ob lk_plain_look ?_
      walk_at "rd"
      refine st_ixT_int hd k1 (atI_nat (j := 2) rfl) ?_
      walk_at "rd"
      refine ⟨p, dx, ml, rl, fl, sl, _, b, rfl, hS1, d2, by simp [PS.look]; omega, fun H2 f2 k2 hS2 => ?_⟩
      walk_at "rd"
      refine st_getF hS2.ob T.cl_Plain T.na_Plain_memory lk_plain_memory ?_
      walk_at "rd"
      refine st_ixT_int hd (k1.trans k2) (atI_nat (j := 1) rfl) ?_
      refine st_setI hS2.me (by rw [List.length_map]; exact d1) fun H3 f3 k3 h3 => ?_
      exact q H3 (((f1.mono i_sub).trans (f2.mono i_sub)).trans (f3.mono (by simp))) ((k1.trans k2).trans k3) (hS2.setMem f3 k3 h3)
    | say a =>
      have d1 : a < S.mem.length := dk
      repeat (first | walk_at "rd1" | refine st_ixT_str hd (by walk_at "kp") (atI_nat (j := 0) rfl) ?_)
      refine st_getF hS.ob T.cl_Plain T.na_Plain_said lk_plain_said ?_
      refine tyL hS.sa ?_
      walk_at "rd"
      refine st_callM hS.ob lk_plain_look ?_
      walk_at "rd"
      refine st_ixT_int hd (Kp.refl _) (atI_nat (j := 1) rfl) ?_
      walk_at "rd"
      refine ⟨p, dx, ml, rl, fl, sl, S, a, rfl, hS, d1, by omega, fun H1 f1 k1 hS1 => ?_⟩
      walk_at "rd"
      refine st_app hS1.sa (sz_lt (by rw [List.length_map]; show S.said.length < _; omega)) fun H2 f2 k2 h2 => ?_
      exact q H2 ((f1.mono i_sub).trans (f2.mono (by simp))) (k1.trans k2) (hS1.addSaid f2 k2 h2)
    | start k =>
      have d1 : k < os.length := dk
      repeat (first | walk_at "rd1" | refine st_ixT_str hd (by walk_at "kp") (atI_nat (j := 0) rfl) ?_)
      refine st_ixT_int hd (Kp.refl _) (atI_nat (j := 1) rfl) ?_
      walk_at "rd"
      refine ⟨vo, S.mem.length, os, k, rfl, ho, g, h4, d1, fun l H1 hl => ?_⟩
      obtain ⟨nl, e1, xs, hx, ix⟩ := hl
      have hlen : (movesOf os k).length ≤ 8 * os.length := moves_len g _ _
      have hxl : xs.length = (movesOf os k).length := by rw [ix.length, List.length_map]
      refine st_walkL hx (fun i σ H' => ∃ a b e d, σ = [some (.ref p), some vo, some vd, d, a, b, e] ∧ Fr [ml, rl, fl, sl] H H' ∧ Kp H1 H' ∧ H' l = some (.lst xs) ∧ PlainAt c.Plain H' p dx ml rl fl sl (((movesOf os k).take i).foldl PS.move S)) ⟨_, _, _, _, rfl, e1.fr, Kp.refl _, hx, hS.ex e1⟩ (fun i σ H' hp => ?_) (fun i v σ H' hv hp => ?_) (fun σ H' hp => ?_)
      · obtain ⟨_, _, _, _, _, _, _, h, _⟩ := hp
        exact h
      · obtain ⟨a, b, c', d, rfl, f2, k2, hl2, hS2⟩ := hp
        obtain ⟨pd, e3, hm⟩ := ix.get' hv
        obtain ⟨mv, e4, rfl⟩ := map_at' e3
        have hmv : mv ∈ movesOf os k := List.mem_of_getElem? e4
        obtain ⟨b1, b2⟩ := moves_in g _ _ mv hmv
        refine st_gtup hm k2 rfl fun ys hys => ?_
        obtain ⟨v1, ys, rfl, h1, hys⟩ := hys.cons_inv
        obtain ⟨v2, ys, rfl, h2, hys⟩ := hys.cons_inv
        obtain ⟨v3, ys, rfl, h3, hys⟩ := hys.cons_inv
        cases hys.nil_inv
        cases Im.int_iff.mp h1
        cases Im.int_iff.mp h2
        have hmem : (((movesOf os k).take i).foldl PS.move S).mem.length = S.mem.length := (move_sizes _ S).2.2.2
        have hfet : (((movesOf os k).take i).foldl PS.move S).fetches.length ≤ S.fetches.length + 32 := by
          rw [(move_sizes _ S).2.2.1, List.length_take]
          omega
        generalize eS : ((movesOf os k).take i).foldl PS.move S = S2 at hS2 hmem hfet
        have eS' : ((movesOf os k).take (i + 1)).foldl PS.move S = S2.move mv := by
          rw [List.take_add_one, e4]
          show ((movesOf os k).take i ++ [mv]).foldl PS.move S = S2.move mv
          rw [List.foldl_append, eS]
          rfl
        rw [eS']
        obtain ⟨xf, hfe, ife⟩ := hS2.fe
        walk_at "rd"
        refine st_getF hS2.ob T.cl_Plain T.na_Plain_fetches lk_plain_fetches ?_
        refine tyL hfe ?_
        walk_at "rd"
        refine st_getF hS2.ob T.cl_Plain T.na_Plain_memory lk_plain_memory ?_
        walk_at "rd"
        refine st_ixLI hS2.me (atI_nat (getD_at (c := mv.src) (by omega))) ?_
        walk_at "rd"
        refine st_newT (by simp) fun t H3 nt e5 ht => ?_
        walk_at "rd"
        refine st_app (e5 _ _ hfe) (sz_lt (by rw [ife.length, List.length_map]; omega)) fun H4 f4 k4 h4' => ?_
        have hS4 := (hS2.ex e5).addFetch (e5 _ _ hfe) (ife.ex e5) f4 k4 h4' (k4 _ _ ht)
        walk_at "rd"
        refine st_getF hS4.ob T.cl_Plain T.na_Plain_memory lk_plain_memory ?_
        walk_at "rd"
        refine st_ixLI hS4.me (atI_nat (getD_at (c := mv.src) (by show mv.src < S2.mem.length; omega))) ?_
        walk_at "rd"
        refine st_getF hS4.ob T.cl_Plain T.na_Plain_memory lk_plain_memory ?_
        walk_at "rd"
        refine st_setI hS4.me (by rw [List.length_map]; show mv.dst < S2.mem.length; omega) fun H5 f5 k5 h5 => ?_
        have nlF : ∀ a ∈ [ml, rl, fl, sl], l ≠ a := by
          intro a ha z
          subst z
          obtain ⟨_, r1, _⟩ := hS.re
          obtain ⟨_, r2, _⟩ := hS.fe
          simp only [List.mem_cons, List.not_mem_nil, or_false] at ha
          rcases ha with z | z | z | z
          · rw [z, hS.me] at nl; cases nl
          · rw [z, r1] at nl; cases nl
          · rw [z, r2] at nl; cases nl
          · rw [z, hS.sa] at nl; cases nl
        refine ⟨_, _, _, _, rfl, ((f2.trans e5.fr).trans (f4.mono (by simp))).trans (f5.mono (by simp)), ((k2.trans e5.kp).trans k4).trans k5, ?_, hS4.setMem f5 k5 h5⟩
        exact fr1 f5 (fr1 f4 (e5 _ _ hl2) (nlF fl (by simp))) (nlF ml (by simp))
      · obtain ⟨a, b, c', d, rfl, f2, k2, hl2, hS2⟩ := hp
        rw [hxl, List.take_length] at hS2
        exact q H' f2 (e1.kp.trans k2) hS2
    | wait =>
      repeat (first | walk_at "rd1" | refine st_ixT_str hd (by walk_at "kp") (atI_nat (j := 0) rfl) ?_)
      exact q H (Fr.refl _ _) (Kp.refl _) hS
    | clean a =>
      repeat (first | walk_at "rd1" | refine st_ixT_str hd (by walk_at "kp") (atI_nat (j := 0) rfl) ?_)
      exact q H (Fr.refl _ _) (Kp.refl _) hS
    | drop a =>
      repeat (first | walk_at "rd1" | refine st_ixT_str hd (by walk_at "kp") (atI_nat (j := 0) rfl) ?_)
      exact q H (Fr.refl _ _) (Kp.refl _) hS
/-! ### Plain -/
theorem sc_Plain___init__ : FnScope ["self", "board", "deed"] ["self", "board"] (defScope s_Plain___init__) := ⟨rfl, rfl, rfl, by decide +kernel, rfl, by decide +kernel, by decide +kernel⟩
def sp_Plain_init (C : Addr) : Sp := fun vs H Q _ => ∃ (p dx : Addr) (x : V) (b : Bd), vs = [.ref p, x] ∧ H p = some (.ins C dx []) ∧ Im H (pyB b.raw) x ∧ Good b ∧
  ∀ H' ml rl fl sl, Fr [p] H H' → Kp H H' → H ml = none → H rl = none → H fl = none → H sl = none → PlainAt C H' p dx ml rl fl sl (plainOf b) → Q .non H'
theorem mak_Plain {P w base K mg c} (T : Txt K mg c) : Mak CX0 P w K mg base 3 "Plain" c.Plain (sp_Plain_init c.Plain) := by
  obtain ⟨f, fd, F, m⟩ := T.F_Plain___init__
  have m_Plain_does := met_Plain_does (P := P) (w := w) (base := base) T
  refine mak_of m T.mg_Plain F (fun _ _ _ _ _ _ us hl => match us, hl with | [_, _], _ => rfl) sc_Plain___init__ (fun vs H Q E h => ?_) (fun cdv A outer s H vs Q E hr h => ?_)
  · obtain ⟨p, dx, x, b, rfl, _⟩ := h
    rfl
  · obtain ⟨p, dx, x, b, rfl, hp, hx, g, q⟩ := h
    refine ⟨_, (pss_cons (ps_fld (pv 0) (pe_callTy c_list (by rfl) T.list (by decide +kernel) (pa_cons (pe_ix ix_tup (pv 1) pe_int (fun _ _ => rfl)) pa_nil)) rfl)
      (pss_cons (ps_fld (pv 0) (pe_lst pa_nil) rfl)
      (pss_cons (ps_fld (pv 0) (pe_lst pa_nil) rfl)
      (pss_cons (ps_fld (pv 0) (pe_lst pa_nil) rfl)
      (pss_one (ps_for PassesOwn.never rfl (pi_tup (pe_ix ix_tup (pv 1) pe_int (fun _ _ => rfl))) (pg_name (i := 2) sc_Plain___init__.nd rfl (.inl rfl))
      (pss_one (ps_expr (pe_mt m_Plain_does hr (by decide) (pv 0) (pa_cons (pe_ix ix_tup (pv 1) pe_int (fun _ _ => rfl)) (pa_cons (pv 2) pa_nil))))))))))), ?_⟩
    obtain ⟨ax, xs, rfl, hax, hxs⟩ := hx.tup
    obtain ⟨vm, xs, rfl, hm, hxs⟩ := hxs.cons_inv
    obtain ⟨vo, xs, rfl, hos, hxs⟩ := hxs.cons_inv
    obtain ⟨vp, xs, rfl, hpr, hxs⟩ := hxs.cons_inv
    walk_at "rd"
    refine st_ixT hx (Kp.refl _) (atI_nat (j := 0) rfl) fun vm hm => ?_
    walk_at "rd"
    refine st_listT hm (Kp.refl _) fun ml xm H1 n1 e1 i1 h1 => ?_
    have em : xm = b.mem.map V.int := ImL.ints.mp i1
    subst em
    walk_at "rd"
    refine st_setF (e1 _ _ hp) T.cl_Plain T.na_Plain_memory (by decide) fun H2 f2 k2 h2 => ?_
    have npl : ∀ {l : Addr} {Hx : Hp} {fs : List (Str × V)}, Hx p = some (.ins c.Plain dx fs) → Hx l = none → l ≠ p := fun {l Hx fs} a b' z => by
      rw [z, a] at b'
      cases b'
    walk_at "rd"
    refine st_newL (by simp) fun rl H3 n3 e3 h3 => ?_
    walk_at "rd"
    refine st_setF (e3 _ _ h2) T.cl_Plain T.na_Plain_reads (by simp [putF]) fun H4 f4 k4 h4 => ?_
    walk_at "rd"
    refine st_newL (by simp) fun fl H5 n5 e5 h5 => ?_
    walk_at "rd"
    refine st_setF (e5 _ _ h4) T.cl_Plain T.na_Plain_fetches (by simp [putF, ofS_inj]) fun H6 f6 k6 h6 => ?_
    walk_at "rd"
    refine st_newL (by simp) fun sl H7 n7 e7 h7 => ?_
    walk_at "rd"
    refine st_setF (e7 _ _ h6) T.cl_Plain T.na_Plain_said (by simp [putF, ofS_inj]) fun H8 f8 k8 h8 => ?_
    have ef : putF "said" (.ref sl) (putF "fetches" (.ref fl) (putF "reads" (.ref rl) (putF "memory" (.ref ml) []))) = plainF ml rl fl sl := by
      simp [putF, ofS_inj, plainF]
    rw [ef] at h8
    -- what was known stands, the new lists too
    have ne1 : ml ≠ p := npl hp n1
    have ne3 : rl ≠ p := npl h2 n3
    have ne5 : fl ≠ p := npl h4 n5
    have ne7 : sl ≠ p := npl h6 n7
    have m2 : H2 ml = _ := fr1 f2 h1 ne1
    have m4 : H4 ml = _ := fr1 f4 (e3 _ _ m2) ne1
    have m6 : H6 ml = _ := fr1 f6 (e5 _ _ m4) ne1
    have m8 : H8 ml = _ := fr1 f8 (e7 _ _ m6) ne1
    have r4 : H4 rl = _ := fr1 f4 h3 ne3
    have r6 : H6 rl = _ := fr1 f6 (e5 _ _ r4) ne3
    have r8 : H8 rl = _ := fr1 f8 (e7 _ _ r6) ne3
    have t6 : H6 fl = _ := fr1 f6 h5 ne5
    have t8 : H8 fl = _ := fr1 f8 (e7 _ _ t6) ne5
    have s8 : H8 sl = _ := fr1 f8 h7 ne7
    have F8 : Fr [p] H H8 := ((((((e1.fr.trans f2).trans e3.fr).trans f4).trans e5.fr).trans f6).trans e7.fr).trans f8
    have K8 : Kp H H8 := ((((((e1.kp.trans k2).trans e3.kp).trans k4).trans e5.kp).trans k6).trans e7.kp).trans k8
    have free : ∀ {l : Addr} {Hx : Hp}, Fr [p] H Hx → l ≠ p → Hx l = none → H l = none := fun {l Hx} f n h => by
      cases e : H l with
      | none => rfl
      | some o =>
        rw [f l o e (by simpa using n)] at h
        cases h
    have z3 : H rl = none := free (e1.fr.trans f2) ne3 n3
    have z5 : H fl = none := free (((e1.fr.trans f2).trans e3.fr).trans f4) ne5 n5
    have z7 : H sl = none := free (((((e1.fr.trans f2).trans e3.fr).trans f4).trans e5.fr).trans f6) ne7 n7
    have nd : [ml, rl, fl, sl].Nodup := by
      have a1 : ml ≠ rl := fun z => by rw [← z, m2] at n3; cases n3
      have a2 : ml ≠ fl := fun z => by rw [← z, m4] at n5; cases n5
      have a3 : ml ≠ sl := fun z => by rw [← z, m6] at n7; cases n7
      have a4 : rl ≠ fl := fun z => by rw [← z, r4] at n5; cases n5
      have a5 : rl ≠ sl := fun z => by rw [← z, r6] at n7; cases n7
      have a6 : fl ≠ sl := fun z => by rw [← z, t6] at n7; cases n7
      simp [a1, a2, a3, a4, a5, a6]
    have S8 : PlainAt c.Plain H8 p dx ml rl fl sl (PS.init b.mem) := ⟨h8, m8, ⟨[], r8, iml_nil⟩, ⟨[], t8, iml_nil⟩, s8, nd⟩
    walk_at "rd"
    refine st_ixT hx K8 (atI_nat (j := 2) rfl) fun vp hvp => ?_
    have inP : ∀ a ∈ [ml, rl, fl, sl], H a = none := by
      intro a ha
      simp only [List.mem_cons, List.not_mem_nil, or_false] at ha
      rcases ha with rfl | rfl | rfl | rfl <;> assumption
    refine st_walkT hvp (Kp.refl _) (fun i σ H' => ∃ y, σ = [some (.ref p), some (.ref ax), y] ∧ Fr [p] H H' ∧ Kp H8 H' ∧ PlainAt c.Plain H' p dx ml rl fl sl ((b.prog.take i).foldl (PS.deed b.ords) (PS.init b.mem))) ⟨none, rfl, F8, Kp.refl _, S8⟩ (fun i σ H' hP => ?_) (fun i d v σ H' hd hP hv => ?_) (fun σ H' hP => ?_)
    · obtain ⟨_, _, _, k, _⟩ := hP
      exact k
    · obtain ⟨y, rfl, f9, k9, S9⟩ := hP
      obtain ⟨rd, g1, rfl⟩ := map_at' hd
      obtain ⟨d, g2, rfl⟩ := map_at' g1
      walk_at "rd"
      refine st_callM S9.ob lk_plain_does ?_
      walk_at "rd"
      refine st_ixT hx (K8.trans k9) (atI_nat (j := 1) rfl) fun vo hvo => ?_
      walk_at "rd"
      have hi : i < b.prog.length := (List.getElem?_eq_some_iff.mp g2).1
      have h60 := g.len
      have hml : ((b.prog.take i).foldl (PS.deed b.ords) (PS.init b.mem)).mem.length = b.mem.length := plain_mem_len _ _ _
      refine ⟨p, dx, ml, rl, fl, sl, _, vo, v, b.ords, d, i, rfl, S9, hvo, hv, by rw [hml]; exact g.ordsOk, g.ords, by rw [hml]; exact g.deeds d (List.mem_of_getElem? g2), ?_, by omega, fun H10 f10 k10 S10 => ?_⟩
      · have := plain_small g.ordsOk g.ords (b.prog.take i) 0 (PS.init b.mem) ⟨by simp [PS.init], by simp [PS.init], by simp [PS.init]⟩
        rw [List.length_take, show 0 + min i b.prog.length = i by omega] at this
        exact this
      · walk_at "rd"
        refine ⟨_, rfl, fun a o ha na => ?_, k9.trans k10, ?_⟩
        · refine f10 a o (f9 a o ha na) fun z => ?_
          rw [inP a z] at ha
          cases ha
        · rw [List.take_add_one, g2]
          show PlainAt c.Plain H10 p dx ml rl fl sl ((b.prog.take i ++ [d]).foldl (PS.deed b.ords) (PS.init b.mem))
          rw [List.foldl_append]
          exact S10
    · obtain ⟨y, rfl, f9, k9, S9⟩ := hP
      simp only [List.length_map, List.take_length] at S9
      exact q H' ml rl fl sl f9 (K8.trans k9) n1 z3 z5 z7 S9
/-! ### is_from -/
theorem sc_is_from : FnScope ["number", "least", "most"] ["number", "least", "most"] (defScope s_is_from) := ⟨rfl, rfl, rfl, by decide +kernel, rfl, by decide +kernel, by decide +kernel⟩
def sp_is_from : Sp := fun vs H Q _ => ∃ a b c : Int, vs = [.int a, .int b, .int c] ∧ Q (.bl (decide (b ≤ a ∧ a ≤ c))) H
theorem cal_is_from {P w base K mg c} (T : Txt K mg c) : Cal CX0 P w K mg base 1 "is_from" sp_is_from := by
  obtain ⟨f, fd, F, m⟩ := T.F_is_from
  refine cal_of F m (fun _ _ _ _ _ _ us hl => match us, hl with | [_, _, _], _ => rfl) sc_is_from (fun vs H Q E h => ?_) (fun cdv A outer s H vs Q E hr h => ?_)
  · obtain ⟨a, b, c, rfl, _⟩ := h
    rfl
  · obtain ⟨a, b, c, rfl, q⟩ := h
    refine ⟨_, (pss_one (ps_ret (pe_and (pe_cmpR op_le (pv 1) (pv 0) (nomark _)) (pe_one (pe_cmpR op_le (pv 0) (pv 2) (nomark _)))))), ?_⟩
    walk_at "rd"
    refine st_D (fun h1 => ?_) (fun h1 => ?_)
    · walk_at "rd"
      rw [show decide (b ≤ a ∧ a ≤ c) = decide (a ≤ c) from decide_eq_decide.mpr ⟨fun h => h.2, fun h => ⟨h1, h⟩⟩] at q
      exact q
    · rw [decide_eq_false (fun h : b ≤ a ∧ a ≤ c => h1 h.1)] at q
      exact q
/-! ### lines_in -/
theorem sc_lines_in : FnScope ["memory"] ["memory"] (defScope s_lines_in) := ⟨rfl, rfl, rfl, by decide +kernel, rfl, by decide +kernel, by decide +kernel⟩
def sp_lines_in : Sp := fun vs H Q _ => ∃ (x : V) (ds : List PyData), vs = [x] ∧ Im H (.tuple ds) x ∧ Q (.int ((ds.length / 4 : Nat) : Int)) H
theorem cal_lines_in {P w base K mg c} (T : Txt K mg c) : Cal CX0 P w K mg base 1 "lines_in" sp_lines_in := by
  obtain ⟨f, fd, F, m⟩ := T.F_lines_in
  refine cal_of F m (fun _ _ _ _ _ _ us hl => match us, hl with | [_], _ => rfl) sc_lines_in (fun vs H Q E h => ?_) (fun cdv A outer s H vs Q E hr h => ?_)
  · obtain ⟨x, ds, rfl, _⟩ := h
    rfl
  · obtain ⟨x, ds, rfl, hx, q⟩ := h
    refine ⟨_, (pss_one (ps_ret (pe_op op_fdiv (pe_callB c_len (by rfl) T.len PySem.boot_len (pa_cons (pv 0) pa_nil)) (pe_gc (by rfl) T.g_WIDE)))), ?_⟩
    walk_at "rd"
    refine st_lenT hx (Kp.refl _) ?_
    walk_at "rd"
    exact q
/-! ### memory_fault -/
theorem sc_memory_fault : FnScope ["memory", "place", "number"] ["memory"] (defScope s_memory_fault) := ⟨rfl, rfl, rfl, by decide +kernel, rfl, by decide +kernel, by decide +kernel⟩
def vNat : Option Nat → V
  | none => .non
  | some n => .int (n : Int)
def sp_memory_fault : Sp := fun vs H Q _ => ∃ (x : V) (m : List Int), vs = [x] ∧ Im H (pyMem m) x ∧ ∀ H', Ex H H' → Q (vNat (memFault m)) H'
theorem cal_memory_fault {P w base K mg c} (T : Txt K mg c) : Cal CX0 P w K mg base 2 "memory_fault" sp_memory_fault := by
  obtain ⟨f, fd, F, m⟩ := T.F_memory_fault
  have c_is_from := cal_is_from (P := P) (w := w) (base := base) T
  have c_lines_in := cal_lines_in (P := P) (w := w) (base := base) T
  refine cal_of F m (fun _ _ _ _ _ _ us hl => match us, hl with | [_], _ => rfl) sc_memory_fault (fun vs H Q E h => ?_) (fun cdv A outer s H vs Q E hr h => ?_)
  · obtain ⟨x, ds, rfl, _⟩ := h
    rfl
  · obtain ⟨x, m, rfl, hx, q⟩ := h
    refine ⟨_, (pss_cons (ps_if (PW.pt (pw_or (pt_cmpR op_ne (pe_op op_mod (pe_callB c_len (by rfl) T.len PySem.boot_len (pa_cons (pv 0) pa_nil)) (pe_gc (by rfl) T.g_WIDE)) pe_int (nomark _)) (pw_or1 (pt_not (pt_val (pe_c c_is_from hr (by decide) (by rfl) (pa_cons (pe_c c_lines_in hr (by decide) (by rfl) (pa_cons (pv 0) pa_nil)) (pa_cons pe_int (pa_cons (pe_gc (by rfl) T.g_MOST_LINES) pa_nil))))))))) (pss_one (ps_ret pe_int)) pss_nil)
      (pss_cons (ps_for PassesOwn.never rfl (pi_enumT (by rfl) T.enumerate (pa_cons (pv 0) pa_nil)) (pg_tup (n := 2) rfl (pgs_cons (pg_name (i := 1) sc_memory_fault.nd rfl (.inl rfl)) (pgs_cons (pg_name (i := 2) sc_memory_fault.nd rfl (.inl rfl)) pgs_nil)))
      (pss_one (ps_if (pt_not (pt_val (pe_c c_is_from hr (by decide) (by rfl) (pa_cons (pv 2) (pa_cons pe_int (pa_cons (pe_gc (by rfl) T.g_MOST_DIGIT) pa_nil)))))) (pss_one (ps_ret (pv 1))) pss_nil)))
      (pss_one (ps_ret pe_non)))), ?_⟩
    walk_at "rd"
    refine st_lenT hx (Kp.refl _) ?_
    walk_at "rd"
    have ez : ((m.map PyData.int).length : Int) % 4 = ((m.length % 4 : Nat) : Int) := by
      rw [List.length_map]
      omega
    rw [ez]
    have bad : (m.length % 4 ≠ 0 ∨ ¬ (1 ≤ m.length / 4 ∧ m.length / 4 ≤ 4)) → Q (.int 0) H := fun h => by
      have e : memFault m = some 0 := by
        unfold memFault
        rw [if_pos h]
      rw [e] at q
      exact q H (Ex.refl H)
    have main : ¬ (m.length % 4 ≠ 0 ∨ ¬ (1 ≤ m.length / 4 ∧ m.length / 4 ≤ 4)) → (tFor (iEnumT K (tCons (tVar 0) tNil)) (gTup K 2 (gCons (gName 1) (gCons (gName 2) gNil)))
        (tIfS (tNot (tB (tCall sp_is_from [] L2.E0 (tCons (tVar 2) (tCons (tC (.int 0)) (tCons (tC (.int 9)) tNil)))))) (tRet (tVar 1)) tNext)) ⟨tRet (tC .non) { nx := fun _ H' => Q .non H', rt := Q }, Q, fun _ _ => False, fun _ _ => False⟩ (L2.start ["memory", "place", "number"] [x]) H := fun hg => by
      have e0 : memFault m = m.findIdx? fun n => !digit n := by
        unfold memFault
        rw [if_neg hg]
      refine st_forET (H0 := H) (fun i σ H' => ∃ y z, σ = [some x, y, z] ∧ Ex H H' ∧ ∀ j n, j < i → m[j]? = some n → digit n = true) rfl hx (Kp.refl _) ⟨none, none, rfl, Ex.refl _, fun j n hj => absurd hj (Nat.not_lt_zero _)⟩ (fun i σ H' p => ?_) (fun i d v σ H' H'' hd p ht hv => ?_) (fun σ H' p => ?_)
      · obtain ⟨_, _, _, e, _⟩ := p
        exact e.kp
      · obtain ⟨y, z, rfl, e, hj⟩ := p
        obtain ⟨n, en, rfl⟩ := map_at' hd
        rw [Im.int_iff.mp hv]
        walk_at "rd"
        refine ⟨_, _, _, rfl, ?_⟩
        walk_at "rd"
        refine st_ND (fun h => ?_) (fun h => ?_)
        · walk_at "rd"
          have hd : digit n = false := decide_eq_false h
          have e1 : m.findIdx? (fun n => !digit n) = some i := by
            rw [List.findIdx?_eq_some_iff_getElem]
            obtain ⟨hi, g⟩ := List.getElem?_eq_some_iff.mp en
            refine ⟨hi, by rw [g, hd]; rfl, fun j hj' => ?_⟩
            rw [hj j m[j] hj' (List.getElem?_eq_getElem (by omega))]
            simp
          rw [e0, e1] at q
          exact q _ (e.trans ht)
        · walk_at "rd"
          refine ⟨some (.int (i : Int)), some (.int n), rfl, e.trans ht, fun j n' hj' en' => ?_⟩
          rcases Nat.lt_succ_iff_lt_or_eq.mp hj' with h1 | h1
          · exact hj j n' h1 en'
          · subst h1
            rw [en] at en'
            cases en'
            exact decide_eq_true h
      · obtain ⟨y, z, rfl, e, hj⟩ := p
        walk_at "rd"
        have e1 : m.findIdx? (fun n => !digit n) = none := by
          rw [List.findIdx?_eq_none_iff]
          intro n hn
          obtain ⟨j, h1, h2⟩ := List.mem_iff_getElem.mp hn
          rw [hj j n (by simpa using h1) (by rw [List.getElem?_eq_getElem h1, h2])]
          rfl
        rw [e0, e1] at q
        exact q _ e
    refine st_ND (fun h => ?_) (fun h => ?_)
    · walk_at "rd"
      exact bad (.inl fun z => h (by rw [z]; rfl))
    · walk_at "rd"
      refine ⟨x, _, rfl, hx, ?_⟩
      walk_at "rd"
      refine ⟨_, _, _, rfl, ?_⟩
      walk_at "rd"
      rw [List.length_map]
      refine st_ND (fun h2 => ?_) (fun h2 => ?_)
      · walk_at "rd"
        exact bad (.inr fun z => h2 (by omega))
      · walk_at "rd"
        exact main fun z => z.elim (fun z => z (by omega)) fun z => z (by omega)
/-! ### is_order -/
theorem sc_is_order : FnScope ["board", "number", "memory", "orders", "program", "source", "goal", "many", "later"] ["board", "number"] (defScope s_is_order) := ⟨rfl, rfl, rfl, by decide +kernel, rfl, by decide +kernel, by decide +kernel⟩
def sp_is_order : Sp := fun vs H Q _ => ∃ (x : V) (b : RB) (i : Nat) (o : ROrd), vs = [x, .int (i : Int)] ∧ Im H (pyB b) x ∧ b.ords[i]? = some o ∧ Q (.bl (ordOk b.mem.length b.ords.length i o)) H
theorem cal_is_order {P w base K mg c} (T : Txt K mg c) : Cal CX0 P w K mg base 2 "is_order" sp_is_order := by
  obtain ⟨f, fd, F, m⟩ := T.F_is_order
  have c_is_from := cal_is_from (P := P) (w := w) (base := base) T
  refine cal_of F m (fun _ _ _ _ _ _ us hl => match us, hl with | [_, _], _ => rfl) sc_is_order (fun vs H Q E h => ?_) (fun cdv A outer s H vs Q E hr h => ?_)
  · obtain ⟨x, b, i, o, rfl, _⟩ := h
    rfl
  · obtain ⟨x, b, i, o, rfl, hx, ho, q⟩ := h
    refine ⟨_, (pss_cons (ps_asg (pv 0) (pg_tup (n := 3) rfl (pgs_cons (pg_name (i := 2) sc_is_order.nd rfl (.inl rfl)) (pgs_cons (pg_name (i := 3) sc_is_order.nd rfl (.inl rfl)) (pgs_cons (pg_name (i := 4) sc_is_order.nd rfl (.inl rfl)) pgs_nil)))))
      (pss_cons (ps_asg (pe_ix ix_tup (pv 3) (pv 1) (fun _ _ => rfl)) (pg_tup (n := 4) rfl (pgs_cons (pg_name (i := 5) sc_is_order.nd rfl (.inl rfl)) (pgs_cons (pg_name (i := 6) sc_is_order.nd rfl (.inl rfl)) (pgs_cons (pg_name (i := 7) sc_is_order.nd rfl (.inl rfl)) (pgs_cons (pg_name (i := 8) sc_is_order.nd rfl (.inl rfl)) pgs_nil))))))
      (pss_cons (ps_if (pt_not (pt_val (pe_c c_is_from hr (by decide) (by rfl) (pa_cons (pv 7) (pa_cons pe_int (pa_cons (pe_gc (by rfl) T.g_MOST_CELLS) pa_nil)))))) (pss_one (ps_ret pe_bl)) pss_nil)
      (pss_cons (ps_if (PW.pt (pw_or (pt_not (pt_val (pe_c c_is_from hr (by decide) (by rfl) (pa_cons (pv 5) (pa_cons pe_int (pa_cons (pe_op op_sub (pe_callB c_len (by rfl) T.len PySem.boot_len (pa_cons (pv 2) pa_nil)) (pv 7)) pa_nil)))))) (pw_or1 (pt_not (pt_val (pe_c c_is_from hr (by decide) (by rfl) (pa_cons (pv 6) (pa_cons pe_int (pa_cons (pe_op op_sub (pe_callB c_len (by rfl) T.len PySem.boot_len (pa_cons (pv 2) pa_nil)) (pv 7)) pa_nil))))))))) (pss_one (ps_ret pe_bl)) pss_nil)
      (pss_one (ps_ret (pe_or (pe_cmpR o_isN (pv 8) pe_non (nomark _)) (pe_one (pe_c c_is_from hr (by decide) (by rfl) (pa_cons (pv 8) (pa_cons (pe_op op_add (pv 1) pe_int) (pa_cons (pe_op op_sub (pe_callB c_len (by rfl) T.len PySem.boot_len (pa_cons (pv 3) pa_nil)) pe_int) pa_nil)))))))))))), ?_⟩
    walk_at "rd"
    refine st_gtup hx (Kp.refl _) rfl fun xs hxs => ?_
    obtain ⟨vm, xs, rfl, hm, hxs⟩ := hxs.cons_inv
    obtain ⟨vo, xs, rfl, hos, hxs⟩ := hxs.cons_inv
    obtain ⟨vp, xs, rfl, hp, hxs⟩ := hxs.cons_inv
    cases hxs.nil_inv
    walk_at "rd"
    refine st_ixT hos (Kp.refl _) (atI_nat (map_at ho)) fun v hv => ?_
    refine st_gtup hv (Kp.refl _) rfl fun xs hxs => ?_
    cases ord_inv hxs
    walk_at "rd"
    refine ⟨_, _, _, rfl, ?_⟩
    walk_at "rd"
    unfold ordOk at q
    refine st_ND (fun h1 => ?_) (fun h1 => ?_)
    · walk_at "rd"
      rw [decide_eq_false h1] at q
      exact q
    rw [decide_eq_true h1] at q
    walk_at "rd"
    refine st_lenT hm (Kp.refl _) ?_
    walk_at "rd"
    refine ⟨_, _, _, rfl, ?_⟩
    walk_at "rd"
    rw [List.length_map]
    refine st_ND (fun h2 => ?_) (fun h2 => ?_)
    · walk_at "rd"
      rw [decide_eq_false h2] at q
      exact q
    rw [decide_eq_true h2] at q
    walk_at "rd"
    refine st_lenT hm (Kp.refl _) ?_
    walk_at "rd"
    refine ⟨_, _, _, rfl, ?_⟩
    walk_at "rd"
    rw [List.length_map]
    refine st_ND (fun h3 => ?_) (fun h3 => ?_)
    · walk_at "rd"
      rw [decide_eq_false h3] at q
      exact q
    rw [decide_eq_true h3] at q
    walk_at "rd"
    cases e : o.2.2.2 with
    | none =>
      rw [e] at q
      show if decide (V.non = V.non) = true then _ else _
      rw [decide_eq_true rfl]
      walk_at "rd"
      exact q
    | some l =>
      rw [e] at q
      show if decide (V.int l = V.non) = true then _ else _
      rw [decide_eq_false (fun z => by cases z)]
      walk_at "rd"
      refine st_lenT hos (Kp.refl _) ?_
      walk_at "rd"
      refine ⟨_, _, _, rfl, ?_⟩
      rw [List.length_map]
      exact q
/-! ### is_deed -/
theorem sc_is_deed : FnScope ["board", "deed", "memory", "orders", "program", "word"] ["board", "deed"] (defScope s_is_deed) := ⟨rfl, rfl, rfl, by decide +kernel, rfl, by decide +kernel, by decide +kernel⟩
def sp_is_deed : Sp := fun vs H Q _ => ∃ (x y : V) (b : RB) (d : RDeed), vs = [x, y] ∧ Im H (pyB b) x ∧ Im H (pyDeed d) y ∧ ∀ H', Ex H H' → Q (.bl (deedOk b.mem.length b.ords.length d)) H'
theorem deed_len (d : RDeed) : ((PyData.str d.1 :: d.2.map .int).length : Int) = (d.2.length : Int) + 1 := by
  rw [List.length_cons, List.length_map]
  rfl
theorem cal_is_deed {P w base K mg c} (T : Txt K mg c) : Cal CX0 P w K mg base 2 "is_deed" sp_is_deed := by
  obtain ⟨f, fd, F, m⟩ := T.F_is_deed
  have c_is_from := cal_is_from (P := P) (w := w) (base := base) T
  have c_lines_in := cal_lines_in (P := P) (w := w) (base := base) T
  refine cal_of F m (fun _ _ _ _ _ _ us hl => match us, hl with | [_, _], _ => rfl) sc_is_deed (fun vs H Q E h => ?_) (fun cdv A outer s H vs Q E hr h => ?_)
  · obtain ⟨x, y, b, d, rfl, _⟩ := h
    rfl
  · obtain ⟨x, y, b, d, rfl, hx, hy, q⟩ := h
    refine ⟨_, (pss_cons (ps_asg (pv 0) (pg_tup (n := 3) rfl (pgs_cons (pg_name (i := 2) sc_is_deed.nd rfl (.inl rfl)) (pgs_cons (pg_name (i := 3) sc_is_deed.nd rfl (.inl rfl)) (pgs_cons (pg_name (i := 4) sc_is_deed.nd rfl (.inl rfl)) pgs_nil)))))
      (pss_cons (ps_set (i := 5) sc_is_deed.nd rfl (.inl rfl) (pe_ix ix_tup (pv 1) pe_int (fun _ _ => rfl)))
      (pss_cons (ps_if (pt_cmpR op_eq (pv 5) pe_str (nomark _)) (pss_one (ps_ret (pe_cmpR op_eq (pe_callB c_len (by rfl) T.len PySem.boot_len (pa_cons (pv 1) pa_nil)) pe_int (nomark _)))) pss_nil)
      (pss_cons (ps_if (pt_cmpR op_in_seq (pv 5) (pe_tup (pa_cons pe_str (pa_cons pe_str pa_nil))) (by rfl)) (pss_cons (ps_if (PW.pt (pw_or (pt_cmpR op_ne (pe_callB c_len (by rfl) T.len PySem.boot_len (pa_cons (pv 1) pa_nil)) pe_int (nomark _)) (pw_or1 (pt_not (pt_val (pe_c c_is_from hr (by decide) (by rfl) (pa_cons (pe_ix ix_tup (pv 1) pe_int (fun _ _ => rfl)) (pa_cons pe_int (pa_cons (pe_op op_sub (pe_callB c_len (by rfl) T.len PySem.boot_len (pa_cons (pv 2) pa_nil)) pe_int) pa_nil))))))))) (pss_one (ps_ret pe_bl)) pss_nil)
      (pss_one (ps_ret (pe_c c_is_from hr (by decide) (by rfl) (pa_cons (pe_ix ix_tup (pv 1) pe_int (fun _ _ => rfl)) (pa_cons pe_int (pa_cons (pe_ifExp (pt_cmpR op_eq (pv 5) pe_str (nomark _)) (pe_gc (by rfl) T.g_MOST_DIGIT) (pe_op op_sub (pe_callB c_len (by rfl) T.len PySem.boot_len (pa_cons (pv 2) pa_nil)) pe_int)) pa_nil))))))) pss_nil)
      (pss_cons (ps_if (pt_cmpR op_ne (pe_callB c_len (by rfl) T.len PySem.boot_len (pa_cons (pv 1) pa_nil)) pe_int (nomark _)) (pss_one (ps_ret pe_bl)) pss_nil)
      (pss_cons (ps_if (pt_cmpR op_eq (pv 5) pe_str (nomark _)) (pss_one (ps_ret (pe_c c_is_from hr (by decide) (by rfl) (pa_cons (pe_ix ix_tup (pv 1) pe_int (fun _ _ => rfl)) (pa_cons pe_int (pa_cons (pe_op op_sub (pe_callB c_len (by rfl) T.len PySem.boot_len (pa_cons (pv 2) pa_nil)) pe_int) pa_nil)))))) pss_nil)
      (pss_cons (ps_if (pt_cmpR op_eq (pv 5) pe_str (nomark _)) (pss_one (ps_ret (pe_c c_is_from hr (by decide) (by rfl) (pa_cons (pe_ix ix_tup (pv 1) pe_int (fun _ _ => rfl)) (pa_cons pe_int (pa_cons (pe_op op_sub (pe_callB c_len (by rfl) T.len PySem.boot_len (pa_cons (pv 3) pa_nil)) pe_int) pa_nil)))))) pss_nil)
      (pss_one (ps_ret (pe_and (pe_cmpR op_in_seq (pv 5) (pe_tup (pa_cons pe_str (pa_cons pe_str pa_nil))) (by rfl)) (pe_one (pe_c c_is_from hr (by decide) (by rfl) (pa_cons (pe_ix ix_tup (pv 1) pe_int (fun _ _ => rfl)) (pa_cons pe_int (pa_cons (pe_op op_sub (pe_c c_lines_in hr (by decide) (by rfl) (pa_cons (pv 2) pa_nil)) pe_int) pa_nil))))))))))))))), ?_⟩
    walk_at "rd"
    refine st_gtup hx (Kp.refl _) rfl fun xs hxs => ?_
    obtain ⟨vm, xs, rfl, hm, hxs⟩ := hxs.cons_inv
    obtain ⟨vo, xs, rfl, hos, hxs⟩ := hxs.cons_inv
    obtain ⟨vp, xs, rfl, hp, hxs⟩ := hxs.cons_inv
    cases hxs.nil_inv
    walk_at "rd"
    refine st_ixT_str hy (Kp.refl _) (atI_nat (j := 0) rfl) ?_
    walk_at "rd"
    have fin : ∀ (v : Bool), deedOk b.mem.length b.ords.length d = v → ∀ H', Ex H H' → Q (.bl v) H' := fun v e H' e' => by
      rw [← e]
      exact q H' e'
    clear q
    unfold deedOk at fin
    obtain ⟨w0, ns⟩ := d
    have hL : ∀ H', Ex H H' → Im H' (.tuple (.str w0 :: ns.map .int)) y := fun H' e => hy.ex e
    refine st_D (fun h1 => ?_) (fun h1 => ?_)
    · walk_at "rd"
      refine st_lenT hy (Kp.refl _) ?_
      walk_at "rd"
      refine fin _ ?_ H (Ex.refl H)
      rw [if_pos h1, deed_len, Bool.eq_iff_iff, beq_iff_eq, decide_eq_true_eq]
      simp only
      omega
    rw [if_neg h1] at fin
    walk_at "rd"
    refine st_newT (by simp) fun p H1 hp e1 t1 => ?_
    refine st_in2 t1 ?_
    walk_at "rd"
    refine st_D (fun h2 => ?_) (fun h2 => ?_)
    · rw [if_pos h2] at fin
      walk_at "rd"
      refine st_lenT hy e1.kp ?_
      walk_at "rd"
      refine st_ND (fun h3 => ?_) (fun h3 => ?_)
      · walk_at "rd"
        refine fin _ ?_ H1 e1
        rw [deed_len] at h3
        match ns, h3 with
        | [], _ => rfl
        | [_], _ => rfl
        | [_, _], h3 => exact absurd rfl h3
        | _ :: _ :: _ :: _, _ => rfl
      rw [deed_len] at h3
      obtain ⟨x1, y1, rfl⟩ : ∃ x1 y1, ns = [x1, y1] := by
        match ns, h3 with
        | [x1, y1], _ => exact ⟨x1, y1, rfl⟩
        | [], h3 => exact absurd h3 (by simp)
        | [_], h3 => exact absurd h3 (by simp)
        | _ :: _ :: _ :: _, h3 => exact absurd h3 (by simp only [List.length_cons]; omega)
      walk_at "rd"
      refine st_ixT_int hy e1.kp (atI_nat (j := 1) rfl) ?_
      walk_at "rd"
      refine st_lenT hm e1.kp ?_
      walk_at "rd"
      refine ⟨_, _, _, rfl, ?_⟩
      walk_at "rd"
      rw [List.length_map]
      refine st_ND (fun h4 => ?_) (fun h4 => ?_)
      · walk_at "rd"
        refine fin _ ?_ H1 e1
        show (decide (0 ≤ x1 ∧ x1 ≤ (b.mem.length : Int) - 1) && _) = _
        rw [decide_eq_false h4]
        rfl
      walk_at "rd"
      refine st_ixT_int hy e1.kp (atI_nat (j := 2) rfl) ?_
      walk_at "rd"
      refine st_D (fun h5 => ?_) (fun h5 => ?_)
      · walk_at "rd"
        refine ⟨_, _, _, rfl, ?_⟩
        refine fin _ ?_ H1 e1
        show (decide (0 ≤ x1 ∧ x1 ≤ (b.mem.length : Int) - 1) && _) = _
        rw [decide_eq_true h4, Bool.true_and]
        simp only [if_pos h5]
      · walk_at "rd"
        refine st_lenT hm e1.kp ?_
        walk_at "rd"
        refine ⟨_, _, _, rfl, ?_⟩
        refine fin _ ?_ H1 e1
        show (decide (0 ≤ x1 ∧ x1 ≤ (b.mem.length : Int) - 1) && _) = _
        rw [decide_eq_true h4, Bool.true_and, List.length_map]
        simp only [if_neg h5]
    rw [if_neg h2] at fin
    walk_at "rd"
    refine st_lenT hy e1.kp ?_
    walk_at "rd"
    refine st_ND (fun h3 => ?_) (fun h3 => ?_)
    · walk_at "rd"
      refine fin _ ?_ H1 e1
      rw [deed_len] at h3
      match ns, h3 with
      | [], _ => rfl
      | [_], h3 => exact absurd rfl h3
      | _ :: _ :: _, _ => rfl
    rw [deed_len] at h3
    obtain ⟨x1, rfl⟩ : ∃ x1, ns = [x1] := by
      match ns, h3 with
      | [x1], _ => exact ⟨x1, rfl⟩
      | [], h3 => exact absurd h3 (by simp)
      | _ :: _ :: _, h3 => exact absurd h3 (by simp only [List.length_cons]; omega)
    have fin' : ∀ (v : Bool), (if w0 = "say" then decide (0 ≤ x1 ∧ x1 ≤ (b.mem.length : Int) - 1) else if w0 = "start" then decide (0 ≤ x1 ∧ x1 ≤ (b.ords.length : Int) - 1) else decide (w0 = "clean" ∨ w0 = "drop") && decide (0 ≤ x1 ∧ x1 ≤ ((b.mem.length / 4 : Nat) : Int) - 1)) = v → ∀ H', Ex H H' → Q (.bl v) H' := fin
    clear fin
    walk_at "rd"
    refine st_D (fun h4 => ?_) (fun h4 => ?_)
    · rw [if_pos h4] at fin'
      walk_at "rd"
      refine st_ixT_int hy e1.kp (atI_nat (j := 1) rfl) ?_
      walk_at "rd"
      refine st_lenT hm e1.kp ?_
      walk_at "rd"
      refine ⟨_, _, _, rfl, ?_⟩
      refine fin' _ ?_ H1 e1
      rw [List.length_map]
    rw [if_neg h4] at fin'
    walk_at "rd"
    refine st_D (fun h5 => ?_) (fun h5 => ?_)
    · rw [if_pos h5] at fin'
      walk_at "rd"
      refine st_ixT_int hy e1.kp (atI_nat (j := 1) rfl) ?_
      walk_at "rd"
      refine st_lenT hos e1.kp ?_
      walk_at "rd"
      refine ⟨_, _, _, rfl, ?_⟩
      refine fin' _ ?_ H1 e1
      rw [List.length_map]
    rw [if_neg h5] at fin'
    walk_at "rd"
    refine st_newT (by simp) fun p2 H2 hp2 e2 t2 => ?_
    refine st_in2 t2 ?_
    walk_at "rd"
    refine st_D (fun h6 => ?_) (fun h6 => ?_)
    · rw [decide_eq_true h6, Bool.true_and] at fin'
      walk_at "rd"
      refine st_ixT_int hy (e1.trans e2).kp (atI_nat (j := 1) rfl) ?_
      walk_at "rd"
      refine ⟨_, _, rfl, hm.ex (e1.trans e2), ?_⟩
      walk_at "rd"
      refine ⟨_, _, _, rfl, ?_⟩
      refine fin' _ ?_ H2 (e1.trans e2)
      rw [List.length_map]
    · refine fin' _ ?_ H2 (e1.trans e2)
      rw [decide_eq_false h6]
      rfl
/-! ### check_board -/
theorem sc_check_board : FnScope ["board", "memory", "orders", "program", "place", "number", "starts", "deed"] ["board"] (defScope s_check_board) := ⟨rfl, rfl, rfl, by decide +kernel, rfl, by decide +kernel, by decide +kernel⟩
def sp_check_board : Sp := fun vs H Q _ => ∃ (x : V) (b : RB), vs = [x] ∧ Im H (pyB b) x ∧ RGood b ∧ ∀ H', Ex H H' → Q .non H'
theorem cal_check_board {P w base K mg c} (T : Txt K mg c) : Cal CX0 P w K mg base 6 "check_board" sp_check_board := by
  obtain ⟨f, fd, F, m⟩ := T.F_check_board
  have c_memory_fault := cal_memory_fault (P := P) (w := w) (base := base) T
  have c_is_order := cal_is_order (P := P) (w := w) (base := base) T
  have c_is_deed := cal_is_deed (P := P) (w := w) (base := base) T
  refine cal_of F m (fun _ _ _ _ _ _ us hl => match us, hl with | [_], _ => rfl) sc_check_board (fun vs H Q E h => ?_) (fun cdv A outer s H vs Q E hr h => ?_)
  · obtain ⟨x, b, rfl, _⟩ := h
    rfl
  · obtain ⟨x, b, rfl, hx, g, q⟩ := h
    refine ⟨_, (pss_cons (ps_asg (pv 0) (pg_tup (n := 3) rfl (pgs_cons (pg_name (i := 1) sc_check_board.nd rfl (.inl rfl)) (pgs_cons (pg_name (i := 2) sc_check_board.nd rfl (.inl rfl)) (pgs_cons (pg_name (i := 3) sc_check_board.nd rfl (.inl rfl)) pgs_nil)))))
      (pss_cons (ps_set (i := 4) sc_check_board.nd rfl (.inl rfl) (pe_c c_memory_fault hr (by decide) (by rfl) (pa_cons (pv 1) pa_nil)))
      (pss_cons (ps_if (pt_cmpR o_notN (pv 4) pe_non (nomark _)) (pss_one ps_never) pss_nil)
      (pss_cons (ps_for PassesOwn.never rfl (pi_range1 rfl T.range (pa_cons (pe_callB c_len (by rfl) T.len PySem.boot_len (pa_cons (pv 2) pa_nil)) pa_nil)) (pg_name (i := 5) sc_check_board.nd rfl (.inl rfl))
      (pss_one (ps_if (PW.pt (pw_or (pt_cmpR op_ge (pv 5) (pe_gc (by rfl) T.g_MOST_ORDERS) (nomark _)) (pw_or1 (pt_not (pt_val (pe_c c_is_order hr (by decide) (by rfl) (pa_cons (pv 0) (pa_cons (pv 5) pa_nil)))))))) (pss_one ps_never) pss_nil)))
      (pss_cons (ps_set (i := 6) sc_check_board.nd rfl (.inl rfl) pe_int)
      (pss_one (ps_for PassesOwn.never rfl (pi_enumT (by rfl) T.enumerate (pa_cons (pv 3) pa_nil)) (pg_tup (n := 2) rfl (pgs_cons (pg_name (i := 5) sc_check_board.nd rfl (.inl rfl)) (pgs_cons (pg_name (i := 7) sc_check_board.nd rfl (.inl rfl)) pgs_nil)))
      (pss_cons (ps_if (PW.pt (pw_or (pt_cmpR op_ge (pv 5) (pe_gc (by rfl) T.g_MOST_DEEDS) (nomark _)) (pw_or1 (pt_not (pt_val (pe_c c_is_deed hr (by decide) (by rfl) (pa_cons (pv 0) (pa_cons (pv 7) pa_nil)))))))) (pss_one ps_never) pss_nil)
      (pss_cons (ps_aug (i := 6) sc_check_board.nd rfl (.inl rfl) (pe_callTy c_int (by rfl) T.int (by decide +kernel) (pa_cons (pe_cmpR op_eq (pe_ix ix_tup (pv 7) pe_int (fun _ _ => rfl)) pe_str (nomark _)) pa_nil)) ip_add)
      (pss_one (ps_if (pt_cmpR op_gt (pv 6) (pe_gc (by rfl) T.g_MOST_STARTS) (nomark _)) (pss_one ps_never) pss_nil))))))))))), ?_⟩
    walk_at "rd"
    refine st_gtup hx (Kp.refl _) rfl fun xs hxs => ?_
    obtain ⟨vm, xs, rfl, hm, hxs⟩ := hxs.cons_inv
    obtain ⟨vo, xs, rfl, hos, hxs⟩ := hxs.cons_inv
    obtain ⟨vp, xs, rfl, hp, hxs⟩ := hxs.cons_inv
    cases hxs.nil_inv
    walk_at "rd"
    refine ⟨_, _, rfl, hm, fun H1 e1 => ?_⟩
    rw [g.mem]
    simp only [vNat]
    walk_at "rd"
    refine st_lenT hos e1.kp ?_
    walk_at "rd"
    rw [List.length_map]
    have hlen4 := g.ords.1
    refine st_walkR (n := b.ords.length) (by omega) (fun i σ H' => ∃ y, σ = [some x, some vm, some vo, some vp, some .non, y, none, none] ∧ Ex H H') ⟨none, rfl, e1⟩ (fun i σ' H' hi p => ?_) (fun σ' H' p => ?_)
    · obtain ⟨y, rfl, e⟩ := p
      have hi' : i < b.ords.length := by omega
      have h4 := g.ords.1
      walk_at "rd"
      refine st_D (fun h => absurd h (by omega)) (fun _ => ?_)
      walk_at "rd"
      refine ⟨x, b, i, b.ords[i], rfl, hx.ex e, List.getElem?_eq_getElem hi', ?_⟩
      rw [g.ords.2 i _ (List.getElem?_eq_getElem hi')]
      walk_at "rd"
      exact ⟨_, rfl, e⟩
    · obtain ⟨y, rfl, e⟩ := p
      walk_at "rd"
      refine st_forET (H0 := H) (fun i σ H' => ∃ y z, σ = [some x, some vm, some vo, some vp, some .non, y, some (.int (((b.prog.take i).filter isStart).length : Int)), z] ∧ Ex H H') rfl hp e.kp ⟨y, none, rfl, e⟩ (fun i σ H' p => ?_) (fun i d v σ H' H'' hd p ht hv => ?_) (fun σ H' p => ?_)
      · obtain ⟨_, _, _, e⟩ := p
        exact e.kp
      · obtain ⟨y, z, rfl, e⟩ := p
        obtain ⟨dd, en, rfl⟩ := map_at' hd
        have hi : i < b.prog.length := (List.getElem?_eq_some_iff.mp en).1
        have h60 := g.prog.1
        walk_at "rd"
        refine st_D (fun h => absurd h (by omega)) (fun _ => ?_)
        walk_at "rd"
        refine ⟨x, v, b, dd, rfl, hx.ex (e.trans ht), hv, fun H2 e2 => ?_⟩
        rw [g.prog.2.1 dd (List.mem_of_getElem? en)]
        walk_at "rd"
        refine st_ixT_str hv e2.kp (atI_nat (j := 0) rfl) ?_
        walk_at "rd"
        have ec : (((b.prog.take i).filter isStart).length : Int) + (if decide (dd.1 = "start") = true then 1 else 0) = (((b.prog.take (i + 1)).filter isStart).length : Int) := by
          rw [List.take_add_one, en]
          simp only [Option.toList_some, List.filter_append, List.length_append, List.filter_cons, List.filter_nil, isStart]
          by_cases hs : dd.1 = "start"
          · simp [hs]
          · simp [hs]
        rw [ec]
        have h3 : ((b.prog.take (i + 1)).filter isStart).length ≤ 3 := Nat.le_trans ((List.take_sublist (i + 1) b.prog).filter isStart).length_le g.prog.2.2
        refine st_D (fun h => absurd h (by omega)) (fun _ => ?_)
        walk_at "rd"
        exact ⟨_, _, rfl, (e.trans ht).trans e2⟩
      · obtain ⟨y, z, rfl, e⟩ := p
        exact q _ e
/-! ### plain_end -/
theorem sc_plain_end : FnScope ["board", "found"] ["board"] (defScope s_plain_end) := ⟨rfl, rfl, rfl, by decide +kernel, rfl, by decide +kernel, by decide +kernel⟩
def sp_plain_end : Sp := fun vs H Q _ => ∃ (x : V) (b : Bd), vs = [x] ∧ Im H (pyB b.raw) x ∧ Good b ∧ ∀ v H', Ex H H' → Im H' (.tuple [pyMem (plainOf b).said, pyMem (plainOf b).mem]) v → Q v H'
theorem cal_plain_end {P w base K mg c} (T : Txt K mg c) : Cal CX0 P w K mg base 7 "plain_end" sp_plain_end := by
  obtain ⟨f, fd, F, m⟩ := T.F_plain_end
  have c_check_board := cal_check_board (P := P) (w := w) (base := base) T
  have k_Plain := mak_Plain (P := P) (w := w) (base := base) T
  refine cal_of F m (fun _ _ _ _ _ _ us hl => match us, hl with | [_], _ => rfl) sc_plain_end (fun vs H Q E h => ?_) (fun cdv A outer s H vs Q E hr h => ?_)
  · obtain ⟨x, b, rfl, _⟩ := h
    rfl
  · obtain ⟨x, b, rfl, hx, g, q⟩ := h
    refine ⟨_, (pss_cons (ps_expr (pe_c c_check_board hr (by decide) (by rfl) (pa_cons (pv 0) pa_nil)))
      (pss_cons (ps_set (i := 1) sc_plain_end.nd rfl (.inl rfl) (pe_mk k_Plain hr (by decide) (by rfl) (pa_cons (pv 0) pa_nil)))
      (pss_one (ps_ret (pe_tup (pa_cons (pe_callTy c_tuple (by rfl) T.tuple (by decide +kernel) (pa_cons (pe_fld (pv 1) rfl) pa_nil)) (pa_cons (pe_callTy c_tuple (by rfl) T.tuple (by decide +kernel) (pa_cons (pe_fld (pv 1) rfl) pa_nil)) pa_nil))))))), ?_⟩
    walk_at "rd"
    refine ⟨x, b.raw, rfl, hx, g.raw, fun H1 e1 => ?_⟩
    walk_at "rd"
    refine st_makeC fun p dx H2 np e2 hp => ?_
    refine ⟨p, dx, x, b, rfl, hp, hx.ex (e1.trans e2), g, fun H3 ml rl fl sl f3 k3 n1 n2 n3 n4 S => ⟨rfl, ?_⟩⟩
    have e3 : Ex H1 H3 := Fr.ex e2 (fun a ha => by rw [List.mem_singleton.mp ha]; exact np) f3
    walk_at "rd"
    refine st_getF S.ob T.cl_Plain T.na_Plain_said lk_plain_said ?_
    walk_at "rd"
    refine st_tupL S.sa fun ts H4 n4' e4 h4 => ?_
    walk_at "rd"
    refine st_getF (e4 _ _ S.ob) T.cl_Plain T.na_Plain_memory lk_plain_memory ?_
    walk_at "rd"
    refine st_tupL (e4 _ _ S.me) fun tm H5 n5 e5 h5 => ?_
    walk_at "rd"
    refine st_newT (by simp) fun t H6 n6 e6 h6 => ?_
    exact q _ H6 ((((e1.trans e3).trans e4).trans e5).trans e6) (im_tup h6 (iml_cons (im_ints (e6 _ _ (e5 _ _ h4))) (iml_cons (im_ints (e6 _ _ h5)) iml_nil)))
/-! ### sights -/
theorem sc_sights : FnScope ["board", "found"] ["board"] (defScope s_sights) := ⟨rfl, rfl, rfl, by decide +kernel, rfl, by decide +kernel, by decide +kernel⟩
def sp_sights : Sp := fun vs H Q _ => ∃ (x : V) (b : Bd), vs = [x] ∧ Im H (pyB b.raw) x ∧ Good b ∧ ∀ t rl fl H', Ex H H' → H rl = none → H fl = none → rl ≠ fl → H' t = some (.tup [.ref rl, .ref fl]) →
  (∃ xs, H' rl = some (.lst xs) ∧ ImL H' ((plainOf b).reads.map pySeen) xs) → (∃ xs, H' fl = some (.lst xs) ∧ ImL H' ((plainOf b).fetches.map pySeen) xs) → Q (.ref t) H'
theorem cal_sights {P w base K mg c} (T : Txt K mg c) : Cal CX0 P w K mg base 7 "sights" sp_sights := by
  obtain ⟨f, fd, F, m⟩ := T.F_sights
  have c_check_board := cal_check_board (P := P) (w := w) (base := base) T
  have k_Plain := mak_Plain (P := P) (w := w) (base := base) T
  refine cal_of F m (fun _ _ _ _ _ _ us hl => match us, hl with | [_], _ => rfl) sc_sights (fun vs H Q E h => ?_) (fun cdv A outer s H vs Q E hr h => ?_)
  · obtain ⟨x, b, rfl, _⟩ := h
    rfl
  · obtain ⟨x, b, rfl, hx, g, q⟩ := h
    refine ⟨_, (pss_cons (ps_expr (pe_c c_check_board hr (by decide) (by rfl) (pa_cons (pv 0) pa_nil)))
      (pss_cons (ps_set (i := 1) sc_sights.nd rfl (.inl rfl) (pe_mk k_Plain hr (by decide) (by rfl) (pa_cons (pv 0) pa_nil)))
      (pss_one (ps_ret (pe_tup (pa_cons (pe_fld (pv 1) rfl) (pa_cons (pe_fld (pv 1) rfl) pa_nil))))))), ?_⟩
    walk_at "rd"
    refine ⟨x, b.raw, rfl, hx, g.raw, fun H1 e1 => ?_⟩
    walk_at "rd"
    refine st_makeC fun p dx H2 np e2 hp => ?_
    refine ⟨p, dx, x, b, rfl, hp, hx.ex (e1.trans e2), g, fun H3 ml rl fl sl f3 k3 n1 n2 n3 n4 S => ⟨rfl, ?_⟩⟩
    have e3 : Ex H1 H3 := Fr.ex e2 (fun a ha => by rw [List.mem_singleton.mp ha]; exact np) f3
    walk_at "rd"
    refine st_getF S.ob T.cl_Plain T.na_Plain_reads lk_plain_reads ?_
    walk_at "rd"
    refine st_getF S.ob T.cl_Plain T.na_Plain_fetches lk_plain_fetches ?_
    walk_at "rd"
    refine st_newT (by simp) fun t H4 n4' e4 h4 => ?_
    have nd := S.nd
    simp only [List.nodup_cons, List.mem_cons, List.not_mem_nil, or_false, not_or, List.mem_singleton] at nd
    exact q t rl fl H4 ((e1.trans e3).trans e4) ((e1.trans e2).free n2) ((e1.trans e2).free n3) nd.2.1.1 h4 (S.ex e4).re (S.ex e4).fe
/-! ### _law_begun -/
theorem sc__law_begun : FnScope ["_law_script", "_law_stirred", "_law_cell"] ["_law_script"] (defScope s__law_begun) := ⟨rfl, rfl, rfl, by decide +kernel, rfl, by decide +kernel, by decide +kernel⟩
def sp_law_begun (K : PySem.W.Frag) : Sp := fun vs H Q _ => ∃ (a : Addr) (ns : List Int), vs = [.ref a] ∧ SqL K H a (ns.map V.int) ∧ ∀ b l H', Ex H H' → H b = none → H l = none → BoxAt H' b l → Q (.ref b) H'
theorem cal_law_begun {P w base K mg c} (T : Txt K mg c) : Cal CX0 P w K mg base 1 "_law_begun" (sp_law_begun K) := by
  obtain ⟨f, fd, F, m⟩ := T.F__law_begun
  refine cal_of F m (fun _ _ _ _ _ _ us hl => match us, hl with | [_], _ => rfl) sc__law_begun (fun vs H Q E h => ?_) (fun cdv A outer s H vs Q E hr h => ?_)
  · obtain ⟨a, ns, rfl, _⟩ := h
    rfl
  · obtain ⟨a, ns, rfl, hS, q⟩ := h
    refine ⟨_, (pss_cons (ps_set (i := 1) sc__law_begun.nd rfl (.inl rfl) pe_int)
      (pss_cons (ps_for PassesOwn.never rfl (pi_list (pv 0)) (pg_name (i := 2) sc__law_begun.nd rfl (.inl rfl))
      (pss_one (ps_set (i := 1) sc__law_begun.nd rfl (.inl rfl) (pe_op op_mod (pe_op op_add (pe_op op_add (pe_op op_mul (pv 1) pe_int) (pe_op op_mul (pv 2) pe_int)) pe_int) pe_int))))
      (pss_one (ps_ret (pe_lst (pa_cons (pe_callTy c_list (by rfl) T.list (by decide +kernel) (pa_cons (pv 0) pa_nil)) (pa_cons (pe_op op_mul (pv 1) (pe_callTy c_int (by rfl) T.int (by decide +kernel) (pa_cons (pe_cmpR op_gt (pe_callB c_len (by rfl) T.len PySem.boot_len (pa_cons (pv 0) pa_nil)) pe_int (nomark _)) pa_nil))) pa_nil))))))), ?_⟩
    walk_at "rd"
    refine st_walkLS hS (fun i σ H' => ∃ (z : Int) (y : Option V), σ = [some (.ref a), some (.int z), y] ∧ H' = H ∧ 0 ≤ z ∧ z < 2147483647) ⟨0, none, rfl, rfl, by omega, by omega⟩ (fun i σ H' p => ?_) (fun i v σ H' hv p => ?_) (fun σ H' p => ?_)
    · obtain ⟨_, _, _, rfl, _⟩ := p
      exact hS
    · obtain ⟨z, y, rfl, rfl, z1, z2⟩ := p
      obtain ⟨n, _, rfl⟩ := map_at' hv
      walk_at "rd"
      refine st_mul (.inl ⟨by omega, by omega⟩) ?_
      walk_at "rd"
      refine st_mul (.inr ⟨by decide, by decide⟩) ?_
      walk_at "rd"
      exact ⟨_, _, rfl, rfl, Int.emod_nonneg _ (by decide), Int.emod_lt_of_pos _ (by decide)⟩
    · obtain ⟨z, y, rfl, rfl, z1, z2⟩ := p
      walk_at "rd"
      refine st_listS hS fun l H1 nl e1 hl => ?_
      walk_at "rd"
      refine st_lenS (ex_l e1 hS) ?_
      walk_at "rd"
      refine st_mul (.inl ⟨by omega, by omega⟩) ?_
      walk_at "rd"
      refine st_newL (by simp) fun b H2 nb e2 hb => ?_
      refine q b l H2 (e1.trans e2) (e1.free nb) nl ⟨⟨_, hb, ?_, ?_⟩, ⟨ns, e2 _ _ hl⟩⟩
      · split <;> omega
      · split <;> omega
/-! ### _law_take -/
theorem sc__law_take : FnScope ["_law_box", "_law_many", "_law_number"] ["_law_box", "_law_many"] (defScope s__law_take) := ⟨rfl, rfl, rfl, by decide +kernel, rfl, by decide +kernel, by decide +kernel⟩
def sp_law_take : Sp := fun vs H Q _ => ∃ (b l : Addr) (m : Int), vs = [.ref b, .int m] ∧ BoxAt H b l ∧ 0 < m ∧ m.natAbs.log2 < 9000 ∧ ∀ (r : Int) H', Dr b l H H' → 0 ≤ r → r < m → Q (.int r) H'
theorem sh_empty : Sh 1 (.list []) := sh_lst (by simp)
theorem cal_law_take {P w base K mg c} (T : Txt K mg c) : Cal CX0 P w K mg base 1 "_law_take" sp_law_take := by
  obtain ⟨f, fd, F, m⟩ := T.F__law_take
  refine cal_of F m (fun _ _ _ _ _ _ us hl => match us, hl with | [_, _], _ => rfl) sc__law_take (fun vs H Q E h => ?_) (fun cdv A outer s H vs Q E hr h => ?_)
  · obtain ⟨b, l, m, rfl, _⟩ := h
    rfl
  · obtain ⟨b, l, m, rfl, hB, m0, ml, q⟩ := h
    refine ⟨_, (pss_cons (ps_if (pt_cmpR (op_eqD hr.units) (pe_ix ix_list (pv 0) pe_int (fun _ _ => rfl)) (pe_lst pa_nil) (nomark _)) (pss_cons (ps_asg (pe_op op_mod (pe_op op_mul (pe_ix ix_list (pv 0) pe_int (fun _ _ => rfl)) pe_int) pe_int) (pg_sub (pv 0) pe_int set_list))
      (pss_one (ps_ret (pe_op op_mod (pe_op op_fdiv (pe_ix ix_list (pv 0) pe_int (fun _ _ => rfl)) pe_int) (pv 1))))) pss_nil)
      (pss_cons (ps_set (i := 2) sc__law_take.nd rfl (.inl rfl) (pe_ix ix_list (pe_ix ix_list (pv 0) pe_int (fun _ _ => rfl)) pe_int (fun _ _ => rfl)))
      (pss_cons (ps_asg (pe_op op_fdivW (pv 2) (pv 1)) (pg_sub (pe_ix ix_list (pv 0) pe_int (fun _ _ => rfl)) pe_int set_list))
      (pss_cons (ps_if (PW.pt (pw_or (pt_cmpR op_eq (pe_ix ix_list (pe_ix ix_list (pv 0) pe_int (fun _ _ => rfl)) pe_int (fun _ _ => rfl)) pe_int (nomark _)) (pw_or1 (pt_cmpR op_eq (pe_ix ix_list (pe_ix ix_list (pv 0) pe_int (fun _ _ => rfl)) pe_int (fun _ _ => rfl)) (pe_un un_neg pe_int) (nomark _))))) (pss_one (ps_expr (pe_bm PySem.F.plainAttrs_list PySem.F.slot_list_pop PySem.F.type_list_pop mt_popAt (pe_ix ix_list (pv 0) pe_int (fun _ _ => rfl)) (pa_cons pe_int pa_nil)))) pss_nil)
      (pss_one (ps_ret (pe_op op_mod (pv 2) (pv 1)))))))), ?_⟩
    obtain ⟨⟨st, hb, z1, z2⟩, ⟨ns, hl⟩⟩ := id hB
    have nbl : b ≠ l := hB.ne
    have nlb : l ≠ b := fun z => nbl z.symm
    walk_at "rd"
    refine st_ixL hb (atI_nat (j := 0) rfl) ?_
    walk_at "rd"
    refine st_newL (by simp) fun e H1 ne e1 he => ?_
    refine st_eqD (lst_dp (ds := ns.map .int) (e1 _ _ hl) (ImL.ints.mpr rfl)) (lst_dp (ds := []) he iml_nil) (sh_lst (n := 0) sh_ints).shaped sh_empty.shaped ?_
    walk_at "rd"
    have hb1 := e1 _ _ hb
    have hl1 := e1 _ _ hl
    cases ns with
    | nil =>
      refine iteT ?_
      walk_at "rd"
      refine st_ixL hb1 (atI_nat (j := 1) rfl) ?_
      walk_at "rd"
      refine st_mul (.inl ⟨by omega, by omega⟩) ?_
      walk_at "rd"
      refine st_setI (k := 1) hb1 (by simp) fun H2 f2 k2 h2 => ?_
      walk_at "rd"
      refine st_ixL h2 (atI_nat (j := 1) rfl) ?_
      walk_at "rd"
      refine st_mod m0 ?_
      refine q _ H2 ⟨e1.fr.trans (f2.mono (by simp)), e1.kp.trans k2, ⟨_, h2, Int.emod_nonneg _ (by decide), Int.emod_lt_of_pos _ (by decide)⟩, ⟨[], fr1 f2 hl1 nlb⟩⟩ (Int.emod_nonneg _ (by omega)) (Int.emod_lt_of_pos _ m0)
    | cons n ns =>
      refine iteF ?_
      walk_at "rd"
      refine st_ixL hb1 (atI_nat (j := 0) rfl) ?_
      walk_at "rd"
      refine st_ixL hl1 (atI_nat (j := 0) rfl) ?_
      walk_at "rd"
      refine st_fdivW ⟨m0, ml⟩ ?_
      walk_at "rd"
      refine st_ixL hb1 (atI_nat (j := 0) rfl) ?_
      walk_at "rd"
      refine st_setI (k := 0) hl1 (by simp) fun H2 f2 k2 h2 => ?_
      have hb2 := fr1 f2 hb1 nbl
      have fin : ∀ H3, Fr [b, l] H2 H3 → Kp H2 H3 → BoxAt H3 b l → Q (.int (n % m)) H3 := fun H3 f3 k3 h3 =>
        q _ H3 ⟨(e1.fr.trans (f2.mono (by simp))).trans f3, (e1.kp.trans k2).trans k3, h3⟩ (Int.emod_nonneg _ (by omega)) (Int.emod_lt_of_pos _ m0)
      have hB2 : BoxAt H2 b l := ⟨⟨st, hb2, z1, z2⟩, ⟨(n / m) :: ns, h2⟩⟩
      have pop : ∀ Q' : VK, (∀ H3, Fr [l] H2 H3 → Kp H2 H3 → H3 l = some (.lst (ns.map V.int)) → Q' (.int (n / m)) H3) → rPopAt (.ref l) [.int 0] H2 Q' := fun Q' h => st_popAt0 h2 h
      walk_at "rd"
      refine st_ixL hb2 (atI_nat (j := 0) rfl) ?_
      walk_at "rd"
      refine st_ixL h2 (atI_nat (j := 0) rfl) ?_
      walk_at "rd"
      have last : ∀ H3, Fr [l] H2 H3 → Kp H2 H3 → H3 l = some (.lst (ns.map V.int)) → Q (.int (n % m)) H3 := fun H3 f3 k3 h3 => fin H3 (f3.mono (by simp)) k3 ⟨⟨st, fr1 f3 hb2 nbl, z1, z2⟩, ⟨ns, h3⟩⟩
      refine st_D (fun h => ?_) (fun h => ?_)
      · walk_at "rd"
        refine st_ixL hb2 (atI_nat (j := 0) rfl) ?_
        refine tyL h2 ?_
        walk_at "rd"
        refine pop _ fun H3 f3 k3 h3 => ?_
        walk_at "rd"
        refine st_mod m0 ?_
        exact last H3 f3 k3 h3
      · walk_at "rd"
        refine st_ixL hb2 (atI_nat (j := 0) rfl) ?_
        walk_at "rd"
        refine st_ixL h2 (atI_nat (j := 0) rfl) ?_
        walk_at "rd"
        refine ⟨1, rfl, ?_⟩
        walk_at "rd"
        refine st_D (fun h' => ?_) (fun h' => ?_)
        · walk_at "rd"
          refine st_ixL hb2 (atI_nat (j := 0) rfl) ?_
          refine tyL h2 ?_
          walk_at "rd"
          refine pop _ fun H3 f3 k3 h3 => ?_
          walk_at "rd"
          refine st_mod m0 ?_
          exact last H3 f3 k3 h3
        · walk_at "rd"
          refine st_mod m0 ?_
          exact fin H2 (Fr.refl _ _) (Kp.refl _) hB2
/-! ### _law_alike -/
theorem sc__law_alike : FnScope ["_law_found", "_law_due", "_law_k"] ["_law_found", "_law_due"] (defScope s__law_alike) := ⟨rfl, rfl, rfl, by decide +kernel, rfl, by decide +kernel, by decide +kernel⟩
/-- two that bear the same data -/
def sp_law_alike (K : PySem.W.Frag) : Nat → Sp
  | 0 => fun _ _ _ _ => False
  | n + 1 => fun vs H Q _ => ∃ (x y : V) (d : PyData), vs = [x, y] ∧ Dp K H x d ∧ Dp K H y d ∧ Al n d ∧ Q (.bl true) H
theorem cal_law_alike {P w base K mg c} (T : Txt K mg c) : ∀ n : Nat, Cal CX0 P w K mg base n "_law_alike" (sp_law_alike K n)
  | 0 => by
    obtain ⟨f, fd, F, m⟩ := T.F__law_alike
    exact ⟨f, fd, ["_law_found", "_law_due"], ⟨fun _ _ _ _ h => h.elim, fun _ _ _ _ _ _ _ _ _ _ _ _ _ h => h.elim⟩, m, F.kp, F.binds (fun _ _ _ _ _ _ us hl => match us, hl with | [_, _], _ => rfl)⟩
  | n + 1 => by
    obtain ⟨f, fd, F, m⟩ := T.F__law_alike
    have c__law_alike := cal_law_alike (P := P) (w := w) (base := base) T n
    refine cal_of F m (fun _ _ _ _ _ _ us hl => match us, hl with | [_, _], _ => rfl) sc__law_alike (fun vs H Q E h => ?_) (fun cdv A outer s H vs Q E hr h => ?_)
    · obtain ⟨x, y, d, rfl, _⟩ := h
      rfl
    · obtain ⟨x, y, d, rfl, hx, hy, ha, q⟩ := h
      refine ⟨_, (pss_cons (ps_if (pt_cmpR o_isN (pv 1) pe_non (nomark _)) (pss_one (ps_ret (pe_cmpR o_isN (pv 0) pe_non (nomark _)))) pss_nil)
      (pss_cons (ps_if (pt_val (pe_callB call_isi (by rfl) T.isinstance (by decide +kernel) (pa_cons (pv 1) (pa_cons (pe_bltn (v := .ty "bool") (u := .type "bool") (by rfl) T.bool (by decide +kernel) rfl) pa_nil)))) (pss_one (ps_ret (pe_and (pe_callB call_isi (by rfl) T.isinstance (by decide +kernel) (pa_cons (pv 0) (pa_cons (pe_bltn (v := .ty "bool") (u := .type "bool") (by rfl) T.bool (by decide +kernel) rfl) pa_nil))) (pe_one (pe_cmpR (op_eqD hr.units) (pv 0) (pv 1) (nomark _)))))) pss_nil)
      (pss_cons (ps_if (pt_val (pe_callB call_isi (by rfl) T.isinstance (by decide +kernel) (pa_cons (pv 1) (pa_cons (pe_bltn (v := .ty "int") (u := .type "int") (by rfl) T.int (by decide +kernel) rfl) pa_nil)))) (pss_one (ps_ret (pe_and (pe_callB call_isi (by rfl) T.isinstance (by decide +kernel) (pa_cons (pv 0) (pa_cons (pe_bltn (v := .ty "int") (u := .type "int") (by rfl) T.int (by decide +kernel) rfl) pa_nil))) (pe_and (pe_not (pe_callB call_isi (by rfl) T.isinstance (by decide +kernel) (pa_cons (pv 0) (pa_cons (pe_bltn (v := .ty "bool") (u := .type "bool") (by rfl) T.bool (by decide +kernel) rfl) pa_nil)))) (pe_one (pe_cmpR (op_eqD hr.units) (pv 0) (pv 1) (nomark _))))))) pss_nil)
      (pss_cons (ps_if (pt_val (pe_callB call_isi (by rfl) T.isinstance (by decide +kernel) (pa_cons (pv 1) (pa_cons (pe_bltn (v := .ty "str") (u := .type "str") (by rfl) T.str (by decide +kernel) rfl) pa_nil)))) (pss_one (ps_ret (pe_and (pe_callB call_isi (by rfl) T.isinstance (by decide +kernel) (pa_cons (pv 0) (pa_cons (pe_bltn (v := .ty "str") (u := .type "str") (by rfl) T.str (by decide +kernel) rfl) pa_nil))) (pe_one (pe_cmpR (op_eqD hr.units) (pv 0) (pv 1) (nomark _)))))) pss_nil)
      (pss_cons (ps_if (PW.pt (pw_or (pt_cmpR op_ne (pe_callB call_isi (by rfl) T.isinstance (by decide +kernel) (pa_cons (pv 1) (pa_cons (pe_bltn (v := .ty "tuple") (u := .type "tuple") (by rfl) T.tuple (by decide +kernel) rfl) pa_nil))) (pe_callB call_isi (by rfl) T.isinstance (by decide +kernel) (pa_cons (pv 0) (pa_cons (pe_bltn (v := .ty "tuple") (u := .type "tuple") (by rfl) T.tuple (by decide +kernel) rfl) pa_nil))) (nomark _)) (pw_or1 (pt_cmpR op_ne (pe_callB call_isi (by rfl) T.isinstance (by decide +kernel) (pa_cons (pv 1) (pa_cons (pe_bltn (v := .ty "list") (u := .type "list") (by rfl) T.list (by decide +kernel) rfl) pa_nil))) (pe_callB call_isi (by rfl) T.isinstance (by decide +kernel) (pa_cons (pv 0) (pa_cons (pe_bltn (v := .ty "list") (u := .type "list") (by rfl) T.list (by decide +kernel) rfl) pa_nil))) (nomark _))))) (pss_one (ps_ret pe_bl)) pss_nil)
      (pss_cons (ps_if (pt_cmpR op_ne (pe_callB c_len (by rfl) T.len PySem.boot_len (pa_cons (pv 0) pa_nil)) (pe_callB c_len (by rfl) T.len PySem.boot_len (pa_cons (pv 1) pa_nil)) (nomark _)) (pss_one (ps_ret pe_bl)) pss_nil)
      (pss_cons (ps_for PassesOwn.never rfl (pi_range1 rfl T.range (pa_cons (pe_callB c_len (by rfl) T.len PySem.boot_len (pa_cons (pv 1) pa_nil)) pa_nil)) (pg_name (i := 2) sc__law_alike.nd rfl (.inl rfl))
      (pss_one (ps_if (pt_not (pt_val (pe_c c__law_alike hr (by omega) (by rfl) (pa_cons (pe_ix ix_seq (pv 0) (pv 2) (fun _ _ => rfl)) (pa_cons (pe_ix ix_seq (pv 1) (pv 2) (fun _ _ => rfl)) pa_nil))))) (pss_one (ps_ret pe_bl)) pss_nil)))
      (pss_one (ps_ret pe_bl))))))))), ?_⟩
      walk_at "rd"
      have scal : (d = .none ∨ (∃ b, d = .bool b) ∨ (∃ i, d = .int i) ∨ ∃ s, d = .str s ∧ PyData.strOk s = true) ∨ ∃ ds m, n = m + 1 ∧ Seqs d ds ∧ ds.length ≤ 1000000 ∧ ∀ e ∈ ds, Al m e := by
        cases n with
        | zero => exact .inl ha
        | succ m =>
          rcases ha with ha | ⟨ds, h1, h2, h3⟩
          · exact .inl ha
          · exact .inr ⟨ds, m, rfl, h1, h2, h3⟩
      rcases scal with (rfl | ⟨b, rfl⟩ | ⟨i, rfl⟩ | ⟨s', rfl, hs⟩) | ⟨ds, m, rfl, hd, hl, he⟩
      · cases hx
        cases hy
        show if decide (V.non = V.non) = true then _ else _
        rw [decide_eq_true rfl]
        walk_at "rd"
        exact q
      · cases hx
        cases hy
        show if decide (V.bl b = V.non) = true then _ else _
        rw [decide_eq_false (fun z => by cases z)]
        walk_at "rd"
        refine st_isi (.bl b) kb_bool_bool ?_
        walk_at "rd"
        refine st_isi (.bl b) kb_bool_bool ?_
        walk_at "rd"
        refine st_eqD (.bl b) (.bl b) (sh_bool (n := 0)).shaped (sh_bool (n := 0)).shaped ?_
        rw [eqv_same (sh_bool (n := 0))]
        exact q
      · cases hx
        cases hy
        show if decide (V.int i = V.non) = true then _ else _
        rw [decide_eq_false (fun z => by cases z)]
        walk_at "rd"
        refine st_isi (.int i) kb_int_bool ?_
        walk_at "rd"
        refine st_isi (.int i) kb_int_int ?_
        walk_at "rd"
        refine st_isi (.int i) kb_int_int ?_
        walk_at "rd"
        refine st_isi (.int i) kb_int_bool ?_
        walk_at "rd"
        refine st_eqD (.int i) (.int i) (sh_int (n := 0)).shaped (sh_int (n := 0)).shaped ?_
        rw [eqv_same (sh_int (n := 0))]
        exact q
      · cases hx
        cases hy
        show if decide (V.str s' = V.non) = true then _ else _
        rw [decide_eq_false (fun z => by cases z)]
        walk_at "rd"
        refine st_isi (.str s') kb_str_bool ?_
        walk_at "rd"
        refine st_isi (.str s') kb_str_int ?_
        walk_at "rd"
        refine st_isi (.str s') kb_str_str ?_
        walk_at "rd"
        refine st_isi (.str s') kb_str_str ?_
        walk_at "rd"
        refine st_eqD (.str s') (.str s') (sh_str (n := 0) hs).shaped (sh_str (n := 0) hs).shaped ?_
        rw [eqv_same (sh_str (n := 0) hs)]
        exact q
      · have hny : decide (y = .non) = false := by
          rcases hd with rfl | rfl
          · obtain ⟨a, _, rfl, _⟩ := Dp.lst_inv hy
            rfl
          · obtain ⟨a, _, rfl, _⟩ := Dp.tup_inv hy
            rfl
        rw [hny]
        walk_at "rd"
        have k1 : kitB (tyN d) "bool" = some false := by
          rcases hd with rfl | rfl
          · exact kb_list_bool
          · exact kb_tuple_bool
        have k2 : kitB (tyN d) "int" = some false := by
          rcases hd with rfl | rfl
          · exact kb_list_int
          · exact kb_tuple_int
        have k3 : kitB (tyN d) "str" = some false := by
          rcases hd with rfl | rfl
          · exact kb_list_str
          · exact kb_tuple_str
        obtain ⟨b4, k4⟩ : ∃ b, kitB (tyN d) "tuple" = some b := by
          rcases hd with rfl | rfl
          · exact ⟨false, kb_list_tuple⟩
          · exact ⟨true, kb_tuple_tuple⟩
        obtain ⟨b5, k5⟩ : ∃ b, kitB (tyN d) "list" = some b := by
          rcases hd with rfl | rfl
          · exact ⟨true, kb_list_list⟩
          · exact ⟨false, kb_tuple_list⟩
        refine st_isi hy k1 ?_
        walk_at "rd"
        refine st_isi hy k2 ?_
        walk_at "rd"
        refine st_isi hy k3 ?_
        walk_at "rd"
        refine st_isi hy k4 ?_
        walk_at "rd"
        refine st_isi hx k4 ?_
        walk_at "rd"
        rw [decide_eq_true (rfl : b4 = b4)]
        walk_at "rd"
        refine st_isi hy k5 ?_
        walk_at "rd"
        refine st_isi hx k5 ?_
        walk_at "rd"
        rw [decide_eq_true (rfl : b5 = b5)]
        walk_at "rd"
        refine st_lenD hx hd ?_
        walk_at "rd"
        refine st_lenD hy hd ?_
        walk_at "rd"
        rw [decide_eq_true rfl]
        walk_at "rd"
        refine st_lenD hy hd ?_
        walk_at "rd"
        refine st_walkR hl (fun i σ' H' => ∃ z, σ' = [some x, some y, z] ∧ H' = H) ⟨none, rfl, rfl⟩ (fun i σ' H' hi p => ?_) (fun σ' H' p => ?_)
        · obtain ⟨z, rfl, rfl⟩ := p
          walk_at "rd"
          refine st_ixD hx hd (List.getElem?_eq_getElem hi) fun v1 h1 => ?_
          walk_at "rd"
          refine st_ixD hy hd (List.getElem?_eq_getElem hi) fun v2 h2 => ?_
          walk_at "rd"
          refine ⟨v1, v2, _, rfl, h1, h2, he _ (List.getElem_mem hi), ?_⟩
          walk_at "rd"
          exact ⟨_, rfl, rfl⟩
        · obtain ⟨z, rfl, rfl⟩ := p
          walk_at "rd"
          exact q
/-! ### _law_order -/
theorem sc__law_order : FnScope ["_law_box", "_law_cells", "_law_number", "_law_many", "_law_count", "_law_later"] ["_law_box", "_law_cells", "_law_number", "_law_many"] (defScope s__law_order) := ⟨rfl, rfl, rfl, by decide +kernel, rfl, by decide +kernel, by decide +kernel⟩
def sp_law_order : Sp := fun vs H Q _ => ∃ (b l : Addr) (cells i n : Nat), vs = [.ref b, .int (cells : Int), .int (i : Int), .int (n : Int)] ∧ BoxAt H b l ∧ 1 ≤ cells ∧ cells ≤ 16 ∧ i < n ∧ n ≤ 4 ∧
  ∀ (o : Ord) v H', Dr b l H H' → 1 ≤ o.many → o.many ≤ 8 → o.src + o.many ≤ cells → o.dst + o.many ≤ cells → (∀ k, o.later = some k → i < k ∧ k < n) → Im H' (pyOrd o.raw) v → Q v H'
theorem cal_law_order {P w base K mg c} (T : Txt K mg c) : Cal CX0 P w K mg base 2 "_law_order" sp_law_order := by
  obtain ⟨f, fd, F, m⟩ := T.F__law_order
  have c__law_take := cal_law_take (P := P) (w := w) (base := base) T
  refine cal_of F m (fun _ _ _ _ _ _ us hl => match us, hl with | [_, _, _, _], _ => rfl) sc__law_order (fun vs H Q E h => ?_) (fun cdv A outer s H vs Q E hr h => ?_)
  · obtain ⟨b, l, x, i, n, rfl, _⟩ := h
    rfl
  · obtain ⟨b, l, cells, i, n, rfl, hB, c1, c16, hi, hn, q⟩ := h
    refine ⟨_, (pss_cons (ps_set (i := 4) sc__law_order.nd rfl (.inl rfl) (pe_op op_add pe_int (pe_c c__law_take hr (by decide) (by rfl) (pa_cons (pv 0) (pa_cons (pe_callB (c_min rfl) (by rfl) T.min (by decide +kernel) (pa_cons pe_int (pa_cons (pv 1) pa_nil))) pa_nil)))))
      (pss_cons (ps_set (i := 5) sc__law_order.nd rfl (.inl rfl) pe_non)
      (pss_cut (ps_if (PW.pt (pw_and (pt_cmpR op_lt (pe_op op_add (pv 2) pe_int) (pv 3) (nomark _)) (pw_and1 (pt_cmpR op_eq (pe_c c__law_take hr (by decide) (by rfl) (pa_cons (pv 0) (pa_cons pe_int pa_nil))) pe_int (nomark _))))) (pss_one (ps_set (i := 5) sc__law_order.nd rfl (.inl rfl) (pe_op op_add (pe_op op_add (pv 2) pe_int) (pe_c c__law_take hr (by decide) (by rfl) (pa_cons (pv 0) (pa_cons (pe_op op_sub (pe_op op_sub (pv 3) (pv 2)) pe_int) pa_nil)))))) pss_nil)
      (pss_one (ps_ret (pe_tup (pa_cons (pe_c c__law_take hr (by decide) (by rfl) (pa_cons (pv 0) (pa_cons (pe_op op_add (pe_op op_sub (pv 1) (pv 4)) pe_int) pa_nil))) (pa_cons (pe_c c__law_take hr (by decide) (by rfl) (pa_cons (pv 0) (pa_cons (pe_op op_add (pe_op op_sub (pv 1) (pv 4)) pe_int) pa_nil))) (pa_cons (pv 4) (pa_cons (pv 5) pa_nil)))))))))), ?_⟩
    have small : ∀ z : Int, z.natAbs < 512 → z.natAbs.log2 < 9000 := fun z hz => by
      have := Nat.log2_le_self z.natAbs
      omega
    walk_at "rd"
    refine ⟨b, l, _, rfl, hB, ?_, ?_, fun r H1 d1 r0 r1 => ?_⟩
    · split <;> omega
    · split
      · exact small _ (by omega)
      · exact small _ (by decide)
    walk_at "rd"
    -- the count
    obtain ⟨m, rfl⟩ : ∃ m : Nat, r = (m : Int) := ⟨r.toNat, by omega⟩
    have hm : m + 1 ≤ 8 ∧ m + 1 ≤ cells := by
      split at r1 <;> omega
    refine st_cut (fun σ H2 => ∃ o : Option Nat, σ = [some (.ref b), some (.int (cells : Int)), some (.int (i : Int)), some (.int (n : Int)), some (.int (1 + (m : Int))), some (vOpt (oN o))] ∧ Dr b l H H2 ∧ ∀ k, o = some k → i < k ∧ k < n) ?_ fun σ H2 hM => ?_
    · walk_at "rd"
      refine st_D (fun h => ?_) (fun h => ?_)
      · walk_at "rd"
        refine ⟨b, l, 2, rfl, d1.2.2, by decide, by decide, fun r H2 d2 r0 r1 => ?_⟩
        walk_at "rd"
        refine st_D (fun h2 => ?_) (fun h2 => ?_)
        · walk_at "rd"
          refine ⟨b, l, _, rfl, d2.2.2, by omega, small _ (by omega), fun r3 H3 d3 r30 r31 => ?_⟩
          walk_at "rd"
          refine ⟨some (i + 1 + r3.toNat), ?_, (d1.trans d2).trans d3, ?_⟩
          · have e : V.int ((i : Int) + 1 + r3) = vOpt (oN (some (i + 1 + r3.toNat))) := by
              show V.int _ = V.int ((i + 1 + r3.toNat : Nat) : Int)
              congr 1
              omega
            rw [← e]
            rfl
          · intro k hk
            cases hk
            omega
        · walk_at "rd"
          exact ⟨none, rfl, d1.trans d2, by intro k hk; cases hk⟩
      · walk_at "rd"
        exact ⟨none, rfl, d1, by intro k hk; cases hk⟩
    · obtain ⟨o, rfl, d2, ho⟩ := hM
      walk_at "rd"
      refine ⟨b, l, _, rfl, d2.2.2, by omega, small _ (by omega), fun r3 H3 d3 r30 r31 => ?_⟩
      walk_at "rd"
      refine ⟨b, l, _, rfl, d3.2.2, by omega, small _ (by omega), fun r4 H4 d4 r40 r41 => ?_⟩
      walk_at "rd"
      refine st_newT (by simp) fun p H5 np e5 hp => ?_
      refine q ⟨r3.toNat, r4.toNat, m + 1, o⟩ _ H5 (((d2.trans d3).trans d4).ex e5) (by simp) hm.1 ?_ ?_ ho ?_
      · show r3.toNat + (m + 1) ≤ cells
        omega
      · show r4.toNat + (m + 1) ≤ cells
        omega
      · refine im_tup hp (iml_cons ?_ (iml_cons ?_ (iml_cons ?_ (iml_cons ?_ iml_nil))))
        · rw [Im.int_iff]
          show V.int r3 = V.int (r3.toNat : Int)
          congr 1
          omega
        · rw [Im.int_iff]
          show V.int r4 = V.int (r4.toNat : Int)
          congr 1
          omega
        · rw [Im.int_iff]
          show V.int (1 + (m : Int)) = V.int ((m + 1 : Nat) : Int)
          congr 1
          omega
        · exact im_opt.mpr rfl
/-! ### _law_deed -/
theorem sc__law_deed : FnScope ["_law_box", "_law_cells", "_law_orders", "_law_kinds_here", "_law_word", "_law_cell"] ["_law_box", "_law_cells", "_law_orders", "_law_kinds_here"] (defScope s__law_deed) := ⟨rfl, rfl, rfl, by decide +kernel, rfl, by decide +kernel, by decide +kernel⟩
/-- the words that stand for deeds -/
def words7 : List Str := ["set", "add", "say", "start", "wait", "clean", "drop"]
def sp_law_deed : Sp := fun vs H Q _ => ∃ (b l kl : Addr) (cells n : Nat) (ks : List Str), vs = [.ref b, .int (cells : Int), .int (n : Int), .ref kl] ∧ BoxAt H b l ∧ H kl = some (.lst (ks.map V.str)) ∧ kl ≠ b ∧ kl ≠ l ∧ ks ≠ [] ∧ ks.length ≤ 100 ∧ (∀ s ∈ ks, s ∈ words7) ∧
  4 ≤ cells ∧ cells ≤ 16 ∧ 1 ≤ n ∧ n ≤ 4 ∧ ∀ (d : Deed) v H', Dr b l H H' → d.Ok cells n → d.raw.1 ∈ ks → Im H' (pyDeed d.raw) v → Q v H'
theorem cal_law_deed {P w base K mg c} (T : Txt K mg c) : Cal CX0 P w K mg base 2 "_law_deed" sp_law_deed := by
  obtain ⟨f, fd, F, m⟩ := T.F__law_deed
  have c__law_take := cal_law_take (P := P) (w := w) (base := base) T
  refine cal_of F m (fun _ _ _ _ _ _ us hl => match us, hl with | [_, _, _, _], _ => rfl) sc__law_deed (fun vs H Q E h => ?_) (fun cdv A outer s H vs Q E hr h => ?_)
  · obtain ⟨b, l, kl, x, n, ks, rfl, _⟩ := h
    rfl
  · obtain ⟨b, l, kl, cells, n, ks, rfl, hB, hk, nkb, nkl, hne, hkl, hw, c4, c16, n1, n4, q⟩ := h
    refine ⟨_, (pss_cons (ps_set (i := 4) sc__law_deed.nd rfl (.inl rfl) (pe_ix ix_list (pv 3) (pe_c c__law_take hr (by decide) (by rfl) (pa_cons (pv 0) (pa_cons (pe_callB c_len (by rfl) T.len PySem.boot_len (pa_cons (pv 3) pa_nil)) pa_nil))) (fun _ _ => rfl)))
      (pss_cons (ps_if (pt_cmpR op_eq (pv 4) pe_str (nomark _)) (pss_one (ps_ret (pe_tup (pa_cons (pv 4) pa_nil)))) pss_nil)
      (pss_cons (ps_if (pt_cmpR op_in_seq (pv 4) (pe_tup (pa_cons pe_str (pa_cons pe_str pa_nil))) (by rfl)) (pss_one (ps_ret (pe_tup (pa_cons (pv 4) (pa_cons (pe_c c__law_take hr (by decide) (by rfl) (pa_cons (pv 0) (pa_cons (pe_op op_fdiv (pv 1) pe_int) pa_nil))) pa_nil))))) pss_nil)
      (pss_cons (ps_if (pt_cmpR op_eq (pv 4) pe_str (nomark _)) (pss_one (ps_ret (pe_tup (pa_cons (pv 4) (pa_cons (pe_c c__law_take hr (by decide) (by rfl) (pa_cons (pv 0) (pa_cons (pv 2) pa_nil))) pa_nil))))) pss_nil)
      (pss_cons (ps_set (i := 5) sc__law_deed.nd rfl (.inl rfl) (pe_c c__law_take hr (by decide) (by rfl) (pa_cons (pv 0) (pa_cons (pv 1) pa_nil))))
      (pss_cons (ps_if (pt_cmpR op_eq (pv 4) pe_str (nomark _)) (pss_one (ps_ret (pe_tup (pa_cons (pv 4) (pa_cons (pv 5) pa_nil))))) pss_nil)
      (pss_one (ps_ret (pe_tup (pa_cons (pv 4) (pa_cons (pv 5) (pa_cons (pe_c c__law_take hr (by decide) (by rfl) (pa_cons (pv 0) (pa_cons (pe_ix ix_list (pe_lst (pa_cons pe_int (pa_cons (pv 1) pa_nil))) (pe_callTy c_int (by rfl) T.int (by decide +kernel) (pa_cons (pe_cmpR op_eq (pv 4) pe_str (nomark _)) pa_nil)) (fun _ _ => rfl)) pa_nil))) pa_nil)))))))))))), ?_⟩
    have small : ∀ z : Int, z.natAbs < 512 → z.natAbs.log2 < 9000 := fun z hz => by
      have := Nat.log2_le_self z.natAbs
      omega
    have hpos : 0 < ks.length := List.length_pos_iff.mpr hne
    walk_at "rd"
    refine st_lenL hk ?_
    walk_at "rd"
    refine ⟨b, l, _, rfl, hB, by rw [List.length_map]; omega, small _ (by rw [List.length_map]; omega), fun r H1 d1 r0 r1 => ?_⟩
    rw [List.length_map] at r1
    obtain ⟨j, rfl⟩ : ∃ j : Nat, r = (j : Int) := ⟨r.toNat, by omega⟩
    have hj : j < ks.length := by omega
    have hk1 : H1 kl = some (.lst (ks.map V.str)) := d1.1 kl _ hk (by simp; exact ⟨nkb, nkl⟩)
    refine st_ixL hk1 (atI_nat (map_at (List.getElem?_eq_getElem hj))) ?_
    have hin : ks[j] ∈ ks := List.getElem_mem hj
    have hw7 := hw _ hin
    generalize ks[j] = s at hin hw7
    have mk1 : ∀ (H2 : Hp) (p : Addr) (s' : Str) (i : Nat), H2 p = some (.tup [.str s', .int (i : Int)]) → Im H2 (.tuple [.str s', .int (i : Int)]) (.ref p) := fun H2 p s' i hp => im_tup hp (iml_cons im_str (iml_cons im_int iml_nil))
    simp only [words7, List.mem_cons, List.not_mem_nil, or_false] at hw7
    rcases hw7 with rfl | rfl | rfl | rfl | rfl | rfl | rfl
    case inr.inr.inr.inr.inl =>
      walk_at "rd"
      refine st_newT (by simp) fun p H2 np e2 hp => ?_
      exact q .wait _ H2 (d1.ex e2) trivial hin (im_tup hp (iml_cons im_str iml_nil))
    all_goals walk_at "rd"
    all_goals refine st_newT (by simp) fun p H2 np e2 hp => ?_
    all_goals refine st_in2 hp ?_
    all_goals walk_at "rd"
    all_goals refine ⟨b, l, _, rfl, d1.2.2.ex e2, by omega, small _ (by omega), fun r3 H3 d3 r30 r31 => ?_⟩
    all_goals obtain ⟨x, rfl⟩ : ∃ x : Nat, r3 = (x : Int) := ⟨r3.toNat, by omega⟩
    all_goals walk_at "rd"
    all_goals have d3' := (d1.ex e2).trans d3
    case inr.inr.inl =>
      refine st_newT (by simp) fun p3 H4 np4 e4 hp4 => ?_
      exact q (.say x) _ H4 (d3'.ex e4) (show x < cells by omega) hin (im_tup hp4 (iml_cons im_str (iml_cons im_int iml_nil)))
    case inr.inr.inr.inl =>
      refine st_newT (by simp) fun p3 H4 np4 e4 hp4 => ?_
      exact q (.start x) _ H4 (d3'.ex e4) (show x < n by omega) hin (im_tup hp4 (iml_cons im_str (iml_cons im_int iml_nil)))
    case inr.inr.inr.inr.inr.inl =>
      refine st_newT (by simp) fun p3 H4 np4 e4 hp4 => ?_
      exact q (.clean x) _ H4 (d3'.ex e4) (show x < cells / 4 by omega) hin (im_tup hp4 (iml_cons im_str (iml_cons im_int iml_nil)))
    case inr.inr.inr.inr.inr.inr =>
      refine st_newT (by simp) fun p3 H4 np4 e4 hp4 => ?_
      exact q (.drop x) _ H4 (d3'.ex e4) (show x < cells / 4 by omega) hin (im_tup hp4 (iml_cons im_str (iml_cons im_int iml_nil)))
    all_goals refine st_newL (by simp) fun p4 H4 np4 e4 hp4 => ?_
    all_goals walk_at "rd"
    case inl =>
      refine st_ixL hp4 (atI_nat (j := 0) rfl) ?_
      walk_at "rd"
      refine ⟨b, l, 10, rfl, d3.2.2.ex e4, by decide, by decide, fun r5 H5 d5 r50 r51 => ?_⟩
      obtain ⟨y, rfl⟩ : ∃ y : Nat, r5 = (y : Int) := ⟨r5.toNat, by omega⟩
      walk_at "rd"
      refine st_newT (by simp) fun p6 H6 np6 e6 hp6 => ?_
      exact q (.set x y) _ H6 (((d3'.ex e4).trans d5).ex e6) (show x < cells ∧ y ≤ 9 by omega) hin (im_tup hp6 (iml_cons im_str (iml_cons im_int (iml_cons im_int iml_nil))))
    case inr.inl =>
      refine st_ixL hp4 (atI_nat (j := 1) rfl) ?_
      walk_at "rd"
      refine ⟨b, l, _, rfl, d3.2.2.ex e4, by omega, small _ (by omega), fun r5 H5 d5 r50 r51 => ?_⟩
      obtain ⟨y, rfl⟩ : ∃ y : Nat, r5 = (y : Int) := ⟨r5.toNat, by omega⟩
      walk_at "rd"
      refine st_newT (by simp) fun p6 H6 np6 e6 hp6 => ?_
      exact q (.add x y) _ H6 (((d3'.ex e4).trans d5).ex e6) (show x < cells ∧ y < cells by omega) hin (im_tup hp6 (iml_cons im_str (iml_cons im_int (iml_cons im_int iml_nil))))
/-! ### _law_board -/
theorem sc__law_board : FnScope ["_law_box", "_law_lines", "_law_deeds", "_law_kinds_here", "_law_cells", "_law_memory", "_law_cell", "_law_many", "_law_orders", "_law_number", "_law_program", "_law_turn", "_law_deed_here", "_law_one"] ["_law_box", "_law_lines", "_law_deeds", "_law_kinds_here"] (defScope s__law_board) := ⟨rfl, rfl, rfl, by decide +kernel, rfl, by decide +kernel, by decide +kernel⟩
/-- what a drawn board is -/
structure Drawn (lines deeds : Nat) (ks : List Str) (bd : Bd) : Prop where
  good : Good bd
  lines : bd.mem.length ≤ 4 * lines
  deeds : bd.prog.length ≤ deeds
  ords : 1 ≤ bd.ords.length
  words : ∀ d ∈ bd.prog, d.raw.1 ∈ ks ∨ ∃ c, d = .say c
def sp_law_board : Sp := fun vs H Q _ => ∃ (b l kl : Addr) (lines deeds : Nat) (ks : List Str), vs = [.ref b, .int (lines : Int), .int (deeds : Int), .ref kl] ∧ BoxAt H b l ∧ H kl = some (.lst (ks.map V.str)) ∧ kl ≠ b ∧ kl ≠ l ∧ ks ≠ [] ∧ ks.length ≤ 100 ∧ (∀ s ∈ ks, s ∈ words7) ∧
  1 ≤ lines ∧ lines ≤ 4 ∧ deeds ≤ 60 ∧ ∀ (bd : Bd) v H', Dr b l H H' → Drawn lines deeds ks bd → Im H' (pyB bd.raw) v → Q v H'
theorem cal_law_board {P w base K mg c} (T : Txt K mg c) : Cal CX0 P w K mg base 3 "_law_board" sp_law_board := by
  obtain ⟨f, fd, F, m⟩ := T.F__law_board
  have c__law_take := cal_law_take (P := P) (w := w) (base := base) T
  have c__law_order := cal_law_order (P := P) (w := w) (base := base) T
  have c__law_deed := cal_law_deed (P := P) (w := w) (base := base) T
  refine cal_of F m (fun _ _ _ _ _ _ us hl => match us, hl with | [_, _, _, _], _ => rfl) sc__law_board (fun vs H Q E h => ?_) (fun cdv A outer s H vs Q E hr h => ?_)
  · obtain ⟨b, l, kl, x, n, ks, rfl, _⟩ := h
    rfl
  · obtain ⟨b, l, kl, lines, deeds, ks, rfl, hB, hk, nkb, nkl, hne, hkl, hw, l1, l4, hd60, q⟩ := h
    refine ⟨_, (pss_cons (ps_set (i := 4) sc__law_board.nd rfl (.inr rfl) (pe_op op_mul pe_int (pe_op op_add pe_int (pe_c c__law_take hr (by decide) (by rfl) (pa_cons (pv 0) (pa_cons (pv 1) pa_nil))))))
      (pss_cons (ps_set (i := 5) sc__law_board.nd rfl (.inl rfl) (pe_callTy c_tuple (by rfl) T.tuple (by decide +kernel) (pa_cons (pe_lc (own := [("_law_cell", 6)]) (g := (gName 6)) (tt := tYes) (te := (tCall sp_law_take [] L2.E0 (tCons (tVar 0) (tCons (tC (.int 10)) tNil)))) rfl sc__law_board.nd (pi_range1 rfl T.range (pa_cons (pv 4) pa_nil)) (blkOk_by (N := ["_law_box", "_law_lines", "_law_deeds", "_law_kinds_here", "_law_cells", "_law_memory", "_law_cell", "_law_many", "_law_orders", "_law_number", "_law_program", "_law_turn", "_law_deed_here", "_law_one"]) (sc := defScope s__law_board) (own := [("_law_cell", 6)]) (by decide +kernel)) (fun _ _ _ _ _ => (pg_name (i := 6) sc__law_board.nd rfl (.inl rfl))) (fun _ _ _ _ _ => pts_nil) (fun _ _ _ _ _ => (pe_c c__law_take hr (by decide) (by rfl) (pa_cons (pv 0) (pa_cons pe_int pa_nil))))) pa_nil)))
      (pss_cons (ps_set (i := 7) sc__law_board.nd rfl (.inr rfl) (pe_op op_add pe_int (pe_c c__law_take hr (by decide) (by rfl) (pa_cons (pv 0) (pa_cons pe_int pa_nil)))))
      (pss_cons (ps_set (i := 8) sc__law_board.nd rfl (.inl rfl) (pe_callTy c_tuple (by rfl) T.tuple (by decide +kernel) (pa_cons (pe_lc (own := [("_law_number", 9)]) (g := (gName 9)) (tt := tYes) (te := (tCall sp_law_order [] L2.E0 (tCons (tVar 0) (tCons (tVar 4) (tCons (tVar 9) (tCons (tVar 7) tNil)))))) rfl sc__law_board.nd (pi_range1 rfl T.range (pa_cons (pv 7) pa_nil)) (blkOk_by (N := ["_law_box", "_law_lines", "_law_deeds", "_law_kinds_here", "_law_cells", "_law_memory", "_law_cell", "_law_many", "_law_orders", "_law_number", "_law_program", "_law_turn", "_law_deed_here", "_law_one"]) (sc := defScope s__law_board) (own := [("_law_number", 9)]) (by decide +kernel)) (fun _ _ _ _ _ => (pg_name (i := 9) sc__law_board.nd rfl (.inl rfl))) (fun _ _ _ _ _ => pts_nil) (fun _ _ _ _ _ => (pe_c c__law_order hr (by decide) (by rfl) (pa_cons (pv 0) (pa_cons (pv 4) (pa_cons (pv 9) (pa_cons (pv 7) pa_nil))))))) pa_nil)))
      (pss_cons (ps_set (i := 10) sc__law_board.nd rfl (.inl rfl) (pe_lst pa_nil))
      (pss_cons (ps_for PassesOwn.never rfl (pi_range1 rfl T.range (pa_cons (pe_c c__law_take hr (by decide) (by rfl) (pa_cons (pv 0) (pa_cons (pe_op op_add (pv 2) pe_int) pa_nil))) pa_nil)) (pg_name (i := 11) sc__law_board.nd rfl (.inl rfl))
      (pss_cons (ps_set (i := 12) sc__law_board.nd rfl (.inl rfl) (pe_c c__law_deed hr (by decide) (by rfl) (pa_cons (pv 0) (pa_cons (pv 4) (pa_cons (pv 7) (pa_cons (pv 3) pa_nil))))))
      (pss_cons (ps_if (PW.pt (pw_and (pt_cmpR op_eq (pe_ix ix_tup (pv 12) pe_int (fun _ _ => rfl)) pe_str (nomark _)) (pw_and1 (pt_cmpR op_eq (pe_callB c_len (by rfl) T.len PySem.boot_len (pa_cons (pe_lc (own := [("_law_one", 13)]) (g := (gName 13)) (tt := (tTest (tOp rEq (tOp (rIxT K) (tVar 13) (tC (.int 0))) (tC (.str "start"))))) (te := (tVar 13)) rfl sc__law_board.nd (pi_list (pv 10)) (blkOk_by (N := ["_law_box", "_law_lines", "_law_deeds", "_law_kinds_here", "_law_cells", "_law_memory", "_law_cell", "_law_many", "_law_orders", "_law_number", "_law_program", "_law_turn", "_law_deed_here", "_law_one"]) (sc := defScope s__law_board) (own := [("_law_one", 13)]) (by decide +kernel)) (fun _ _ _ _ _ => (pg_name (i := 13) sc__law_board.nd rfl (.inl rfl))) (fun _ _ _ _ _ => (pts_one (pt_cmpR op_eq (pe_ix ix_tup (pv 13) pe_int (fun _ _ => rfl)) pe_str (nomark _)))) (fun _ _ _ _ _ => (pv 13))) pa_nil)) pe_int (nomark _))))) (pss_one (ps_set (i := 12) sc__law_board.nd rfl (.inl rfl) (pe_tup (pa_cons pe_str (pa_cons (pe_c c__law_take hr (by decide) (by rfl) (pa_cons (pv 0) (pa_cons (pv 4) pa_nil))) pa_nil))))) pss_nil)
      (pss_one (ps_expr (pe_bm PySem.F.plainAttrs_list PySem.F.slot_list_append PySem.F.type_list_append mt_append (pv 10) (pa_cons (pv 12) pa_nil)))))))
      (pss_one (ps_ret (pe_tup (pa_cons (pv 5) (pa_cons (pv 8) (pa_cons (pe_callTy c_tuple (by rfl) T.tuple (by decide +kernel) (pa_cons (pv 10) pa_nil)) pa_nil)))))))))))), ?_⟩
    have small : ∀ z : Int, z.natAbs < 512 → z.natAbs.log2 < 9000 := fun z hz => by
      have := Nat.log2_le_self z.natAbs
      omega
    have nbl : ∀ {D : Addr}, H D = none → D ≠ b ∧ D ≠ l := fun {D} hD => by
      obtain ⟨_, h, _⟩ := hB.box
      obtain ⟨_, h2⟩ := hB.nums
      exact ⟨fun z => (by rw [z, h] at hD; cases hD), fun z => (by rw [z, h2] at hD; cases hD)⟩
    have free : ∀ {H1 : Hp} {D : Addr}, Dr b l H H1 → H1 D = none → H D = none := fun {H1 D} d hD => by
      cases e : H D with
      | none => rfl
      | some o =>
        by_cases hm : D ∈ [b, l]
        · obtain ⟨_, h, _⟩ := d.2.2.box
          obtain ⟨_, h2⟩ := d.2.2.nums
          simp only [List.mem_cons, List.not_mem_nil, or_false] at hm
          rcases hm with rfl | rfl
          · rw [h] at hD; cases hD
          · rw [h2] at hD; cases hD
        · rw [d.1 D o e hm] at hD
          cases hD
    walk_at "rd"
    refine ⟨b, l, _, rfl, hB, by omega, small _ (by omega), fun r H1 d1 r0 r1 => ?_⟩
    obtain ⟨k, rfl⟩ : ∃ k : Nat, r = (k : Int) := ⟨r.toNat, by omega⟩
    walk_at "rd"
    refine st_mul (.inl ⟨by decide, by decide⟩) ?_
    walk_at "rd"
    have ecells : (4 : Int) * (1 + (k : Int)) = ((4 * (1 + k) : Nat) : Int) := by omega
    rw [ecells]
    have hk4 : k < 4 := by omega
    have hkl' : k < lines := by omega
    generalize hc : 4 * (1 + k) = cells
    -- memory
    refine st_lcRange (n := cells) (by omega) fun D H2 nD e2 hD => ?_
    have nD0 := free d1 nD
    refine ⟨fun i H' => ∃ ns : List Int, ns.length = i ∧ (∀ n ∈ ns, 0 ≤ n ∧ n ≤ 9) ∧ Dr b l H H' ∧ H' D = some (.lst (ns.map V.int)), ⟨[], rfl, by simp, d1.ex e2, hD⟩, fun i H' hi hp => ?_, fun H' hp => ?_⟩
    · obtain ⟨ns, h1, h2, h3, h4⟩ := hp
      show gName 6 _ _ _ _
      walk_at "rd"
      refine ⟨rfl, ?_⟩
      walk_at "rd"
      refine ⟨b, l, 10, rfl, h3.2.2, by decide, by decide, fun r H3 d3 r0 r1 => ?_⟩
      have h4' : H3 D = some (.lst (ns.map V.int)) := d3.1 D _ h4 (by simp; exact nbl nD0)
      refine st_lcPut h4' (by rw [List.length_map]; omega) fun H4 f4 k4 h5 => ?_
      refine ⟨ns ++ [r], by simp [h1], ?_, Dr.put hB (h3.trans d3) nD0 f4 k4, by rw [h5, List.map_append]; rfl⟩
      intro n hn
      rcases List.mem_append.mp hn with hn | hn
      · exact h2 n hn
      · rw [List.mem_singleton.mp hn]
        omega
    obtain ⟨mem, hmem, hdig, d2, hD2⟩ := hp
    walk_at "rd"
    refine st_tupL hD2 fun tm H3 ntm e3 htm => ?_
    have d3 := d2.ex e3
    walk_at "rd"
    refine ⟨b, l, 4, rfl, d3.2.2, by decide, by decide, fun r H4 d4 r0 r1 => ?_⟩
    obtain ⟨k2, rfl⟩ : ∃ k2 : Nat, r = (k2 : Int) := ⟨r.toNat, by omega⟩
    walk_at "rd"
    have emany : (1 : Int) + (k2 : Int) = ((1 + k2 : Nat) : Int) := by omega
    rw [emany]
    have hm4 : 1 + k2 ≤ 4 := by omega
    have hm1 : 1 ≤ 1 + k2 := by omega
    generalize hmn : 1 + k2 = many at hm4 hm1
    have d34 := d3.trans d4
    -- orders
    refine st_lcRange (n := many) (by omega) fun D2 H5 nD2 e5 hD5 => ?_
    have nD20 := free d34 nD2
    refine ⟨fun i H' => ∃ (os : List Ord) (xs : List V), os.length = i ∧ (∀ j o, os[j]? = some o → 1 ≤ o.many ∧ o.many ≤ 8 ∧ o.src + o.many ≤ cells ∧ o.dst + o.many ≤ cells ∧ ∀ k, o.later = some k → j < k ∧ k < many) ∧ Dr b l H H' ∧ Kp H3 H' ∧ H' D2 = some (.lst xs) ∧ ImL H' ((os.map Ord.raw).map pyOrd) xs,
      ⟨[], [], rfl, by simp, d34.ex e5, d4.2.1.trans e5.kp, hD5, iml_nil⟩, fun i H' hi hp => ?_, fun H' hp => ?_⟩
    · obtain ⟨os, xs, h1, h2, h3, hkp, h4, h5⟩ := hp
      show gName 9 _ _ _ _
      walk_at "rd"
      refine ⟨rfl, ?_⟩
      walk_at "rd"
      refine ⟨b, l, cells, i, many, rfl, h3.2.2, by omega, by omega, hi, hm4, fun o v H6 d6 o1 o2 o3 o4 o5 hv => ?_⟩
      have h4' : H6 D2 = some (.lst xs) := d6.1 D2 _ h4 (by simp; exact nbl nD20)
      refine st_lcPut h4' (by rw [h5.length, List.length_map, List.length_map]; omega) fun H7 f7 k7 h7 => ?_
      refine ⟨os ++ [o], xs ++ [v], by simp [h1], ?_, Dr.put hB (h3.trans d6) nD20 f7 k7, (hkp.trans d6.2.1).trans k7, h7, ?_⟩
      · intro j o' hj
        by_cases hj' : j < os.length
        · rw [List.getElem?_append_left hj'] at hj
          exact h2 j o' hj
        · rw [List.getElem?_append_right (by omega)] at hj
          have hz : j - os.length = 0 := by
            cases e : j - os.length with
            | zero => rfl
            | succ n => rw [e] at hj; simp at hj
          rw [hz] at hj
          simp at hj
          subst hj
          have : j = i := by omega
          subst this
          exact ⟨o1, o2, o3, o4, o5⟩
      · rw [List.map_append, List.map_append]
        exact ((h5.kp d6.2.1).kp k7).append (iml_cons (hv.kp k7) iml_nil)
    obtain ⟨os, xs, hos, hok, d5, hkp5, hD2', hos'⟩ := hp
    walk_at "rd"
    refine st_tupL hD2' fun to H6 nto e6 hto => ?_
    have d6 := d5.ex e6
    walk_at "rd"
    refine st_newL (by simp) fun pl H7 npl e7 hpl => ?_
    have d7 := d6.ex e7
    have npl0 := free d6 npl
    have kl7 : H7 kl = some (.lst (ks.map V.str)) := d7.1 kl _ hk (by simp; exact ⟨nkb, nkl⟩)
    walk_at "rd"
    refine ⟨b, l, _, rfl, d7.2.2, by omega, small _ (by omega), fun r H8 d8 r0 r1 => ?_⟩
    obtain ⟨turns, rfl⟩ : ∃ k2 : Nat, r = (k2 : Int) := ⟨r.toNat, by omega⟩
    have hpl8 : H8 pl = some (.lst []) := d8.1 pl _ hpl (by simp; exact nbl npl0)
    walk_at "rd"
    refine st_walkR (n := turns) (by omega) (fun i σ' H' => ∃ (p : List Deed) (ys : List V) (y1 y2 y3 y4 y5 : Option V), σ' = [some (.ref b), some (.int (lines : Int)), some (.int (deeds : Int)), some (.ref kl), some (.int (cells : Int)), some (.ref tm), y1, some (.int (many : Int)), some (.ref to), y2, some (.ref pl), y3, y4, y5] ∧
      p.length = i ∧ (∀ d ∈ p, d.Ok cells many) ∧ (p.filter Deed.isStart).length ≤ 3 ∧ (∀ d ∈ p, d.raw.1 ∈ ks ∨ ∃ c, d = .say c) ∧ Dr b l H H' ∧ Kp H7 H' ∧ H' pl = some (.lst ys) ∧ ImL H' ((p.map Deed.raw).map pyDeed) ys) ⟨[], [], _, _, _, _, _, rfl, rfl, by simp, by simp, by simp, d7.trans d8, d8.2.1, hpl8, iml_nil⟩ (fun i σ' H' hi hp => ?_) (fun σ' H' hp => ?_)
    · obtain ⟨p, ys, y1, y2, y3, y4, y5, rfl, p1, p2, p3, p4, dd, kk, hp', hys⟩ := hp
      walk_at "rd"
      have klh : H' kl = some (.lst (ks.map V.str)) := dd.1 kl _ hk (by simp; exact ⟨nkb, nkl⟩)
      refine ⟨b, l, kl, cells, many, ks, rfl, dd.2.2, klh, nkb, nkl, hne, hkl, hw, by omega, by omega, hm1, hm4, fun d v H9 d9 ok inks hv => ?_⟩
      have hp9 : H9 pl = some (.lst ys) := d9.1 pl _ hp' (by simp; exact nbl npl0)
      have hys9 := hys.kp d9.2.1
      have hylen : ys.length = i := by rw [hys.length, List.length_map, List.length_map]; exact p1
      -- the deed is put
      have put : ∀ (d' : Deed) (v' : V) (H10 : Hp) (y4 y5 : Option V), Dr b l H9 H10 → Kp H9 H10 → H10 pl = some (.lst ys) → d'.Ok cells many → (d'.isStart = true → (p.filter Deed.isStart).length ≤ 2) → (d'.raw.1 ∈ ks ∨ ∃ c, d' = .say c) → Im H10 (pyDeed d'.raw) v' →
          ∀ H11, Fr [pl] H10 H11 → Kp H10 H11 → H11 pl = some (.lst (ys ++ [v'])) → ∃ (p : List Deed) (ys : List V) (z1 z2 z3 z4 z5 : Option V), ([some (.ref b), some (.int (lines : Int)), some (.int (deeds : Int)), some (.ref kl), some (.int (cells : Int)), some (.ref tm), y1, some (.int (many : Int)), some (.ref to), y2, some (.ref pl), some (.int (i : Int)), y4, y5] : L2.St) = [some (.ref b), some (.int (lines : Int)), some (.int (deeds : Int)), some (.ref kl), some (.int (cells : Int)), some (.ref tm), z1, some (.int (many : Int)), some (.ref to), z2, some (.ref pl), z3, z4, z5] ∧
            p.length = i + 1 ∧ (∀ d ∈ p, d.Ok cells many) ∧ (p.filter Deed.isStart).length ≤ 3 ∧ (∀ d ∈ p, d.raw.1 ∈ ks ∨ ∃ c, d = .say c) ∧ Dr b l H H11 ∧ Kp H7 H11 ∧ H11 pl = some (.lst ys) ∧ ImL H11 ((p.map Deed.raw).map pyDeed) ys := by
        intro d' v' H10 y4 y5 d10 k10 hp10 ok' st' in' hv' H11 f11 k11 h11
        refine ⟨p ++ [d'], ys ++ [v'], _, _, _, _, _, rfl, by simp [p1], ?_, ?_, ?_, Dr.put hB ((dd.trans d9).trans d10) npl0 f11 k11, ((kk.trans d9.2.1).trans k10).trans k11, h11, ?_⟩
        · intro e he
          rcases List.mem_append.mp he with he | he
          · exact p2 e he
          · rw [List.mem_singleton.mp he]; exact ok'
        · rw [List.filter_append, List.length_append]
          cases hs : d'.isStart with
          | true =>
            have := st' hs
            simp [List.filter_cons, hs]
            omega
          | false =>
            simp [List.filter_cons, hs]
            omega
        · intro e he
          rcases List.mem_append.mp he with he | he
          · exact p4 e he
          · rw [List.mem_singleton.mp he]; exact in'
        · rw [List.map_append, List.map_append]
          exact ((hys9.kp k10).kp k11).append (iml_cons (hv'.kp k11) iml_nil)
      walk_at "rd"
      refine st_ixT_str hv (Kp.refl _) (atI_nat (j := 0) rfl) ?_
      walk_at "rd"
      have eS : decide (d.raw.1 = ("start" : Str)) = d.isStart := isStart_raw d
      rw [eS]
      refine st_B (fun h => ?_) (fun h => ?_)
      · walk_at "rd"
        refine st_lcList (SqL.of hp9) fun D3 H10 nD3 e10 hD3 => ?_
        refine ⟨fun j H11 => ∃ acc, Ex H9 H11 ∧ H11 D3 = some (.lst acc) ∧ acc.length = ((p.take j).filter Deed.isStart).length, ⟨[], e10, hD3, by simp⟩, fun j H11 hh => ?_, fun j v1 H11 hv1 hh => ?_, fun H11 hh => ?_⟩
        · obtain ⟨_, e, _⟩ := hh
          exact SqL.of (e _ _ hp9)
        · obtain ⟨acc, e11, hacc, hlen⟩ := hh
          obtain ⟨dd1, g1, g2⟩ := hys9.get' hv1
          obtain ⟨dr, g3, rfl⟩ := map_at' g1
          obtain ⟨dj, g4, rfl⟩ := map_at' g3
          show gName 13 _ _ _ _
          walk_at "rd"
          refine ⟨rfl, ?_⟩
          walk_at "rd"
          refine st_ixT_str (g2.ex e11) (Kp.refl _) (atI_nat (j := 0) rfl) ?_
          walk_at "rd"
          have eS2 : decide (dj.raw.1 = ("start" : Str)) = dj.isStart := isStart_raw dj
          rw [eS2]
          have ht : p.take (j + 1) = p.take j ++ [dj] := by rw [List.take_add_one, g4]; rfl
          refine st_B (fun hs => ?_) (fun hs => ?_)
          · walk_at "rd"
            have : ((p.take j).filter Deed.isStart).length ≤ p.length := Nat.le_trans (List.length_filter_le _ _) (by rw [List.length_take]; omega)
            refine st_lcPut hacc (by omega) fun H12 f12 k12 h12 => ?_
            refine ⟨acc ++ [v1], Fr.ex e11 (fun a ha => by rw [List.mem_singleton.mp ha]; exact nD3) f12, h12, ?_⟩
            rw [ht, List.filter_append, List.length_append, List.length_append, hlen]
            simp [List.filter_cons, hs]
          · refine ⟨acc, e11, hacc, ?_⟩
            rw [ht, List.filter_append, List.length_append, hlen]
            simp [List.filter_cons, hs]
        · obtain ⟨acc, e11, hacc, hlen⟩ := hh
          rw [hylen, ← p1, List.take_length] at hlen
          walk_at "rd"
          refine st_lenL hacc ?_
          walk_at "rd"
          have d11 := d9.2.2.ex e11
          refine st_D (fun h3 => ?_) (fun h3 => ?_)
          · walk_at "rd"
            refine ⟨b, l, _, rfl, d11, by omega, small _ (by omega), fun r H12 d12 r0 r1 => ?_⟩
            obtain ⟨cell, rfl⟩ : ∃ k2 : Nat, r = (k2 : Int) := ⟨r.toNat, by omega⟩
            walk_at "rd"
            refine st_newT (by simp) fun t H13 nt e13 ht => ?_
            have hp13 : H13 pl = some (.lst ys) := e13 _ _ (d12.1 pl _ (e11 _ _ hp9) (by simp; exact nbl npl0))
            walk_at "rd"
            refine tyL hp13 ?_
            walk_at "rd"
            refine st_app hp13 (sz_lt (by omega)) fun H14 f14 k14 h14 => ?_
            exact put (.say cell) _ H13 _ _ (((Dr.start d9.2.2).ex e11).trans (d12.ex e13)) ((e11.kp.trans d12.2.1).trans e13.kp) hp13 (show cell < cells by omega) (fun z => by cases z) (.inr ⟨cell, rfl⟩) (im_tup ht (iml_cons im_str (iml_cons im_int iml_nil))) H14 f14 k14 h14
          · walk_at "rd"
            refine tyL (e11 _ _ hp9) ?_
            walk_at "rd"
            refine st_app (e11 _ _ hp9) (sz_lt (by omega)) fun H14 f14 k14 h14 => ?_
            exact put d _ H11 _ _ ((Dr.start d9.2.2).ex e11) e11.kp (e11 _ _ hp9) ok (fun _ => by omega) (.inl inks) (hv.ex e11) H14 f14 k14 h14
      · walk_at "rd"
        refine tyL hp9 ?_
        walk_at "rd"
        refine st_app hp9 (sz_lt (by omega)) fun H14 f14 k14 h14 => ?_
        exact put d _ H9 _ _ (Dr.start d9.2.2) (Kp.refl _) hp9 ok (fun z => by rw [h] at z; cases z) (.inl inks) hv H14 f14 k14 h14
    · obtain ⟨p, ys, y1, y2, y3, y4, y5, rfl, p1, p2, p3, p4, dd, kk, hp', hys⟩ := hp
      walk_at "rd"
      refine st_tupL hp' fun tp H9 ntp e9 htp => ?_
      walk_at "rd"
      refine st_newT (by simp) fun t H10 nt e10 ht => ?_
      have hmem' : Im H3 (pyMem mem) (.ref tm) := im_tup htm (ImL.ints.mpr rfl)
      have hord' : Im H6 (pyOrds (os.map Ord.raw)) (.ref to) := im_tup hto (hos'.ex e6)
      refine q ⟨mem, os, p⟩ _ H10 ((dd.ex e9).ex e10) ⟨⟨?_, ?_, hdig, by show os.length ≤ 4; omega, ⟨?_⟩, by show p.length ≤ 60; omega, ?_, p3⟩, by show mem.length ≤ _; omega, by show p.length ≤ _; omega, by show 1 ≤ os.length; omega, p4⟩ ?_
      · show mem.length % 4 = 0
        omega
      · show 1 ≤ mem.length / 4 ∧ mem.length / 4 ≤ 4
        omega
      · intro i o ho
        show _ ∧ _ ∧ o.src + o.many ≤ mem.length ∧ o.dst + o.many ≤ mem.length ∧ ∀ l, o.later = some l → i < l ∧ l < os.length
        rw [hmem, hos]
        exact hok i o ho
      · intro d hd
        show d.Ok mem.length os.length
        rw [hmem, hos]
        exact p2 d hd
      · refine im_tup ht (iml_cons (hmem'.kp ?_) (iml_cons (hord'.kp ?_) (iml_cons ?_ iml_nil)))
        · exact (((hkp5.trans e6.kp).trans e7.kp).trans kk).trans (e9.kp.trans e10.kp)
        · exact (e7.kp.trans kk).trans (e9.kp.trans e10.kp)
        · exact (im_tup htp (hys.ex e9)).ex e10
/-! ### _law_moves -/
theorem sc__law_moves : FnScope ["_law_orders", "_law_number", "_law_found", "_law_source", "_law_goal", "_law_many", "_law_later", "_law_step"] ["_law_orders", "_law_number"] (defScope s__law_moves) := ⟨rfl, rfl, rfl, by decide +kernel, rfl, by decide +kernel, by decide +kernel⟩
def sp_law_moves : Sp := fun vs H Q _ => ∃ (x : V) (cells : Nat) (os : List Ord) (k : Nat), vs = [x, .int (k : Int)] ∧ Im H (pyOrds (os.map Ord.raw)) x ∧ OrdsOk cells os ∧ os.length ≤ 4 ∧ k < os.length ∧
  ∀ l H', NewList H H' l ((movesOf os k).map pyMv) → Q (.ref l) H'
theorem cal_law_moves {P w base K mg c} (T : Txt K mg c) : Cal CX0 P w K mg base 1 "_law_moves" sp_law_moves := by
  obtain ⟨f, fd, F, m⟩ := T.F__law_moves
  refine cal_of F m (fun _ _ _ _ _ _ us hl => match us, hl with | [_, _], _ => rfl) sc__law_moves (fun vs H Q E h => ?_) (fun cdv A outer s H vs Q E hr h => ?_)
  · obtain ⟨x, cells, os, k, rfl, _⟩ := h
    rfl
  · obtain ⟨x, cells, os, k, rfl, hx, g, h4, hk, q⟩ := h
    refine ⟨_, (pss_cons (ps_set (i := 2) sc__law_moves.nd rfl (.inl rfl) (pe_lst pa_nil))
      (pss_cons (ps_while PassesOwn.never (pt_cmpR o_notN (pv 1) pe_non (nomark _))
      (pss_cons (ps_asg (pe_ix ix_tup (pv 0) (pv 1) (fun _ _ => rfl)) (pg_tup (n := 4) rfl (pgs_cons (pg_name (i := 3) sc__law_moves.nd rfl (.inl rfl)) (pgs_cons (pg_name (i := 4) sc__law_moves.nd rfl (.inl rfl)) (pgs_cons (pg_name (i := 5) sc__law_moves.nd rfl (.inl rfl)) (pgs_cons (pg_name (i := 6) sc__law_moves.nd rfl (.inl rfl)) pgs_nil))))))
      (pss_cons (ps_for PassesOwn.never rfl (pi_range1 rfl T.range (pa_cons (pv 5) pa_nil)) (pg_name (i := 7) sc__law_moves.nd rfl (.inl rfl))
      (pss_one (ps_expr (pe_bm PySem.F.plainAttrs_list PySem.F.slot_list_append PySem.F.type_list_append mt_append (pv 2) (pa_cons (pe_tup (pa_cons (pe_op op_add (pv 3) (pv 7)) (pa_cons (pe_op op_add (pv 4) (pv 7)) (pa_cons (pe_ix ix_list (pe_lst (pa_cons pe_non (pa_cons (pv 1) pa_nil))) (pe_callTy c_int (by rfl) T.int (by decide +kernel) (pa_cons (pe_cmpR op_eq (pe_op op_add (pv 7) pe_int) (pv 5) (nomark _)) pa_nil)) (fun _ _ => rfl)) pa_nil)))) pa_nil)))))
      (pss_one (ps_set (i := 1) sc__law_moves.nd rfl (.inl rfl) (pv 6))))))
      (pss_one (ps_ret (pv 2))))), ?_⟩
    walk_at "rd"
    refine st_newL (by decide) fun l H1 nl e1 hl => ?_
    walk_at "rd"
    -- while number is not None
    refine ⟨fun m σ H2 => ∃ (cur : Option Nat) (done : List Mv) (xs : List V) (a b c d e : Option V), σ = [some x, some (vN cur), some (.ref l), a, b, c, d, e] ∧ Ex H H2 ∧ H2 l = some (.lst xs) ∧ ImL H2 (done.map pyMv) xs ∧
      done ++ movesO os cur = movesOf os k ∧ (∀ j, cur = some j → j < os.length) ∧ m = (match cur with | none => 0 | some j => os.length - j), ⟨os.length - k, some k, [], [], _, _, _, _, _, rfl, e1, hl, iml_nil, rfl, fun j hj => by cases hj; exact hk, rfl⟩, fun m σ H2 hW => ?_⟩
    obtain ⟨cur, done, xs, a, b, c, d, e, rfl, e2, hl2, hxs, hd, hj, hm⟩ := hW
    walk_at "rd"
    cases cur with
    | none =>
      show if (!decide (V.non = V.non)) = true then _ else _
      rw [decide_eq_true rfl]
      walk_at "rd"
      have e0 : done = movesOf os k := by
        rw [← hd]
        exact (List.append_nil done).symm
      subst e0
      exact q l H2 ⟨nl, e2, xs, hl2, hxs⟩
    | some j =>
      have hj' : j < os.length := hj j rfl
      show if (!decide (V.int (j : Int) = V.non)) = true then _ else _
      rw [decide_eq_false (fun z => by cases z)]
      walk_at "rd"
      refine ⟨_, fun _ _ h => h, ?_⟩
      walk_at "rd"
      have ho : os[j]? = some os[j] := List.getElem?_eq_getElem hj'
      generalize eo : os[j] = o at ho
      refine st_ixT hx e2.kp (atI_nat (map_at (map_at ho))) fun v hv => ?_
      refine st_gtup hv (Kp.refl _) rfl fun ys hys => ?_
      cases ord_inv hys
      walk_at "rd"
      obtain ⟨b1, b2, b3, b4, b5⟩ := g.ok j o ho
      refine st_walkR (n := o.many) (by omega) (fun i σ H3 => ∃ (zs : List V) (y : Option V), σ = [some x, some (.int (j : Int)), some (.ref l), some (.int (o.src : Int)), some (.int (o.dst : Int)), some (.int (o.many : Int)), some (vN o.later), y] ∧ Ex H H3 ∧ H3 l = some (.lst zs) ∧ ImL H3 ((done ++ (List.range i).map (mvAt o j)).map pyMv) zs) ⟨xs, e, rfl, e2, hl2, by simpa using hxs⟩ (fun i σ' H3 hi p => ?_) (fun σ' H3 p => ?_)
      · obtain ⟨zs, y, rfl, e3, hl3, hzs⟩ := p
        walk_at "rd"
        refine tyL hl3 ?_
        walk_at "rd"
        have hlen : zs.length ≤ 32 := by
          have h1 : (movesOf os k).length ≤ 8 * os.length := moves_len g _ _
          have h2 : (movesOf os k).length = done.length + (movesO os (some j)).length := by rw [← hd, List.length_append]
          rw [movesO_some g ho, List.length_append, movesOne_len] at h2
          rw [hzs.length, List.length_map, List.length_append, List.length_map, List.length_range]
          omega
        have nx : ∀ (H5 : Hp) (p : Addr) (v : V), v = vN (if i + 1 = o.many then some j else none) → Ex H H5 → H5 p = some (.tup [.int ((o.src : Int) + (i : Int)), .int ((o.dst : Int) + (i : Int)), v]) → H5 l = some (.lst (zs ++ [.ref p])) → Kp H3 H5 →
            ∃ (zs : List V) (y : Option V), [some x, some (.int (j : Int)), some (.ref l), some (.int (o.src : Int)), some (.int (o.dst : Int)), some (.int (o.many : Int)), some (vN o.later), some (.int (i : Int))] = [some x, some (.int (j : Int)), some (.ref l), some (.int (o.src : Int)), some (.int (o.dst : Int)), some (.int (o.many : Int)), some (vN o.later), y] ∧ Ex H H5 ∧ H5 l = some (.lst zs) ∧ ImL H5 ((done ++ (List.range (i + 1)).map (mvAt o j)).map pyMv) zs := by
          intro H5 p v ev e5 hp hl5 k5
          refine ⟨zs ++ [.ref p], _, rfl, e5, hl5, ?_⟩
          rw [show done ++ (List.range (i + 1)).map (mvAt o j) = (done ++ (List.range i).map (mvAt o j)) ++ [mvAt o j i] by simp [List.range_succ], List.map_append (f := pyMv)]
          refine (hzs.kp k5).append (iml_cons (im_tup hp (iml_cons ?_ (iml_cons ?_ (iml_cons ?_ iml_nil)))) iml_nil)
          · rw [Im.int_iff]
            simp [mvAt]
          · rw [Im.int_iff]
            simp [mvAt]
          · rw [ev]
            exact im_opt.mpr rfl
        refine st_newL (by simp) fun pl H4 np4 e4 hpl => ?_
        walk_at "rd"
        refine st_ixL (v := vN (if i + 1 = o.many then some j else none)) hpl ?_ ?_
        · by_cases hh : i + 1 = o.many
          · rw [decide_eq_true (by omega : (i : Int) + 1 = (o.many : Int)), if_pos hh]
            exact atI_nat (j := 1) rfl
          · rw [decide_eq_false (by omega : ¬ (i : Int) + 1 = (o.many : Int)), if_neg hh]
            exact atI_nat (j := 0) rfl
        walk_at "rd"
        refine st_newT (by simp) fun p H5 np e5 hp => ?_
        walk_at "rd"
        have hl5 := e5 l _ (e4 l _ hl3)
        refine st_app hl5 (sz_lt (by omega)) fun H6 f6 k6 hl6 => ?_
        walk_at "rd"
        exact nx H6 p _ rfl (Fr.ex ((e3.trans e4).trans e5) (fun a ha => by rw [List.mem_singleton.mp ha]; exact nl) f6) (k6 _ _ hp) hl6 ((e4.kp.trans e5.kp).trans k6)
      · obtain ⟨zs, y, rfl, e3, hl3, hzs⟩ := p
        walk_at "rd"
        have hm' : m = os.length - j := hm
        refine ⟨match o.later with | none => 0 | some l => os.length - l, ?_, o.later, done ++ movesOne o j, zs, _, _, _, _, _, rfl, e3, hl3, ?_, ?_, fun l' hl' => (b5 l' hl').2, rfl⟩
        · rw [hm']
          cases e : o.later with
          | none =>
            show 0 < os.length - j
            omega
          | some l' =>
            have := b5 l' e
            show os.length - l' < os.length - j
            omega
        · exact hzs
        · rw [List.append_assoc, ← movesO_some g ho]
          exact hd
/-! ### _law_plain -/
theorem sc__law_plain : FnScope ["_law_board_here", "_law_memory", "_law_told", "_law_deed_here", "_law_source", "_law_goal", "_law_bell"] ["_law_board_here"] (defScope s__law_plain) := ⟨rfl, rfl, rfl, by decide +kernel, rfl, by decide +kernel, by decide +kernel⟩
def sp_law_plain : Sp := fun vs H Q _ => ∃ (x : V) (b : Bd), vs = [x] ∧ Im H (pyB b.raw) x ∧ Good b ∧ ∀ t ml rl fl sl H', Ex H H' → H ml = none → H rl = none → H fl = none → H sl = none → H' t = some (.tup [.ref sl, .ref ml, .ref rl, .ref fl]) → PlainL H' ml rl fl sl (plainOf b) → Q (.ref t) H'
theorem cal_law_plain {P w base K mg c} (T : Txt K mg c) : Cal CX0 P w K mg base 2 "_law_plain" sp_law_plain := by
  obtain ⟨f, fd, F, m⟩ := T.F__law_plain
  have c__law_moves := cal_law_moves (P := P) (w := w) (base := base) T
  refine cal_of F m (fun _ _ _ _ _ _ us hl => match us, hl with | [_], _ => rfl) sc__law_plain (fun vs H Q E h => ?_) (fun cdv A outer s H vs Q E hr h => ?_)
  · obtain ⟨x, b, rfl, _⟩ := h
    rfl
  · obtain ⟨x, b, rfl, hx, g, q⟩ := h
    refine ⟨_, (pss_cons (ps_set (i := 1) sc__law_plain.nd rfl (.inl rfl) (pe_callTy c_list (by rfl) T.list (by decide +kernel) (pa_cons (pe_ix ix_tup (pv 0) pe_int (fun _ _ => rfl)) pa_nil)))
      (pss_cons (ps_set (i := 2) sc__law_plain.nd rfl (.inl rfl) (pe_tup (pa_cons (pe_lst pa_nil) (pa_cons (pv 1) (pa_cons (pe_lst pa_nil) (pa_cons (pe_lst pa_nil) pa_nil))))))
      (pss_cons (ps_for PassesOwn.never rfl (pi_tup (pe_ix ix_tup (pv 0) pe_int (fun _ _ => rfl))) (pg_name (i := 3) sc__law_plain.nd rfl (.inl rfl))
      (pss_cons (ps_if (pt_cmpR op_eq (pe_ix ix_tup (pv 3) pe_int (fun _ _ => rfl)) pe_str (nomark _)) (pss_one (ps_asg (pe_ix ix_tup (pv 3) pe_int (fun _ _ => rfl)) (pg_sub (pv 1) (pe_ix ix_tup (pv 3) pe_int (fun _ _ => rfl)) set_list))) pss_nil)
      (pss_cons (ps_if (pt_cmpR op_in_seq (pe_ix ix_tup (pv 3) pe_int (fun _ _ => rfl)) (pe_tup (pa_cons pe_str (pa_cons pe_str pa_nil))) (by rfl)) (pss_one (ps_expr (pe_bm PySem.F.plainAttrs_list PySem.F.slot_list_append PySem.F.type_list_append mt_append (pe_ix ix_tup (pv 2) pe_int (fun _ _ => rfl)) (pa_cons (pe_tup (pa_cons (pe_ix ix_tup (pv 3) pe_int (fun _ _ => rfl)) (pa_cons (pe_ix ix_list (pv 1) (pe_ix ix_tup (pv 3) pe_int (fun _ _ => rfl)) (fun _ _ => rfl)) pa_nil))) pa_nil)))) pss_nil)
      (pss_cons (ps_if (pt_cmpR op_eq (pe_ix ix_tup (pv 3) pe_int (fun _ _ => rfl)) pe_str (nomark _)) (pss_one (ps_expr (pe_bm PySem.F.plainAttrs_list PySem.F.slot_list_append PySem.F.type_list_append mt_append (pe_ix ix_tup (pv 2) pe_int (fun _ _ => rfl)) (pa_cons (pe_ix ix_list (pv 1) (pe_ix ix_tup (pv 3) pe_int (fun _ _ => rfl)) (fun _ _ => rfl)) pa_nil)))) pss_nil)
      (pss_cons (ps_if (pt_cmpR op_eq (pe_ix ix_tup (pv 3) pe_int (fun _ _ => rfl)) pe_str (nomark _)) (pss_cons (ps_expr (pe_bm PySem.F.plainAttrs_list PySem.F.slot_list_append PySem.F.type_list_append mt_append (pe_ix ix_tup (pv 2) pe_int (fun _ _ => rfl)) (pa_cons (pe_tup (pa_cons (pe_ix ix_tup (pv 3) pe_int (fun _ _ => rfl)) (pa_cons (pe_ix ix_list (pv 1) (pe_ix ix_tup (pv 3) pe_int (fun _ _ => rfl)) (fun _ _ => rfl)) pa_nil))) pa_nil)))
      (pss_one (ps_asg (pe_op op_mod (pe_op op_add (pe_ix ix_list (pv 1) (pe_ix ix_tup (pv 3) pe_int (fun _ _ => rfl)) (fun _ _ => rfl)) (pe_ix ix_list (pv 1) (pe_ix ix_tup (pv 3) pe_int (fun _ _ => rfl)) (fun _ _ => rfl))) pe_int) (pg_sub (pv 1) (pe_ix ix_tup (pv 3) pe_int (fun _ _ => rfl)) set_list)))) pss_nil)
      (pss_one (ps_if (pt_cmpR op_eq (pe_ix ix_tup (pv 3) pe_int (fun _ _ => rfl)) pe_str (nomark _)) (pss_one (ps_for PassesOwn.never rfl (pi_list (pe_c c__law_moves hr (by decide) (by rfl) (pa_cons (pe_ix ix_tup (pv 0) pe_int (fun _ _ => rfl)) (pa_cons (pe_ix ix_tup (pv 3) pe_int (fun _ _ => rfl)) pa_nil)))) (pg_tup (n := 3) rfl (pgs_cons (pg_name (i := 4) sc__law_plain.nd rfl (.inl rfl)) (pgs_cons (pg_name (i := 5) sc__law_plain.nd rfl (.inl rfl)) (pgs_cons (pg_name (i := 6) sc__law_plain.nd rfl (.inl rfl)) pgs_nil))))
      (pss_cons (ps_expr (pe_bm PySem.F.plainAttrs_list PySem.F.slot_list_append PySem.F.type_list_append mt_append (pe_ix ix_tup (pv 2) pe_int (fun _ _ => rfl)) (pa_cons (pe_tup (pa_cons (pv 4) (pa_cons (pe_ix ix_list (pv 1) (pv 4) (fun _ _ => rfl)) pa_nil))) pa_nil)))
      (pss_one (ps_asg (pe_ix ix_list (pv 1) (pv 4) (fun _ _ => rfl)) (pg_sub (pv 1) (pv 5) set_list)))))) pss_nil)))))))
      (pss_one (ps_ret (pv 2)))))), ?_⟩
    walk_at "rd"
    refine st_ixT hx (Kp.refl _) (atI_nat (j := 0) rfl) fun vm hm => ?_
    walk_at "rd"
    refine st_listT hm (Kp.refl _) fun ml xm H1 n1 e1 i1 h1 => ?_
    have em : xm = b.mem.map V.int := ImL.ints.mp i1
    subst em
    walk_at "rd"
    refine st_newL (by simp) fun sl H2 n2 e2 h2 => ?_
    walk_at "rd"
    refine st_newL (by simp) fun rl H3 n3 e3 h3 => ?_
    walk_at "rd"
    refine st_newL (by simp) fun fl H4 n4 e4 h4 => ?_
    walk_at "rd"
    refine st_newT (by simp) fun t H5 n5 e5 h5 => ?_
    walk_at "rd"
    have m5 : H5 ml = _ := e5 _ _ (e4 _ _ (e3 _ _ (e2 _ _ h1)))
    have s5 : H5 sl = _ := e5 _ _ (e4 _ _ (e3 _ _ h2))
    have r5 : H5 rl = _ := e5 _ _ (e4 _ _ h3)
    have f5 : H5 fl = _ := e5 _ _ h4
    have nd : [ml, rl, fl, sl].Nodup := by
      have a1 : ml ≠ sl := fun z => by rw [← z, h1] at n2; cases n2
      have a2 : ml ≠ rl := fun z => by rw [← z, e2 _ _ h1] at n3; cases n3
      have a3 : ml ≠ fl := fun z => by rw [← z, e3 _ _ (e2 _ _ h1)] at n4; cases n4
      have a4 : sl ≠ rl := fun z => by rw [← z, h2] at n3; cases n3
      have a5 : sl ≠ fl := fun z => by rw [← z, e3 _ _ h2] at n4; cases n4
      have a6 : rl ≠ fl := fun z => by rw [← z, h3] at n4; cases n4
      simp [a1, a2, a3, a4.symm, a5.symm, a6]
    have E5 : Ex H H5 := (((e1.trans e2).trans e3).trans e4).trans e5
    have z2 : H sl = none := e1.free n2
    have z3 : H rl = none := (e1.trans e2).free n3
    have z4 : H fl = none := ((e1.trans e2).trans e3).free n4
    have S5 : PlainL H5 ml rl fl sl (PS.init b.mem) := ⟨m5, ⟨[], r5, iml_nil⟩, ⟨[], f5, iml_nil⟩, s5, nd⟩
    have inP : ∀ a ∈ [ml, rl, fl, sl], H a = none := by
      intro a ha
      simp only [List.mem_cons, List.not_mem_nil, or_false] at ha
      rcases ha with rfl | rfl | rfl | rfl <;> assumption
    refine st_ixT hx E5.kp (atI_nat (j := 2) rfl) fun vp hvp => ?_
    refine st_walkT hvp (Kp.refl _) (fun i σ H' => ∃ y1 y2 y3 y4, σ = [some x, some (.ref ml), some (.ref t), y1, y2, y3, y4] ∧ Ex H H' ∧ Kp H5 H' ∧ PlainL H' ml rl fl sl ((b.prog.take i).foldl (PS.deed b.ords) (PS.init b.mem))) ⟨none, none, none, none, rfl, E5, Kp.refl _, S5⟩ (fun i σ H' hP => ?_) (fun i d v σ H' hd hP hv => ?_) (fun σ H' hP => ?_)
    · obtain ⟨_, _, _, _, _, _, k, _⟩ := hP
      exact k
    · obtain ⟨y1, y2, y3, y4, rfl, e6, k6, S⟩ := hP
      obtain ⟨rd, g1, rfl⟩ := map_at' hd
      obtain ⟨d, g2, rfl⟩ := map_at' g1
      have hi : i < b.prog.length := (List.getElem?_eq_some_iff.mp g2).1
      have h60 := g.len
      have hml : ((b.prog.take i).foldl (PS.deed b.ords) (PS.init b.mem)).mem.length = b.mem.length := plain_mem_len _ _ _
      have hsm : ((b.prog.take i).foldl (PS.deed b.ords) (PS.init b.mem)).Small 60 := by
        have := plain_small g.ordsOk g.ords (b.prog.take i) 0 (PS.init b.mem) ⟨by simp [PS.init], by simp [PS.init], by simp [PS.init]⟩
        rw [List.length_take, show 0 + min i b.prog.length = i by omega] at this
        exact ⟨Nat.le_trans this.r (by omega), Nat.le_trans this.f (by omega), Nat.le_trans this.s (by omega)⟩
      have ht : (b.prog.take (i + 1)).foldl (PS.deed b.ords) (PS.init b.mem) = PS.deed b.ords ((b.prog.take i).foldl (PS.deed b.ords) (PS.init b.mem)) d := by
        rw [List.take_add_one, g2]
        show (b.prog.take i ++ [d]).foldl (PS.deed b.ords) (PS.init b.mem) = _
        rw [List.foldl_append]
        rfl
      simp only [ht]
      have dok := g.deeds d (List.mem_of_getElem? g2)
      generalize ((b.prog.take i).foldl (PS.deed b.ords) (PS.init b.mem)) = S0 at S hml hsm
      rw [← hml] at dok
      have hsr := hsm.r
      have hsf := hsm.f
      have hss := hsm.s
      have ht5 : H' t = some (.tup [.ref sl, .ref ml, .ref rl, .ref fl]) := k6 _ _ h5
      have exF : ∀ {Ha Hb : Hp} {a : Addr}, Ex H Ha → a ∈ [ml, rl, fl, sl] → Fr [a] Ha Hb → Ex H Hb := fun {Ha Hb a} e ha f => Fr.ex e (fun z hz => by rw [List.mem_singleton.mp hz]; exact inP a ha) f
      have ixt : ∀ {Ha : Hp} {j : Nat} {v' : V} {Q' : VK}, Ha t = some (.tup [.ref sl, .ref ml, .ref rl, .ref fl]) → [V.ref sl, .ref ml, .ref rl, .ref fl][j]? = some v' → Q' v' Ha → rIxT K (.ref t) (.int (j : Int)) Ha Q' := fun {Ha j v' Q'} h1 h2 h3 => ⟨t, _, _, v', rfl, rfl, SqT.of h1, atI_nat h2, h3⟩
      cases d with
      | set a k =>
        obtain ⟨d1, d2⟩ : a < S0.mem.length ∧ k ≤ 9 := dok
        repeat (first | walk_at "rd1" | refine st_ixT_str hv (by walk_at "kp") (atI_nat (j := 0) rfl) ?_)
        refine st_ixT_int hv (Kp.refl _) (atI_nat (j := 2) rfl) ?_
        walk_at "rd"
        refine st_ixT_int hv (Kp.refl _) (atI_nat (j := 1) rfl) ?_
        refine st_setI S.me (by rw [List.length_map]; exact d1) fun H6 f6 k7 h6 => ?_
        have hv6 := hv.kp k7
        repeat (first | walk_at "rd1" | refine st_ixT_str hv6 (by walk_at "kp") (atI_nat (j := 0) rfl) ?_)
        refine st_newT (by simp) fun p1 H7 np7 e7 hp7 => ?_
        refine st_in2 hp7 ?_
        have hv7 := hv6.ex e7
        repeat (first | walk_at "rd1" | refine st_ixT_str hv7 (by walk_at "kp") (atI_nat (j := 0) rfl) ?_)
        exact ⟨_, _, _, _, rfl, (exF e6 (by simp) f6).trans e7, (k6.trans k7).trans e7.kp, (S.setMem f6 k7 h6).ex e7⟩
      | add a o =>
        obtain ⟨d1, d2⟩ : a < S0.mem.length ∧ o < S0.mem.length := dok
        repeat (first | walk_at "rd1" | refine st_ixT_str hv (by walk_at "kp") (atI_nat (j := 0) rfl) ?_)
        refine st_newT (by simp) fun p1 H7 np7 e7 hp7 => ?_
        refine st_in2 hp7 ?_
        have hv7 := hv.ex e7
        have S7 := S.ex e7
        obtain ⟨xr, hre, ire⟩ := S7.re
        walk_at "rd"
        refine ixt (j := 2) (e7 _ _ ht5) rfl ?_
        refine tyL hre ?_
        walk_at "rd"
        refine st_ixT_int hv7 (Kp.refl _) (atI_nat (j := 1) rfl) ?_
        walk_at "rd"
        refine st_ixT_int hv7 (Kp.refl _) (atI_nat (j := 1) rfl) ?_
        refine st_ixLI S7.me (atI_nat (getD_at d1)) ?_
        walk_at "rd"
        refine st_newT (by simp) fun p2 H8 np8 e8 hp8 => ?_
        walk_at "rd"
        refine st_app (e8 _ _ hre) (sz_lt (by rw [ire.length, List.length_map]; omega)) fun H9 f9 k9 h9 => ?_
        have S9 : PlainL H9 ml rl fl sl (S0.look a) := (S7.ex e8).addRead (e8 _ _ hre) (ire.ex e8) f9 k9 h9 (k9 _ _ hp8)
        have hv9 := (hv7.ex e8).kp k9
        have t9 : H9 t = _ := k9 _ _ (e8 _ _ (e7 _ _ ht5))
        have E9 := exF ((e6.trans e7).trans e8) (by simp) f9
        repeat (first | walk_at "rd1" | refine st_ixT_str hv9 (by walk_at "kp") (atI_nat (j := 0) rfl) ?_)
        obtain ⟨xr2, hre2, ire2⟩ := S9.re
        refine ixt (j := 2) t9 rfl ?_
        refine tyL hre2 ?_
        walk_at "rd"
        refine st_ixT_int hv9 (Kp.refl _) (atI_nat (j := 2) rfl) ?_
        walk_at "rd"
        refine st_ixT_int hv9 (Kp.refl _) (atI_nat (j := 2) rfl) ?_
        refine st_ixLI S9.me (atI_nat (getD_at (c := o) d2)) ?_
        walk_at "rd"
        refine st_newT (by simp) fun p3 H10 np10 e10 hp10 => ?_
        walk_at "rd"
        refine st_app (e10 _ _ hre2) (sz_lt (by rw [ire2.length, List.length_map]; simp [PS.look]; omega)) fun H11 f11 k11 h11 => ?_
        have S11 : PlainL H11 ml rl fl sl ((S0.look a).look o) := (S9.ex e10).addRead (e10 _ _ hre2) (ire2.ex e10) f11 k11 h11 (k11 _ _ hp10)
        have hv11 := (hv9.ex e10).kp k11
        have E11 := exF (E9.trans e10) (by simp) f11
        walk_at "rd"
        refine st_ixT_int hv11 (Kp.refl _) (atI_nat (j := 1) rfl) ?_
        refine st_ixLI S11.me (atI_nat (getD_at (c := a) d1)) ?_
        walk_at "rd"
        refine st_ixT_int hv11 (Kp.refl _) (atI_nat (j := 2) rfl) ?_
        refine st_ixLI S11.me (atI_nat (getD_at (c := o) d2)) ?_
        walk_at "rd"
        refine st_ixT_int hv11 (Kp.refl _) (atI_nat (j := 1) rfl) ?_
        refine st_setI S11.me (by rw [List.length_map]; exact d1) fun H12 f12 k12 h12 => ?_
        have hv12 := hv11.kp k12
        repeat (first | walk_at "rd1" | refine st_ixT_str hv12 (by walk_at "kp") (atI_nat (j := 0) rfl) ?_)
        exact ⟨_, _, _, _, rfl, exF E11 (by simp) f12, (((((k6.trans e7.kp).trans e8.kp).trans k9).trans e10.kp).trans k11).trans k12, S11.setMem f12 k12 h12⟩
      | say a =>
        have d1 : a < S0.mem.length := dok
        repeat (first | walk_at "rd1" | refine st_ixT_str hv (by walk_at "kp") (atI_nat (j := 0) rfl) ?_)
        refine st_newT (by simp) fun p1 H7 np7 e7 hp7 => ?_
        refine st_in2 hp7 ?_
        have hv7 := hv.ex e7
        have S7 := S.ex e7
        obtain ⟨xr, hre, ire⟩ := S7.re
        walk_at "rd"
        refine ixt (j := 2) (e7 _ _ ht5) rfl ?_
        refine tyL hre ?_
        walk_at "rd"
        refine st_ixT_int hv7 (Kp.refl _) (atI_nat (j := 1) rfl) ?_
        walk_at "rd"
        refine st_ixT_int hv7 (Kp.refl _) (atI_nat (j := 1) rfl) ?_
        refine st_ixLI S7.me (atI_nat (getD_at d1)) ?_
        walk_at "rd"
        refine st_newT (by simp) fun p2 H8 np8 e8 hp8 => ?_
        walk_at "rd"
        refine st_app (e8 _ _ hre) (sz_lt (by rw [ire.length, List.length_map]; omega)) fun H9 f9 k9 h9 => ?_
        have S9 : PlainL H9 ml rl fl sl (S0.look a) := (S7.ex e8).addRead (e8 _ _ hre) (ire.ex e8) f9 k9 h9 (k9 _ _ hp8)
        have hv9 := (hv7.ex e8).kp k9
        have t9 : H9 t = _ := k9 _ _ (e8 _ _ (e7 _ _ ht5))
        have E9 := exF ((e6.trans e7).trans e8) (by simp) f9
        repeat (first | walk_at "rd1" | refine st_ixT_str hv9 (by walk_at "kp") (atI_nat (j := 0) rfl) ?_)
        refine ixt (j := 0) t9 rfl ?_
        refine tyL S9.sa ?_
        walk_at "rd"
        refine st_ixT_int hv9 (Kp.refl _) (atI_nat (j := 1) rfl) ?_
        refine st_ixLI S9.me (atI_nat (getD_at (c := a) d1)) ?_
        walk_at "rd"
        refine st_app S9.sa (sz_lt (by rw [List.length_map]; show S0.said.length < _; omega)) fun H10 f10 k10 h10 => ?_
        have hv10 := hv9.kp k10
        repeat (first | walk_at "rd1" | refine st_ixT_str hv10 (by walk_at "kp") (atI_nat (j := 0) rfl) ?_)
        exact ⟨_, _, _, _, rfl, exF E9 (by simp) f10, (((k6.trans e7.kp).trans e8.kp).trans k9).trans k10, S9.addSaid f10 k10 h10⟩
      | start k =>
        have d1 : k < b.ords.length := dok
        repeat (first | walk_at "rd1" | refine st_ixT_str hv (by walk_at "kp") (atI_nat (j := 0) rfl) ?_)
        refine st_newT (by simp) fun p1 H7 np7 e7 hp7 => ?_
        refine st_in2 hp7 ?_
        have hv7 := hv.ex e7
        have S7 := S.ex e7
        repeat (first | walk_at "rd1" | refine st_ixT_str hv7 (by walk_at "kp") (atI_nat (j := 0) rfl) ?_)
        refine st_ixT hx (e6.trans e7).kp (atI_nat (j := 1) rfl) fun vo hvo => ?_
        walk_at "rd"
        refine st_ixT_int hv7 (Kp.refl _) (atI_nat (j := 1) rfl) ?_
        walk_at "rd"
        have gO : OrdsOk S0.mem.length b.ords := by rw [hml]; exact g.ordsOk
        refine ⟨vo, S0.mem.length, b.ords, k, rfl, hvo, gO, g.ords, d1, fun l H8 hl => ?_⟩
        obtain ⟨nl, e8, xs, hxs, ix⟩ := hl
        have hlen : (movesOf b.ords k).length ≤ 8 * b.ords.length := moves_len gO _ _
        have ho4 := g.ords
        have hxl : xs.length = (movesOf b.ords k).length := by rw [ix.length, List.length_map]
        refine st_walkL hxs (fun i σ Hx => ∃ z1 z2 z3, σ = [some x, some (.ref ml), some (.ref t), some v, z1, z2, z3] ∧ Ex H Hx ∧ Kp H8 Hx ∧ Hx l = some (.lst xs) ∧ PlainL Hx ml rl fl sl (((movesOf b.ords k).take i).foldl PS.move S0)) ⟨_, _, _, rfl, (e6.trans e7).trans e8, Kp.refl _, hxs, S7.ex e8⟩ (fun i σ Hx hp => ?_) (fun i v' σ Hx hv' hp => ?_) (fun σ Hx hp => ?_)
        · obtain ⟨_, _, _, _, _, _, h, _⟩ := hp
          exact h
        · obtain ⟨z1, z2, z3, rfl, ex9, k9, hl9, S9⟩ := hp
          obtain ⟨pd, g3, hm3⟩ := ix.get' hv'
          obtain ⟨mv, g4, rfl⟩ := map_at' g3
          obtain ⟨b1, b2⟩ := moves_in gO _ _ mv (List.mem_of_getElem? g4)
          refine st_gtup hm3 k9 rfl fun ys hys => ?_
          obtain ⟨v1, ys, rfl, i1, hys⟩ := hys.cons_inv
          obtain ⟨v2, ys, rfl, i2, hys⟩ := hys.cons_inv
          obtain ⟨v3, ys, rfl, i3, hys⟩ := hys.cons_inv
          cases hys.nil_inv
          cases Im.int_iff.mp i1
          cases Im.int_iff.mp i2
          have hmem : (((movesOf b.ords k).take i).foldl PS.move S0).mem.length = S0.mem.length := (move_sizes _ S0).2.2.2
          have hfet : (((movesOf b.ords k).take i).foldl PS.move S0).fetches.length ≤ S0.fetches.length + 32 := by
            rw [(move_sizes _ S0).2.2.1, List.length_take]
            omega
          generalize eS : ((movesOf b.ords k).take i).foldl PS.move S0 = S2 at S9 hmem hfet
          have eS' : ((movesOf b.ords k).take (i + 1)).foldl PS.move S0 = S2.move mv := by
            rw [List.take_add_one, g4]
            show ((movesOf b.ords k).take i ++ [mv]).foldl PS.move S0 = S2.move mv
            rw [List.foldl_append, eS]
            rfl
          rw [eS']
          have t9 : Hx t = _ := k9 _ _ (e8 _ _ (e7 _ _ ht5))
          obtain ⟨xf, hfe, ife⟩ := S9.fe
          walk_at "rd"
          refine ixt (j := 3) t9 rfl ?_
          refine tyL hfe ?_
          walk_at "rd"
          refine st_ixLI S9.me (atI_nat (getD_at (c := mv.src) (by omega))) ?_
          walk_at "rd"
          refine st_newT (by simp) fun p2 H10 np10 e10 hp10 => ?_
          walk_at "rd"
          refine st_app (e10 _ _ hfe) (sz_lt (by rw [ife.length, List.length_map]; omega)) fun H11 f11 k11 h11 => ?_
          have S11 := (S9.ex e10).addFetch (e10 _ _ hfe) (ife.ex e10) f11 k11 h11 (k11 _ _ hp10)
          walk_at "rd"
          refine st_ixLI S11.me (atI_nat (getD_at (c := mv.src) (by show mv.src < S2.mem.length; omega))) ?_
          walk_at "rd"
          refine st_setI S11.me (by rw [List.length_map]; show mv.dst < S2.mem.length; omega) fun H12 f12 k12 h12 => ?_
          have nlF : ∀ a ∈ [ml, rl, fl, sl], l ≠ a := by
            intro a ha z
            subst z
            have h7 : ∃ o, H7 l = some o := by
              simp only [List.mem_cons, List.not_mem_nil, or_false] at ha
              obtain ⟨_, r1, _⟩ := S7.re
              obtain ⟨_, r2, _⟩ := S7.fe
              rcases ha with z | z | z | z
              · rw [z, S7.me]; exact ⟨_, rfl⟩
              · rw [z, r1]; exact ⟨_, rfl⟩
              · rw [z, r2]; exact ⟨_, rfl⟩
              · rw [z, S7.sa]; exact ⟨_, rfl⟩
            obtain ⟨o, h7⟩ := h7
            rw [h7] at nl
            cases nl
          refine ⟨_, _, _, rfl, exF (exF (ex9.trans e10) (by simp) f11) (by simp) f12, ((k9.trans e10.kp).trans k11).trans k12, ?_, S11.setMem f12 k12 h12⟩
          exact fr1 f12 (fr1 f11 (e10 _ _ hl9) (nlF fl (by simp))) (nlF ml (by simp))
        · obtain ⟨z1, z2, z3, rfl, ex9, k9, hl9, S9⟩ := hp
          rw [hxl, List.take_length] at S9
          exact ⟨_, _, _, _, rfl, ex9, ((k6.trans e7.kp).trans e8.kp).trans k9, S9⟩
      | wait =>
        repeat (first | walk_at "rd1" | refine st_ixT_str hv (by walk_at "kp") (atI_nat (j := 0) rfl) ?_)
        refine st_newT (by simp) fun p1 H7 np7 e7 hp7 => ?_
        refine st_in2 hp7 ?_
        have hv7 := hv.ex e7
        repeat (first | walk_at "rd1" | refine st_ixT_str hv7 (by walk_at "kp") (atI_nat (j := 0) rfl) ?_)
        exact ⟨_, _, _, _, rfl, e6.trans e7, k6.trans e7.kp, S.ex e7⟩
      | clean a =>
        repeat (first | walk_at "rd1" | refine st_ixT_str hv (by walk_at "kp") (atI_nat (j := 0) rfl) ?_)
        refine st_newT (by simp) fun p1 H7 np7 e7 hp7 => ?_
        refine st_in2 hp7 ?_
        have hv7 := hv.ex e7
        repeat (first | walk_at "rd1" | refine st_ixT_str hv7 (by walk_at "kp") (atI_nat (j := 0) rfl) ?_)
        exact ⟨_, _, _, _, rfl, e6.trans e7, k6.trans e7.kp, S.ex e7⟩
      | drop a =>
        repeat (first | walk_at "rd1" | refine st_ixT_str hv (by walk_at "kp") (atI_nat (j := 0) rfl) ?_)
        refine st_newT (by simp) fun p1 H7 np7 e7 hp7 => ?_
        refine st_in2 hp7 ?_
        have hv7 := hv.ex e7
        repeat (first | walk_at "rd1" | refine st_ixT_str hv7 (by walk_at "kp") (atI_nat (j := 0) rfl) ?_)
        exact ⟨_, _, _, _, rfl, e6.trans e7, k6.trans e7.kp, S.ex e7⟩
    · obtain ⟨y1, y2, y3, y4, rfl, e6, k6, S⟩ := hP
      simp only [List.length_map, List.take_length] at S
      walk_at "rd"
      exact q t ml rl fl sl H' e6 n1 z3 z4 z2 (k6 _ _ h5) S
/-! ### _law_kinds -/
theorem sc__law_kinds : FnScope [] [] (defScope s__law_kinds) := ⟨rfl, rfl, rfl, by decide +kernel, rfl, by decide +kernel, by decide +kernel⟩
def kindsAll : List Str := ["set", "set", "add", "say", "say", "start", "start", "wait", "clean", "drop"]
def sp_law_kinds : Sp := fun vs H Q _ => vs = [] ∧ ∀ k H', H k = none → Ex H H' → H' k = some (.lst (kindsAll.map V.str)) → Q (.ref k) H'
theorem cal_law_kinds {P w base K mg c} (T : Txt K mg c) : Cal CX0 P w K mg base 1 "_law_kinds" sp_law_kinds := by
  obtain ⟨f, fd, F, m⟩ := T.F__law_kinds
  refine cal_of F m (fun _ _ _ _ _ _ us hl => match us, hl with | [], _ => rfl) sc__law_kinds (fun vs H Q E h => ?_) (fun cdv A outer s H vs Q E hr h => ?_)
  · obtain ⟨rfl, _⟩ := h
    rfl
  · obtain ⟨rfl, q⟩ := h
    refine ⟨_, (pss_one (ps_ret (pe_lst (pa_cons pe_str (pa_cons pe_str (pa_cons pe_str (pa_cons pe_str (pa_cons pe_str (pa_cons pe_str (pa_cons pe_str (pa_cons pe_str (pa_cons pe_str (pa_cons pe_str pa_nil))))))))))))), ?_⟩
    walk_at "rd"
    refine st_newL (by simp) fun k H1 nk e1 hk => ?_
    exact q k H1 nk e1 hk
/-! ### the law -/
theorem sc_law : FnScope ["_law_script", "_law_box", "_law_turn", "_law_board_here", "_law_said", "_law_memory", "_law_reads", "_law_fetches", "_law_again", "_law_found"] ["_law_script"] (defScope s_law) := ⟨rfl, rfl, rfl, by decide +kernel, rfl, by decide +kernel, by decide +kernel⟩
def sp_law (K : PySem.W.Frag) : Sp := fun vs H Q _ => ∃ (a : Addr) (ns : List Int), vs = [.ref a] ∧ SqL K H a (ns.map V.int) ∧ ns.length ≤ 63 ∧ ∀ H', Q (.bl true) H'
theorem al_seen {ss : List (Nat × Int)} : ∀ d ∈ ss.map pySeen, Al 1 d := fun d hd => by
  obtain ⟨s, _, rfl⟩ := List.mem_map.mp hd
  refine al_tup (by simp) ?_
  intro e he
  simp only [List.mem_cons, List.not_mem_nil, or_false] at he
  rcases he with rfl | rfl <;> exact al_int
theorem ok_law {P w base K mg c f fd} (T : Txt K mg c) (F : Fun K "law" "law" s_law f fd) : FnOk P w K mg base CX0 13 f fd ["_law_script"] (sp_law K) := by
  have c__law_begun := cal_law_begun (P := P) (w := w) (base := base) T
  have c__law_take := cal_law_take (P := P) (w := w) (base := base) T
  have c__law_kinds := cal_law_kinds (P := P) (w := w) (base := base) T
  have c__law_board := cal_law_board (P := P) (w := w) (base := base) T
  have c__law_plain := cal_law_plain (P := P) (w := w) (base := base) T
  have c__law_alike := cal_law_alike (P := P) (w := w) (base := base) T 12
  have c_plain_end := cal_plain_end (P := P) (w := w) (base := base) T
  have c_sights := cal_sights (P := P) (w := w) (base := base) T
  refine F.ok sc_law (fun vs H Q E h => ?_) (fun cdv A outer s H vs Q E hr h => ?_)
  · obtain ⟨a, ns, rfl, _⟩ := h
    rfl
  · obtain ⟨a, ns, rfl, hS, hlen, q⟩ := h
    refine ⟨_, (pss_cons (ps_set (i := 1) sc_law.nd rfl (.inl rfl) (pe_c c__law_begun hr (by decide) (by rfl) (pa_cons (pv 0) pa_nil)))
      (pss_cons (ps_for PassesOwn.never rfl (pi_range1 rfl T.range (pa_cons pe_int pa_nil)) (pg_name (i := 2) sc_law.nd rfl (.inl rfl))
      (pss_cons (ps_set (i := 3) sc_law.nd rfl (.inl rfl) (pe_c c__law_board hr (by decide) (by rfl) (pa_cons (pv 1) (pa_cons pe_int (pa_cons (pe_ix ix_list (pe_lst (pa_cons pe_int (pa_cons pe_int pa_nil))) (pe_callTy c_int (by rfl) T.int (by decide +kernel) (pa_cons (pe_cmpR op_eq (pe_c c__law_take hr (by decide) (by rfl) (pa_cons (pv 1) (pa_cons pe_int pa_nil))) pe_int (nomark _)) pa_nil)) (fun _ _ => rfl)) (pa_cons (pe_c0 c__law_kinds hr (by decide) (by rfl)) pa_nil))))))
      (pss_cons (ps_asg (pe_c c__law_plain hr (by decide) (by rfl) (pa_cons (pv 3) pa_nil)) (pg_tup (n := 4) rfl (pgs_cons (pg_name (i := 4) sc_law.nd rfl (.inl rfl)) (pgs_cons (pg_name (i := 5) sc_law.nd rfl (.inl rfl)) (pgs_cons (pg_name (i := 6) sc_law.nd rfl (.inl rfl)) (pgs_cons (pg_name (i := 7) sc_law.nd rfl (.inl rfl)) pgs_nil))))))
      (pss_one (ps_for PassesOwn.never rfl (pi_range1 rfl T.range (pa_cons pe_int pa_nil)) (pg_name (i := 8) sc_law.nd rfl (.inl rfl))
      (pss_cons (ps_if (pt_not (pt_val (pe_c c__law_alike hr (by decide) (by rfl) (pa_cons (pe_c c_plain_end hr (by decide) (by rfl) (pa_cons (pv 3) pa_nil)) (pa_cons (pe_tup (pa_cons (pe_callTy c_tuple (by rfl) T.tuple (by decide +kernel) (pa_cons (pv 4) pa_nil)) (pa_cons (pe_callTy c_tuple (by rfl) T.tuple (by decide +kernel) (pa_cons (pv 5) pa_nil)) pa_nil))) pa_nil))))) (pss_one (ps_ret pe_bl)) pss_nil)
      (pss_cons (ps_set (i := 9) sc_law.nd rfl (.inl rfl) (pe_c c_sights hr (by decide) (by rfl) (pa_cons (pv 3) pa_nil)))
      (pss_cons (ps_if (pt_not (pt_val (pe_c c__law_alike hr (by decide) (by rfl) (pa_cons (pv 9) (pa_cons (pe_tup (pa_cons (pv 6) (pa_cons (pv 7) pa_nil))) pa_nil))))) (pss_one (ps_ret pe_bl)) pss_nil)
      (pss_cons (ps_expr (pe_bm PySem.F.plainAttrs_list PySem.F.slot_list_append PySem.F.type_list_append mt_append (pe_ix ix_tup (pv 9) pe_int (fun _ _ => rfl)) (pa_cons (pe_tup (pa_cons pe_int (pa_cons pe_int pa_nil))) pa_nil)))
      (pss_one (ps_expr (pe_bm0 PySem.F.plainAttrs_list PySem.F.slot_list_clear PySem.F.type_list_clear mt_clear (pe_ix ix_tup (pv 9) pe_int (fun _ _ => rfl))))))))))))))
      (pss_one (ps_ret pe_bl)))), ?_⟩
    walk_at "rd"
    refine ⟨a, ns, rfl, hS, fun b l H1 e1 nb nl hB => ?_⟩
    walk_at "rd"
    refine st_walkR (n := 2) (by decide) (fun i σ' H' => ∃ y1 y2 y3 y4 y5 y6 y7 y8, σ' = [some (.ref a), some (.ref b), y1, y2, y3, y4, y5, y6, y7, y8] ∧ BoxAt H' b l) ⟨_, _, _, _, _, _, _, _, rfl, hB⟩ (fun i σ' H2 hi hp => ?_) (fun σ' H' hp => ?_)
    · obtain ⟨y1, y2, y3, y4, y5, y6, y7, y8, rfl, hB2⟩ := hp
      walk_at "rd"
      refine st_newL (by simp) fun p H3 np e3 hp => ?_
      walk_at "rd"
      refine ⟨b, l, 8, rfl, hB2.ex e3, by decide, by decide, fun r H4 d4 r0 r1 => ?_⟩
      walk_at "rd"
      have npb : p ≠ b ∧ p ≠ l := by
        obtain ⟨_, h, _⟩ := hB2.box
        obtain ⟨_, h2⟩ := hB2.nums
        exact ⟨fun z => (by rw [z, h] at np; cases np), fun z => (by rw [z, h2] at np; cases np)⟩
      have hp4 : H4 p = some (.lst [.int 16, .int 60]) := d4.1 p _ hp (by simp; exact npb)
      refine st_ixL hp4 ix01 ?_
      obtain ⟨dn, hdn, edn⟩ : ∃ dn : Nat, dn ≤ 60 ∧ (if decide (r = 7) = true then V.int 60 else V.int 16) = .int (dn : Int) := by
        cases decide (r = 7) with
        | true => exact ⟨60, by omega, rfl⟩
        | false => exact ⟨16, by omega, rfl⟩
      rw [edn]
      walk_at "rd"
      refine ⟨rfl, fun kl H5 nk e5 hk => ?_⟩
      walk_at "rd"
      have nkb : kl ≠ b ∧ kl ≠ l := by
        obtain ⟨_, h, _⟩ := d4.2.2.box
        obtain ⟨_, h2⟩ := d4.2.2.nums
        exact ⟨fun z => (by rw [z, h] at nk; cases nk), fun z => (by rw [z, h2] at nk; cases nk)⟩
      refine ⟨b, l, kl, 4, dn, kindsAll, rfl, d4.2.2.ex e5, hk, nkb.1, nkb.2, by decide, by decide, by decide, by decide, by decide, hdn, fun bd v H6 d6 hD hv => ?_⟩
      have g := hD.good
      walk_at "rd"
      refine ⟨v, bd, rfl, hv, g, fun t ml rl fl sl H7 e7 n1 n2 n3 n4 ht S => ?_⟩
      refine st_gtup' ht rfl ?_
      walk_at "rd"
      have sm := plainOf_small g
      have hsr := sm.r
      have hsf := sm.f
      have hss := sm.s
      have hml : (plainOf bd).mem.length = bd.mem.length := plain_mem_len _ _ _
      have hm16 : bd.mem.length ≤ 19 := by
        have := g.lines
        omega
      have hv7 := hv.ex e7
      refine st_walkR (n := 2) (by decide) (fun i' σ' H' => ∃ z1 z2, σ' = [some (.ref a), some (.ref b), some (.int (i : Int)), some v, some (.ref sl), some (.ref ml), some (.ref rl), some (.ref fl), z1, z2] ∧ Ex H7 H') ⟨_, _, rfl, Ex.refl _⟩ (fun i' σ' H8 hi' hp' => ?_) (fun σ' H' hp' => ?_)
      · obtain ⟨z1, z2, rfl, e8⟩ := hp'
        walk_at "rd"
        refine ⟨v, bd, rfl, hv7.ex e8, g, fun ve H9 e9 hve => ?_⟩
        walk_at "rd"
        have S9 := S.ex (e8.trans e9)
        refine st_tupL S9.sa fun ts H10 n10 e10 h10 => ?_
        walk_at "rd"
        refine st_tupL (e10 _ _ S9.me) fun tm H11 n11 e11 h11 => ?_
        walk_at "rd"
        refine st_newT (by simp) fun t2 H12 n12 e12 h12 => ?_
        walk_at "rd"
        have hve12 : Im H12 (.tuple [pyMem (plainOf bd).said, pyMem (plainOf bd).mem]) ve := hve.ex ((e10.trans e11).trans e12)
        have ht2 : Im H12 (.tuple [pyMem (plainOf bd).said, pyMem (plainOf bd).mem]) (.ref t2) := im_tup h12 (iml_cons (im_ints (e12 _ _ (e11 _ _ h10))) (iml_cons (im_ints (e12 _ _ h11)) iml_nil))
        refine ⟨ve, .ref t2, _, rfl, hve12.dp _ _, ht2.dp _ _, ?_, ?_⟩
        · refine al_mono (n := 2) (by decide) (al_tup (by simp) ?_)
          intro e he
          simp only [List.mem_cons, List.not_mem_nil, or_false] at he
          rcases he with rfl | rfl
          · exact al_tup (by rw [List.length_map]; omega) al_ints
          · exact al_tup (by rw [List.length_map]; omega) al_ints
        walk_at "rd"
        have E12 := (((e8.trans e9).trans e10).trans e11).trans e12
        refine ⟨v, bd, rfl, hv7.ex E12, g, fun t3 rl3 fl3 H13 e13 nr3 nf3 nrf ht3 hr3 hf3 => ?_⟩
        obtain ⟨xr, hr3, ir3⟩ := hr3
        obtain ⟨xf, hf3, if3⟩ := hf3
        walk_at "rd"
        refine st_newT (by simp) fun t4 H14 n14 e14 h14 => ?_
        walk_at "rd"
        have S14 := S.ex (E12.trans (e13.trans e14))
        obtain ⟨xr4, hr4, ir4⟩ := S14.re
        obtain ⟨xf4, hf4, if4⟩ := S14.fe
        refine ⟨.ref t3, .ref t4, .tuple [.list ((plainOf bd).reads.map pySeen), .list ((plainOf bd).fetches.map pySeen)], rfl, .tup (SqT.of (e14 _ _ ht3)) (.cons (lst_dp (e14 _ _ hr3) (ir3.ex e14)) (.cons (lst_dp (e14 _ _ hf3) (if3.ex e14)) .nil)),
          .tup (SqT.of h14) (.cons (lst_dp hr4 ir4) (.cons (lst_dp hf4 if4) .nil)), ?_, ?_⟩
        · refine al_mono (n := 3) (by decide) (al_tup (by simp) ?_)
          intro e he
          simp only [List.mem_cons, List.not_mem_nil, or_false] at he
          rcases he with rfl | rfl
          · exact al_lst (by rw [List.length_map]; omega) al_seen
          · exact al_lst (by rw [List.length_map]; omega) al_seen
        walk_at "rd"
        refine ⟨t3, _, 0, .ref rl3, rfl, rfl, SqT.of (e14 _ _ ht3), atI_nat (j := 0) rfl, ?_⟩
        refine tyL (e14 _ _ hr3) ?_
        walk_at "rd"
        refine st_newT (by simp) fun t5 H15 n15 e15 h15 => ?_
        walk_at "rd"
        refine st_app (e15 _ _ (e14 _ _ hr3)) (sz_lt (by rw [ir3.length, List.length_map]; omega)) fun H16 f16 k16 h16 => ?_
        have hf16 : H16 fl3 = some (.lst xf) := fr1 f16 (e15 _ _ (e14 _ _ hf3)) (fun z => nrf z.symm)
        have ht16 : H16 t3 = _ := k16 _ _ (e15 _ _ (e14 _ _ ht3))
        walk_at "rd"
        refine ⟨t3, _, 1, .ref fl3, rfl, rfl, SqT.of ht16, atI_nat (j := 1) rfl, ?_⟩
        refine tyL hf16 ?_
        refine st_clear hf16 fun H17 f17 k17 h17 => ?_
        walk_at "rd"
        have E15 : Ex H12 H15 := (e13.trans e14).trans e15
        have E16 : Ex H12 H16 := Fr.ex E15 (fun x hx => by rw [List.mem_singleton.mp hx]; exact nr3) f16
        have E17 : Ex H12 H17 := Fr.ex E16 (fun x hx => by rw [List.mem_singleton.mp hx]; exact nf3) f17
        exact ⟨_, _, rfl, E12.trans E17⟩
      · obtain ⟨z1, z2, rfl, e8⟩ := hp'
        exact ⟨_, _, _, _, _, _, _, _, rfl, d6.2.2.ex (e7.trans e8)⟩
    · obtain ⟨y1, y2, y3, y4, y5, y6, y7, y8, rfl, hB2⟩ := hp
      walk_at "rd"
      exact q H'
end BC
namespace BC
open PySem PySem.Spec PyProof.Rows L2
theorem all_mk {l : PySem.W.OpenLaw} {w : World} {K : PySem.W.Frag} {h : Heap} {mg : Str → Option Value} {fa : Addr} (X : K.In h) (G : h.Ns mainGlobals mg) (hfa : mg "law" = some (.ref fa))
    {C_Plain : Addr}
    {t_WIDE : Tok}
    {t_MOST_LINES : Tok}
    {t_MOST_DIGIT : Tok}
    {t_MOST_ORDERS : Tok}
    {t_MOST_CELLS : Tok}
    {t_MOST_DEEDS : Tok}
    {t_MOST_STARTS : Tok}
    {f_is_from : Addr} {od_is_from an_is_from : Option Addr} {sl_is_from : Array (Option Value)} {oc_is_from kV_is_from dc_is_from pm_is_from cd_is_from ct_is_from : Value}
    {f_lines_in : Addr} {od_lines_in an_lines_in : Option Addr} {sl_lines_in : Array (Option Value)} {oc_lines_in kV_lines_in dc_lines_in pm_lines_in cd_lines_in ct_lines_in : Value}
    {f_memory_fault : Addr} {od_memory_fault an_memory_fault : Option Addr} {sl_memory_fault : Array (Option Value)} {oc_memory_fault kV_memory_fault dc_memory_fault pm_memory_fault cd_memory_fault ct_memory_fault : Value}
    {f_is_order : Addr} {od_is_order an_is_order : Option Addr} {sl_is_order : Array (Option Value)} {oc_is_order kV_is_order dc_is_order pm_is_order cd_is_order ct_is_order : Value}
    {f_is_deed : Addr} {od_is_deed an_is_deed : Option Addr} {sl_is_deed : Array (Option Value)} {oc_is_deed kV_is_deed dc_is_deed pm_is_deed cd_is_deed ct_is_deed : Value}
    {f_check_board : Addr} {od_check_board an_check_board : Option Addr} {sl_check_board : Array (Option Value)} {oc_check_board kV_check_board dc_check_board pm_check_board cd_check_board ct_check_board : Value}
    {f_moves_of : Addr} {od_moves_of an_moves_of : Option Addr} {sl_moves_of : Array (Option Value)} {oc_moves_of kV_moves_of dc_moves_of pm_moves_of cd_moves_of ct_moves_of : Value}
    {f_Plain___init__ : Addr} {od_Plain___init__ an_Plain___init__ : Option Addr} {sl_Plain___init__ : Array (Option Value)} {oc_Plain___init__ kV_Plain___init__ dc_Plain___init__ pm_Plain___init__ cd_Plain___init__ ct_Plain___init__ : Value}
    {f_Plain_look : Addr} {od_Plain_look an_Plain_look : Option Addr} {sl_Plain_look : Array (Option Value)} {oc_Plain_look kV_Plain_look dc_Plain_look pm_Plain_look cd_Plain_look ct_Plain_look : Value}
    {f_Plain_does : Addr} {od_Plain_does an_Plain_does : Option Addr} {sl_Plain_does : Array (Option Value)} {oc_Plain_does kV_Plain_does dc_Plain_does pm_Plain_does cd_Plain_does ct_Plain_does : Value}
    {f_plain_end : Addr} {od_plain_end an_plain_end : Option Addr} {sl_plain_end : Array (Option Value)} {oc_plain_end kV_plain_end dc_plain_end pm_plain_end cd_plain_end ct_plain_end : Value}
    {f_sights : Addr} {od_sights an_sights : Option Addr} {sl_sights : Array (Option Value)} {oc_sights kV_sights dc_sights pm_sights cd_sights ct_sights : Value}
    {f__law_begun : Addr} {od__law_begun an__law_begun : Option Addr} {sl__law_begun : Array (Option Value)} {oc__law_begun kV__law_begun dc__law_begun pm__law_begun cd__law_begun ct__law_begun : Value}
    {f__law_take : Addr} {od__law_take an__law_take : Option Addr} {sl__law_take : Array (Option Value)} {oc__law_take kV__law_take dc__law_take pm__law_take cd__law_take ct__law_take : Value}
    {f__law_alike : Addr} {od__law_alike an__law_alike : Option Addr} {sl__law_alike : Array (Option Value)} {oc__law_alike kV__law_alike dc__law_alike pm__law_alike cd__law_alike ct__law_alike : Value}
    {f__law_order : Addr} {od__law_order an__law_order : Option Addr} {sl__law_order : Array (Option Value)} {oc__law_order kV__law_order dc__law_order pm__law_order cd__law_order ct__law_order : Value}
    {f__law_deed : Addr} {od__law_deed an__law_deed : Option Addr} {sl__law_deed : Array (Option Value)} {oc__law_deed kV__law_deed dc__law_deed pm__law_deed cd__law_deed ct__law_deed : Value}
    {f__law_board : Addr} {od__law_board an__law_board : Option Addr} {sl__law_board : Array (Option Value)} {oc__law_board kV__law_board dc__law_board pm__law_board cd__law_board ct__law_board : Value}
    {f__law_moves : Addr} {od__law_moves an__law_moves : Option Addr} {sl__law_moves : Array (Option Value)} {oc__law_moves kV__law_moves dc__law_moves pm__law_moves cd__law_moves ct__law_moves : Value}
    {f__law_plain : Addr} {od__law_plain an__law_plain : Option Addr} {sl__law_plain : Array (Option Value)} {oc__law_plain kV__law_plain dc__law_plain pm__law_plain cd__law_plain ct__law_plain : Value}
    {f__law_kinds : Addr} {od__law_kinds an__law_kinds : Option Addr} {sl__law_kinds : Array (Option Value)} {oc__law_kinds kV__law_kinds dc__law_kinds pm__law_kinds cd__law_kinds ct__law_kinds : Value}
    {f_law : Addr} {od_law an_law : Option Addr} {sl_law : Array (Option Value)} {oc_law kV_law dc_law pm_law cd_law ct_law : Value}
    (aC_Plain : PySem.W.nsIn K mainGlobals "Plain" = some (some (.ref C_Plain)))
    (z_len : PySem.W.nsIn K mainGlobals "len" = some none)
    (z_range : PySem.W.nsIn K mainGlobals "range" = some none)
    (z_min : PySem.W.nsIn K mainGlobals "min" = some none)
    (z_int : PySem.W.nsIn K mainGlobals "int" = some none)
    (z_list : PySem.W.nsIn K mainGlobals "list" = some none)
    (z_tuple : PySem.W.nsIn K mainGlobals "tuple" = some none)
    (z_enumerate : PySem.W.nsIn K mainGlobals "enumerate" = some none)
    (z_isinstance : PySem.W.nsIn K mainGlobals "isinstance" = some none)
    (z_bool : PySem.W.nsIn K mainGlobals "bool" = some none)
    (z_str : PySem.W.nsIn K mainGlobals "str" = some none)
    (z_ValueError : PySem.W.nsIn K mainGlobals "ValueError" = some none)
    (v_WIDE : PySem.W.nsIn K mainGlobals "WIDE" = some (some (.int 4 t_WIDE)))
    (v_MOST_LINES : PySem.W.nsIn K mainGlobals "MOST_LINES" = some (some (.int 4 t_MOST_LINES)))
    (v_MOST_DIGIT : PySem.W.nsIn K mainGlobals "MOST_DIGIT" = some (some (.int 9 t_MOST_DIGIT)))
    (v_MOST_ORDERS : PySem.W.nsIn K mainGlobals "MOST_ORDERS" = some (some (.int 4 t_MOST_ORDERS)))
    (v_MOST_CELLS : PySem.W.nsIn K mainGlobals "MOST_CELLS" = some (some (.int 8 t_MOST_CELLS)))
    (v_MOST_DEEDS : PySem.W.nsIn K mainGlobals "MOST_DEEDS" = some (some (.int 60 t_MOST_DEEDS)))
    (v_MOST_STARTS : PySem.W.nsIn K mainGlobals "MOST_STARTS" = some (some (.int 3 t_MOST_STARTS)))
    (a_is_from : PySem.W.nsIn K mainGlobals "is_from" = some (some (.ref f_is_from)))
    (l_is_from : K.lookup f_is_from = some ⟨oc_is_from, od_is_from, .func (PySem.W.fnOf "is_from" "is_from" (defArgs s_is_from) (defBody s_is_from) (defScope s_is_from) .none kV_is_from dc_is_from pm_is_from an_is_from cd_is_from ct_is_from), sl_is_from⟩)
    (c_is_from : PySem.W.codeIn K cd_is_from "is_from" = true)
    (k_is_from : PySem.W.keepIn K (.ref f_is_from) = true)
    (a_lines_in : PySem.W.nsIn K mainGlobals "lines_in" = some (some (.ref f_lines_in)))
    (l_lines_in : K.lookup f_lines_in = some ⟨oc_lines_in, od_lines_in, .func (PySem.W.fnOf "lines_in" "lines_in" (defArgs s_lines_in) (defBody s_lines_in) (defScope s_lines_in) .none kV_lines_in dc_lines_in pm_lines_in an_lines_in cd_lines_in ct_lines_in), sl_lines_in⟩)
    (c_lines_in : PySem.W.codeIn K cd_lines_in "lines_in" = true)
    (k_lines_in : PySem.W.keepIn K (.ref f_lines_in) = true)
    (a_memory_fault : PySem.W.nsIn K mainGlobals "memory_fault" = some (some (.ref f_memory_fault)))
    (l_memory_fault : K.lookup f_memory_fault = some ⟨oc_memory_fault, od_memory_fault, .func (PySem.W.fnOf "memory_fault" "memory_fault" (defArgs s_memory_fault) (defBody s_memory_fault) (defScope s_memory_fault) .none kV_memory_fault dc_memory_fault pm_memory_fault an_memory_fault cd_memory_fault ct_memory_fault), sl_memory_fault⟩)
    (c_memory_fault : PySem.W.codeIn K cd_memory_fault "memory_fault" = true)
    (k_memory_fault : PySem.W.keepIn K (.ref f_memory_fault) = true)
    (a_is_order : PySem.W.nsIn K mainGlobals "is_order" = some (some (.ref f_is_order)))
    (l_is_order : K.lookup f_is_order = some ⟨oc_is_order, od_is_order, .func (PySem.W.fnOf "is_order" "is_order" (defArgs s_is_order) (defBody s_is_order) (defScope s_is_order) .none kV_is_order dc_is_order pm_is_order an_is_order cd_is_order ct_is_order), sl_is_order⟩)
    (c_is_order : PySem.W.codeIn K cd_is_order "is_order" = true)
    (k_is_order : PySem.W.keepIn K (.ref f_is_order) = true)
    (a_is_deed : PySem.W.nsIn K mainGlobals "is_deed" = some (some (.ref f_is_deed)))
    (l_is_deed : K.lookup f_is_deed = some ⟨oc_is_deed, od_is_deed, .func (PySem.W.fnOf "is_deed" "is_deed" (defArgs s_is_deed) (defBody s_is_deed) (defScope s_is_deed) .none kV_is_deed dc_is_deed pm_is_deed an_is_deed cd_is_deed ct_is_deed), sl_is_deed⟩)
    (c_is_deed : PySem.W.codeIn K cd_is_deed "is_deed" = true)
    (k_is_deed : PySem.W.keepIn K (.ref f_is_deed) = true)
    (a_check_board : PySem.W.nsIn K mainGlobals "check_board" = some (some (.ref f_check_board)))
    (l_check_board : K.lookup f_check_board = some ⟨oc_check_board, od_check_board, .func (PySem.W.fnOf "check_board" "check_board" (defArgs s_check_board) (defBody s_check_board) (defScope s_check_board) .none kV_check_board dc_check_board pm_check_board an_check_board cd_check_board ct_check_board), sl_check_board⟩)
    (c_check_board : PySem.W.codeIn K cd_check_board "check_board" = true)
    (k_check_board : PySem.W.keepIn K (.ref f_check_board) = true)
    (a_moves_of : PySem.W.nsIn K mainGlobals "moves_of" = some (some (.ref f_moves_of)))
    (l_moves_of : K.lookup f_moves_of = some ⟨oc_moves_of, od_moves_of, .func (PySem.W.fnOf "moves_of" "moves_of" (defArgs s_moves_of) (defBody s_moves_of) (defScope s_moves_of) .none kV_moves_of dc_moves_of pm_moves_of an_moves_of cd_moves_of ct_moves_of), sl_moves_of⟩)
    (c_moves_of : PySem.W.codeIn K cd_moves_of "moves_of" = true)
    (k_moves_of : PySem.W.keepIn K (.ref f_moves_of) = true)
    (a_Plain___init__ : PySem.W.findIn K (.ref C_Plain) "__init__" = some (some (.ref f_Plain___init__)))
    (i_Plain___init__ : PySem.W.isFn K (.ref f_Plain___init__) = true)
    (l_Plain___init__ : K.lookup f_Plain___init__ = some ⟨oc_Plain___init__, od_Plain___init__, .func (PySem.W.fnOf "__init__" "Plain.__init__" (defArgs s_Plain___init__) (defBody s_Plain___init__) (defScope s_Plain___init__) .none kV_Plain___init__ dc_Plain___init__ pm_Plain___init__ an_Plain___init__ cd_Plain___init__ ct_Plain___init__), sl_Plain___init__⟩)
    (c_Plain___init__ : PySem.W.codeIn K cd_Plain___init__ "Plain.__init__" = true)
    (k_Plain___init__ : PySem.W.keepIn K (.ref f_Plain___init__) = true)
    (a_Plain_look : PySem.W.findIn K (.ref C_Plain) "look" = some (some (.ref f_Plain_look)))
    (i_Plain_look : PySem.W.isFn K (.ref f_Plain_look) = true)
    (l_Plain_look : K.lookup f_Plain_look = some ⟨oc_Plain_look, od_Plain_look, .func (PySem.W.fnOf "look" "Plain.look" (defArgs s_Plain_look) (defBody s_Plain_look) (defScope s_Plain_look) .none kV_Plain_look dc_Plain_look pm_Plain_look an_Plain_look cd_Plain_look ct_Plain_look), sl_Plain_look⟩)
    (c_Plain_look : PySem.W.codeIn K cd_Plain_look "Plain.look" = true)
    (k_Plain_look : PySem.W.keepIn K (.ref f_Plain_look) = true)
    (a_Plain_does : PySem.W.findIn K (.ref C_Plain) "does" = some (some (.ref f_Plain_does)))
    (i_Plain_does : PySem.W.isFn K (.ref f_Plain_does) = true)
    (l_Plain_does : K.lookup f_Plain_does = some ⟨oc_Plain_does, od_Plain_does, .func (PySem.W.fnOf "does" "Plain.does" (defArgs s_Plain_does) (defBody s_Plain_does) (defScope s_Plain_does) .none kV_Plain_does dc_Plain_does pm_Plain_does an_Plain_does cd_Plain_does ct_Plain_does), sl_Plain_does⟩)
    (c_Plain_does : PySem.W.codeIn K cd_Plain_does "Plain.does" = true)
    (k_Plain_does : PySem.W.keepIn K (.ref f_Plain_does) = true)
    (a_plain_end : PySem.W.nsIn K mainGlobals "plain_end" = some (some (.ref f_plain_end)))
    (l_plain_end : K.lookup f_plain_end = some ⟨oc_plain_end, od_plain_end, .func (PySem.W.fnOf "plain_end" "plain_end" (defArgs s_plain_end) (defBody s_plain_end) (defScope s_plain_end) .none kV_plain_end dc_plain_end pm_plain_end an_plain_end cd_plain_end ct_plain_end), sl_plain_end⟩)
    (c_plain_end : PySem.W.codeIn K cd_plain_end "plain_end" = true)
    (k_plain_end : PySem.W.keepIn K (.ref f_plain_end) = true)
    (a_sights : PySem.W.nsIn K mainGlobals "sights" = some (some (.ref f_sights)))
    (l_sights : K.lookup f_sights = some ⟨oc_sights, od_sights, .func (PySem.W.fnOf "sights" "sights" (defArgs s_sights) (defBody s_sights) (defScope s_sights) .none kV_sights dc_sights pm_sights an_sights cd_sights ct_sights), sl_sights⟩)
    (c_sights : PySem.W.codeIn K cd_sights "sights" = true)
    (k_sights : PySem.W.keepIn K (.ref f_sights) = true)
    (a__law_begun : PySem.W.nsIn K mainGlobals "_law_begun" = some (some (.ref f__law_begun)))
    (l__law_begun : K.lookup f__law_begun = some ⟨oc__law_begun, od__law_begun, .func (PySem.W.fnOf "_law_begun" "_law_begun" (defArgs s__law_begun) (defBody s__law_begun) (defScope s__law_begun) .none kV__law_begun dc__law_begun pm__law_begun an__law_begun cd__law_begun ct__law_begun), sl__law_begun⟩)
    (c__law_begun : PySem.W.codeIn K cd__law_begun "_law_begun" = true)
    (k__law_begun : PySem.W.keepIn K (.ref f__law_begun) = true)
    (a__law_take : PySem.W.nsIn K mainGlobals "_law_take" = some (some (.ref f__law_take)))
    (l__law_take : K.lookup f__law_take = some ⟨oc__law_take, od__law_take, .func (PySem.W.fnOf "_law_take" "_law_take" (defArgs s__law_take) (defBody s__law_take) (defScope s__law_take) .none kV__law_take dc__law_take pm__law_take an__law_take cd__law_take ct__law_take), sl__law_take⟩)
    (c__law_take : PySem.W.codeIn K cd__law_take "_law_take" = true)
    (k__law_take : PySem.W.keepIn K (.ref f__law_take) = true)
    (a__law_alike : PySem.W.nsIn K mainGlobals "_law_alike" = some (some (.ref f__law_alike)))
    (l__law_alike : K.lookup f__law_alike = some ⟨oc__law_alike, od__law_alike, .func (PySem.W.fnOf "_law_alike" "_law_alike" (defArgs s__law_alike) (defBody s__law_alike) (defScope s__law_alike) .none kV__law_alike dc__law_alike pm__law_alike an__law_alike cd__law_alike ct__law_alike), sl__law_alike⟩)
    (c__law_alike : PySem.W.codeIn K cd__law_alike "_law_alike" = true)
    (k__law_alike : PySem.W.keepIn K (.ref f__law_alike) = true)
    (a__law_order : PySem.W.nsIn K mainGlobals "_law_order" = some (some (.ref f__law_order)))
    (l__law_order : K.lookup f__law_order = some ⟨oc__law_order, od__law_order, .func (PySem.W.fnOf "_law_order" "_law_order" (defArgs s__law_order) (defBody s__law_order) (defScope s__law_order) .none kV__law_order dc__law_order pm__law_order an__law_order cd__law_order ct__law_order), sl__law_order⟩)
    (c__law_order : PySem.W.codeIn K cd__law_order "_law_order" = true)
    (k__law_order : PySem.W.keepIn K (.ref f__law_order) = true)
    (a__law_deed : PySem.W.nsIn K mainGlobals "_law_deed" = some (some (.ref f__law_deed)))
    (l__law_deed : K.lookup f__law_deed = some ⟨oc__law_deed, od__law_deed, .func (PySem.W.fnOf "_law_deed" "_law_deed" (defArgs s__law_deed) (defBody s__law_deed) (defScope s__law_deed) .none kV__law_deed dc__law_deed pm__law_deed an__law_deed cd__law_deed ct__law_deed), sl__law_deed⟩)
    (c__law_deed : PySem.W.codeIn K cd__law_deed "_law_deed" = true)
    (k__law_deed : PySem.W.keepIn K (.ref f__law_deed) = true)
    (a__law_board : PySem.W.nsIn K mainGlobals "_law_board" = some (some (.ref f__law_board)))
    (l__law_board : K.lookup f__law_board = some ⟨oc__law_board, od__law_board, .func (PySem.W.fnOf "_law_board" "_law_board" (defArgs s__law_board) (defBody s__law_board) (defScope s__law_board) .none kV__law_board dc__law_board pm__law_board an__law_board cd__law_board ct__law_board), sl__law_board⟩)
    (c__law_board : PySem.W.codeIn K cd__law_board "_law_board" = true)
    (k__law_board : PySem.W.keepIn K (.ref f__law_board) = true)
    (a__law_moves : PySem.W.nsIn K mainGlobals "_law_moves" = some (some (.ref f__law_moves)))
    (l__law_moves : K.lookup f__law_moves = some ⟨oc__law_moves, od__law_moves, .func (PySem.W.fnOf "_law_moves" "_law_moves" (defArgs s__law_moves) (defBody s__law_moves) (defScope s__law_moves) .none kV__law_moves dc__law_moves pm__law_moves an__law_moves cd__law_moves ct__law_moves), sl__law_moves⟩)
    (c__law_moves : PySem.W.codeIn K cd__law_moves "_law_moves" = true)
    (k__law_moves : PySem.W.keepIn K (.ref f__law_moves) = true)
    (a__law_plain : PySem.W.nsIn K mainGlobals "_law_plain" = some (some (.ref f__law_plain)))
    (l__law_plain : K.lookup f__law_plain = some ⟨oc__law_plain, od__law_plain, .func (PySem.W.fnOf "_law_plain" "_law_plain" (defArgs s__law_plain) (defBody s__law_plain) (defScope s__law_plain) .none kV__law_plain dc__law_plain pm__law_plain an__law_plain cd__law_plain ct__law_plain), sl__law_plain⟩)
    (c__law_plain : PySem.W.codeIn K cd__law_plain "_law_plain" = true)
    (k__law_plain : PySem.W.keepIn K (.ref f__law_plain) = true)
    (a__law_kinds : PySem.W.nsIn K mainGlobals "_law_kinds" = some (some (.ref f__law_kinds)))
    (l__law_kinds : K.lookup f__law_kinds = some ⟨oc__law_kinds, od__law_kinds, .func (PySem.W.fnOf "_law_kinds" "_law_kinds" (defArgs s__law_kinds) (defBody s__law_kinds) (defScope s__law_kinds) .none kV__law_kinds dc__law_kinds pm__law_kinds an__law_kinds cd__law_kinds ct__law_kinds), sl__law_kinds⟩)
    (c__law_kinds : PySem.W.codeIn K cd__law_kinds "_law_kinds" = true)
    (k__law_kinds : PySem.W.keepIn K (.ref f__law_kinds) = true)
    (a_law : PySem.W.nsIn K mainGlobals "law" = some (some (.ref f_law)))
    (l_law : K.lookup f_law = some ⟨oc_law, od_law, .func (PySem.W.fnOf "law" "law" (defArgs s_law) (defBody s_law) (defScope s_law) .none kV_law dc_law pm_law an_law cd_law ct_law), sl_law⟩)
    (c_law : PySem.W.codeIn K cd_law "law" = true)
    (k_law : PySem.W.keepIn K (.ref f_law) = true)
    (pg_Plain : PySem.W.plainGet K C_Plain Str.empty = true)
    (hd_Plain : PySem.W.hasDictIn K C_Plain = true)
    (po_Plain : PySem.W.plainOver K C_Plain = true)
    (sa_Plain : PySem.W.findIn K (.ref C_Plain) "__setattr__" = some (some (.builtin "object.__setattr__")))
    (m_Plain : PySem.W.makesIn K C_Plain = true)
    (kc_Plain : PySem.W.keepIn K (.ref C_Plain) = true)
    (n_Plain_memory : PySem.W.findIn K (.ref C_Plain) "memory" = some none)
    (n_Plain_reads : PySem.W.findIn K (.ref C_Plain) "reads" = some none)
    (n_Plain_fetches : PySem.W.findIn K (.ref C_Plain) "fetches" = some none)
    (n_Plain_said : PySem.W.findIn K (.ref C_Plain) "said" = some none)
    : ∃ fd : FuncData, (∀ (s : Shared) (v : Value), BindsTo s fd ⟨[v], []⟩ [("_law_script", v)]) ∧ ∀ base : Heap, K.In base → base.Ns mainGlobals mg → FnOk l.prog w K mg base CX0 13 fa fd ["_law_script"] (sp_law K) := by
  have e := hfa.symm.trans (PySem.W.mg_of X G a_law)
  cases e
  have T : Txt K mg ⟨C_Plain⟩ := {
    len := PySem.W.mg_none_of X G z_len,
    range := PySem.W.mg_none_of X G z_range,
    min := PySem.W.mg_none_of X G z_min,
    int := PySem.W.mg_none_of X G z_int,
    list := PySem.W.mg_none_of X G z_list,
    tuple := PySem.W.mg_none_of X G z_tuple,
    enumerate := PySem.W.mg_none_of X G z_enumerate,
    isinstance := PySem.W.mg_none_of X G z_isinstance,
    bool := PySem.W.mg_none_of X G z_bool,
    str := PySem.W.mg_none_of X G z_str,
    ValueError := PySem.W.mg_none_of X G z_ValueError,
    g_WIDE := ⟨_, PySem.W.mg_of X G v_WIDE, _, rfl⟩,
    g_MOST_LINES := ⟨_, PySem.W.mg_of X G v_MOST_LINES, _, rfl⟩,
    g_MOST_DIGIT := ⟨_, PySem.W.mg_of X G v_MOST_DIGIT, _, rfl⟩,
    g_MOST_ORDERS := ⟨_, PySem.W.mg_of X G v_MOST_ORDERS, _, rfl⟩,
    g_MOST_CELLS := ⟨_, PySem.W.mg_of X G v_MOST_CELLS, _, rfl⟩,
    g_MOST_DEEDS := ⟨_, PySem.W.mg_of X G v_MOST_DEEDS, _, rfl⟩,
    g_MOST_STARTS := ⟨_, PySem.W.mg_of X G v_MOST_STARTS, _, rfl⟩,
    F_is_from := ⟨_, _, fun_mk (st := s_is_from) l_is_from c_is_from k_is_from, PySem.W.mg_of X G a_is_from⟩,
    F_lines_in := ⟨_, _, fun_mk (st := s_lines_in) l_lines_in c_lines_in k_lines_in, PySem.W.mg_of X G a_lines_in⟩,
    F_memory_fault := ⟨_, _, fun_mk (st := s_memory_fault) l_memory_fault c_memory_fault k_memory_fault, PySem.W.mg_of X G a_memory_fault⟩,
    F_is_order := ⟨_, _, fun_mk (st := s_is_order) l_is_order c_is_order k_is_order, PySem.W.mg_of X G a_is_order⟩,
    F_is_deed := ⟨_, _, fun_mk (st := s_is_deed) l_is_deed c_is_deed k_is_deed, PySem.W.mg_of X G a_is_deed⟩,
    F_check_board := ⟨_, _, fun_mk (st := s_check_board) l_check_board c_check_board k_check_board, PySem.W.mg_of X G a_check_board⟩,
    F_moves_of := ⟨_, _, fun_mk (st := s_moves_of) l_moves_of c_moves_of k_moves_of, PySem.W.mg_of X G a_moves_of⟩,
    F_Plain___init__ := ⟨_, _, fun_mk (st := s_Plain___init__) l_Plain___init__ c_Plain___init__ k_Plain___init__, ⟨m_Plain, a_Plain___init__, i_Plain___init__, kc_Plain⟩⟩,
    F_Plain_look := ⟨_, _, fun_mk (st := s_Plain_look) l_Plain_look c_Plain_look k_Plain_look, ⟨a_Plain_look, i_Plain_look, k_Plain_look⟩⟩,
    F_Plain_does := ⟨_, _, fun_mk (st := s_Plain_does) l_Plain_does c_Plain_does k_Plain_does, ⟨a_Plain_does, i_Plain_does, k_Plain_does⟩⟩,
    F_plain_end := ⟨_, _, fun_mk (st := s_plain_end) l_plain_end c_plain_end k_plain_end, PySem.W.mg_of X G a_plain_end⟩,
    F_sights := ⟨_, _, fun_mk (st := s_sights) l_sights c_sights k_sights, PySem.W.mg_of X G a_sights⟩,
    F__law_begun := ⟨_, _, fun_mk (st := s__law_begun) l__law_begun c__law_begun k__law_begun, PySem.W.mg_of X G a__law_begun⟩,
    F__law_take := ⟨_, _, fun_mk (st := s__law_take) l__law_take c__law_take k__law_take, PySem.W.mg_of X G a__law_take⟩,
    F__law_alike := ⟨_, _, fun_mk (st := s__law_alike) l__law_alike c__law_alike k__law_alike, PySem.W.mg_of X G a__law_alike⟩,
    F__law_order := ⟨_, _, fun_mk (st := s__law_order) l__law_order c__law_order k__law_order, PySem.W.mg_of X G a__law_order⟩,
    F__law_deed := ⟨_, _, fun_mk (st := s__law_deed) l__law_deed c__law_deed k__law_deed, PySem.W.mg_of X G a__law_deed⟩,
    F__law_board := ⟨_, _, fun_mk (st := s__law_board) l__law_board c__law_board k__law_board, PySem.W.mg_of X G a__law_board⟩,
    F__law_moves := ⟨_, _, fun_mk (st := s__law_moves) l__law_moves c__law_moves k__law_moves, PySem.W.mg_of X G a__law_moves⟩,
    F__law_plain := ⟨_, _, fun_mk (st := s__law_plain) l__law_plain c__law_plain k__law_plain, PySem.W.mg_of X G a__law_plain⟩,
    F__law_kinds := ⟨_, _, fun_mk (st := s__law_kinds) l__law_kinds c__law_kinds k__law_kinds, PySem.W.mg_of X G a__law_kinds⟩,
    F_law := ⟨_, _, fun_mk (st := s_law) l_law c_law k_law, PySem.W.mg_of X G a_law⟩,
    mg_Plain := PySem.W.mg_of X G aC_Plain,
    cl_Plain := ⟨pg_Plain, hd_Plain, po_Plain, sa_Plain⟩,
    na_Plain_memory := n_Plain_memory,
    na_Plain_reads := n_Plain_reads,
    na_Plain_fetches := n_Plain_fetches,
    na_Plain_said := n_Plain_said }
  refine ⟨PySem.W.fnOf "law" "law" (defArgs s_law) (defBody s_law) (defScope s_law) .none kV_law dc_law pm_law an_law cd_law ct_law, fun s v => .of_eq rfl, fun base _ _ => ok_law T (fun_mk (st := s_law) l_law c_law k_law)⟩
end BC
open PySem PySem.W PyProof.Rows
set_option maxRecDepth 100000 in
set_option maxHeartbeats 0 in
theorem PySem.Challenge.cw_blockcarrier_k04_plainly_holds : PySem.Challenge.rw_blockcarrier_k04_plainly.Holds := by
  w_on; o_law; k_head; (case hw => w_witness2)
  k_fill
  refine L2.walk_of (l := PySem.Challenge.rw_blockcarrier_k04_plainly) (n := 63) (k := 13) (x := "_law_script") (CX := fun _ => L2.CX0) (sp := fun w => BC.sp_law _) rfl (by decide) rfl ⟨rfl, by decide, by decide⟩ (fun w h Y => PySem.W.kIn_of Y) ?F (fun _ _ a ns hl _ hS => ⟨a, ns, rfl, hS, hl, fun _ => rfl⟩) (fun _ _ _ _ _ h => h)
  case F =>
    intro w mg fa h KX G hmg
    refine' BC.all_mk KX G hmg ?aC_Plain ?z_len ?z_range ?z_min ?z_int ?z_list ?z_tuple ?z_enumerate ?z_isinstance ?z_bool ?z_str ?z_ValueError ?v_WIDE ?v_MOST_LINES ?v_MOST_DIGIT ?v_MOST_ORDERS ?v_MOST_CELLS ?v_MOST_DEEDS ?v_MOST_STARTS ?a_is_from ?l_is_from ?c_is_from ?k_is_from ?a_lines_in ?l_lines_in ?c_lines_in ?k_lines_in ?a_memory_fault ?l_memory_fault ?c_memory_fault ?k_memory_fault ?a_is_order ?l_is_order ?c_is_order ?k_is_order ?a_is_deed ?l_is_deed ?c_is_deed ?k_is_deed ?a_check_board ?l_check_board ?c_check_board ?k_check_board ?a_moves_of ?l_moves_of ?c_moves_of ?k_moves_of ?a_Plain___init__ ?i_Plain___init__ ?l_Plain___init__ ?c_Plain___init__ ?k_Plain___init__ ?a_Plain_look ?i_Plain_look ?l_Plain_look ?c_Plain_look ?k_Plain_look ?a_Plain_does ?i_Plain_does ?l_Plain_does ?c_Plain_does ?k_Plain_does ?a_plain_end ?l_plain_end ?c_plain_end ?k_plain_end ?a_sights ?l_sights ?c_sights ?k_sights ?a__law_begun ?l__law_begun ?c__law_begun ?k__law_begun ?a__law_take ?l__law_take ?c__law_take ?k__law_take ?a__law_alike ?l__law_alike ?c__law_alike ?k__law_alike ?a__law_order ?l__law_order ?c__law_order ?k__law_order ?a__law_deed ?l__law_deed ?c__law_deed ?k__law_deed ?a__law_board ?l__law_board ?c__law_board ?k__law_board ?a__law_moves ?l__law_moves ?c__law_moves ?k__law_moves ?a__law_plain ?l__law_plain ?c__law_plain ?k__law_plain ?a__law_kinds ?l__law_kinds ?c__law_kinds ?k__law_kinds ?a_law ?l_law ?c_law ?k_law ?pg_Plain ?hd_Plain ?po_Plain ?sa_Plain ?m_Plain ?kc_Plain ?n_Plain_memory ?n_Plain_reads ?n_Plain_fetches ?n_Plain_said
    (case aC_Plain => k_is)
    (case z_len => k_is)
    (case z_range => k_is)
    (case z_min => k_is)
    (case z_int => k_is)
    (case z_list => k_is)
    (case z_tuple => k_is)
    (case z_enumerate => k_is)
    (case z_isinstance => k_is)
    (case z_bool => k_is)
    (case z_str => k_is)
    (case z_ValueError => k_is)
    (case v_WIDE => k_is)
    (case v_MOST_LINES => k_is)
    (case v_MOST_DIGIT => k_is)
    (case v_MOST_ORDERS => k_is)
    (case v_MOST_CELLS => k_is)
    (case v_MOST_DEEDS => k_is)
    (case v_MOST_STARTS => k_is)
    (case a_is_from => k_is)
    (case l_is_from => k_is)
    (case c_is_from => k_is)
    (case k_is_from => k_is)
    (case a_lines_in => k_is)
    (case l_lines_in => k_is)
    (case c_lines_in => k_is)
    (case k_lines_in => k_is)
    (case a_memory_fault => k_is)
    (case l_memory_fault => k_is)
    (case c_memory_fault => k_is)
    (case k_memory_fault => k_is)
    (case a_is_order => k_is)
    (case l_is_order => k_is)
    (case c_is_order => k_is)
    (case k_is_order => k_is)
    (case a_is_deed => k_is)
    (case l_is_deed => k_is)
    (case c_is_deed => k_is)
    (case k_is_deed => k_is)
    (case a_check_board => k_is)
    (case l_check_board => k_is)
    (case c_check_board => k_is)
    (case k_check_board => k_is)
    (case a_moves_of => k_is)
    (case l_moves_of => k_is)
    (case c_moves_of => k_is)
    (case k_moves_of => k_is)
    (case a_Plain___init__ => k_is)
    (case i_Plain___init__ => k_is)
    (case l_Plain___init__ => k_is)
    (case c_Plain___init__ => k_is)
    (case k_Plain___init__ => k_is)
    (case a_Plain_look => k_is)
    (case i_Plain_look => k_is)
    (case l_Plain_look => k_is)
    (case c_Plain_look => k_is)
    (case k_Plain_look => k_is)
    (case a_Plain_does => k_is)
    (case i_Plain_does => k_is)
    (case l_Plain_does => k_is)
    (case c_Plain_does => k_is)
    (case k_Plain_does => k_is)
    (case a_plain_end => k_is)
    (case l_plain_end => k_is)
    (case c_plain_end => k_is)
    (case k_plain_end => k_is)
    (case a_sights => k_is)
    (case l_sights => k_is)
    (case c_sights => k_is)
    (case k_sights => k_is)
    (case a__law_begun => k_is)
    (case l__law_begun => k_is)
    (case c__law_begun => k_is)
    (case k__law_begun => k_is)
    (case a__law_take => k_is)
    (case l__law_take => k_is)
    (case c__law_take => k_is)
    (case k__law_take => k_is)
    (case a__law_alike => k_is)
    (case l__law_alike => k_is)
    (case c__law_alike => k_is)
    (case k__law_alike => k_is)
    (case a__law_order => k_is)
    (case l__law_order => k_is)
    (case c__law_order => k_is)
    (case k__law_order => k_is)
    (case a__law_deed => k_is)
    (case l__law_deed => k_is)
    (case c__law_deed => k_is)
    (case k__law_deed => k_is)
    (case a__law_board => k_is)
    (case l__law_board => k_is)
    (case c__law_board => k_is)
    (case k__law_board => k_is)
    (case a__law_moves => k_is)
    (case l__law_moves => k_is)
    (case c__law_moves => k_is)
    (case k__law_moves => k_is)
    (case a__law_plain => k_is)
    (case l__law_plain => k_is)
    (case c__law_plain => k_is)
    (case k__law_plain => k_is)
    (case a__law_kinds => k_is)
    (case l__law_kinds => k_is)
    (case c__law_kinds => k_is)
    (case k__law_kinds => k_is)
    (case a_law => k_is)
    (case l_law => k_is)
    (case c_law => k_is)
    (case k_law => k_is)
    (case pg_Plain => k_is)
    (case hd_Plain => k_is)
    (case po_Plain => k_is)
    (case sa_Plain => k_is)
    (case m_Plain => k_is)
    (case kc_Plain => k_is)
    (case n_Plain_memory => k_is)
    (case n_Plain_reads => k_is)
    (case n_Plain_fetches => k_is)
    (case n_Plain_said => k_is)
