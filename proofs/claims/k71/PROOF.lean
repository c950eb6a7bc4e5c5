import PyProof.Rows.All
import Wide.All
import OpenK.AllK
import Wide.FinOn
import KE.KDictKeyed
import KE.KDictWalk
import KE.KDictPairs
import KE.KDictCopyH
import KE.SortData
import KE.SortKeyHeap
import PyProof.SeqIndex
import HandS.ForMost
import HandS.Slots
import HandS.SlotsVar
import HandS.SlotsOwn
import HandS.Property
import HandS.IsInst
import HandS.Flow
import HandS.Style
import HandS.Star
import HandS.Zip
import HandS.Deep
import HandS.TupAny
import HandS.Walk
import HandS.Strs
import HandS.Set
import HandS.SetKeys
import HandS.TupSets
import HandS.DictComp
import HandS.SortKw
import KE.GoesEnum
import KE.DataFind
import KE.DataEq
import PySem.Challenge.RW_coldcrates_k71_whole_keepers_by_own_step
section
set_option Elab.async false
set_option linter.all false
set_option maxRecDepth 100000
set_option maxHeartbeats 4000000
namespace Cc
open PySem PySem.Spec PyProof.Rows L2

/-! ### data that never changes: scalars and tuples of such -/
/-- a tuple, its object without a dict of its own -/
def Tq (H : Hp) (a : Addr) (xs : List V) : Prop := ∃ o : Obj, o.dict = none ∧ H a = some (.frz o (.tup xs))
theorem Tq.rd {H : Hp} {a : Addr} {xs : List V} (h : Tq H a xs) : Rd H a (.tup xs) := by
  obtain ⟨o, _, e⟩ := h
  exact .inr ⟨o, e⟩
theorem Tq.seq {K : PySem.W.Frag} {H : Hp} {a : Addr} {xs : List V} (h : Tq H a xs) : SqT K H a xs := .inl h.rd
theorem Tq.same {H H' : Hp} {a : Addr} {xs : List V} (h : Tq H a xs) (e : Same H H') : Tq H' a xs := by
  obtain ⟨o, d, q⟩ := h
  exact ⟨o, d, e _ _ q⟩
mutual
inductive Dq (H : Hp) : V → PyData → Prop
  | non : Dq H .non .none
  | bl (b : Bool) : Dq H (.bl b) (.bool b)
  | int (i : Int) : Dq H (.int i) (.int i)
  | str (x : Str) : Dq H (.str x) (.str x)
  | tup {a : Addr} {xs : List V} {ds : List PyData} : Tq H a xs → DqAll H xs ds → Dq H (.ref a) (.tuple ds)
inductive DqAll (H : Hp) : List V → List PyData → Prop
  | nil : DqAll H [] []
  | cons {v : V} {vs : List V} {d : PyData} {ds : List PyData} : Dq H v d → DqAll H vs ds → DqAll H (v :: vs) (d :: ds)
end

/-- all tuples stand -/
def Tk (H H' : Hp) : Prop := ∀ a xs, Tq H a xs → Tq H' a xs
theorem Tk.refl (H : Hp) : Tk H H := fun _ _ h => h
theorem Tk.trans {H H1 H2 : Hp} (a : Tk H H1) (b : Tk H1 H2) : Tk H H2 := fun c xs h => b c xs (a c xs h)
theorem Tk.of {H H' : Hp} (e : Same H H') : Tk H H' := fun a xs h => h.same e
theorem Tk.upd {H : Hp} {p : Addr} {o : HO} (h : ∀ o xs, H p ≠ some (.frz o (.tup xs))) : Tk H (upd H p o) := fun a xs ⟨o', d, e⟩ => by
  have hne : a ≠ p := fun z => h o' xs (z ▸ e)
  exact ⟨o', d, by rw [upd_ne hne]; exact e⟩
theorem Tk.new {H : Hp} {p : Addr} {o : HO} (h : H p = none) : Tk H (L2.upd H p o) := Tk.upd fun o xs e => by rw [h] at e; cases e
theorem Tk.lst {H : Hp} {p : Addr} {ys : List V} {o : HO} (h : H p = some (.lst ys)) : Tk H (L2.upd H p o) := Tk.upd fun o xs e => by rw [h] at e; cases e
theorem Same.new {H : Hp} {p : Addr} {o : HO} (h : H p = none) : Same H (upd H p o) := fun b u e => by
  rw [upd_ne (ne_of_none e h)]; exact e
/-- an object that H does not know may change -/
theorem Same.mut {H H' : Hp} {p : Addr} {o : HO} (e : Same H H') (h : H p = none) : Same H (upd H' p o) := fun b u q => by
  rw [upd_ne (ne_of_none q h)]; exact e b u q

mutual
theorem Dq.mono {H H' : Hp} (t : Tk H H') : ∀ {d : PyData} {v : V}, Dq H v d → Dq H' v d
  | _, _, .non => .non
  | _, _, .bl b => .bl b
  | _, _, .int i => .int i
  | _, _, .str x => .str x
  | _, _, .tup h r => .tup (t _ _ h) (DqAll.mono t r)
theorem DqAll.mono {H H' : Hp} (t : Tk H H') : ∀ {ds : List PyData} {vs : List V}, DqAll H vs ds → DqAll H' vs ds
  | _, _, .nil => .nil
  | _, _, .cons h r => .cons (Dq.mono t h) (DqAll.mono t r)
end
mutual
theorem Dq.dp {K : PySem.W.Frag} {H : Hp} : ∀ {d : PyData} {v : V}, Dq H v d → Dp K H v d
  | _, _, .non => .non
  | _, _, .bl b => .bl b
  | _, _, .int i => .int i
  | _, _, .str x => .str x
  | _, _, .tup h r => .tup h.seq (DqAll.dp r)
theorem DqAll.dp {K : PySem.W.Frag} {H : Hp} : ∀ {ds : List PyData} {vs : List V}, DqAll H vs ds → DpAll K H vs ds
  | _, _, .nil => .nil
  | _, _, .cons h r => .cons (Dq.dp h) (DqAll.dp r)
end
section
variable {H : Hp} {v : V} {vs ws : List V} {ds es : List PyData} {d : PyData}
theorem DqAll.length (h : DqAll H vs ds) : vs.length = ds.length := by
  induction ds generalizing vs with
  | nil => cases h; rfl
  | cons d ds ih => cases h with | cons a b => simp [ih b]
theorem DqAll.append (h : DqAll H vs ds) (h' : DqAll H ws es) : DqAll H (vs ++ ws) (ds ++ es) := by
  induction ds generalizing vs with
  | nil => cases h; exact h'
  | cons d ds ih => cases h with | cons a b => exact .cons a (ih b)
theorem DqAll.one (h : Dq H v d) : DqAll H [v] [d] := .cons h .nil
theorem DqAll.get (h : DqAll H vs ds) {i : Nat} (hv : vs[i]? = some v) : ∃ d, ds[i]? = some d ∧ Dq H v d := by
  induction ds generalizing vs i with
  | nil => cases h; simp at hv
  | cons d ds ih =>
    cases h with
    | cons a b =>
      cases i with
      | zero => simp at hv; subst hv; exact ⟨d, rfl, a⟩
      | succ i => simp at hv; obtain ⟨e, h1, h2⟩ := ih b hv; exact ⟨e, by simpa using h1, h2⟩
theorem DqAll.get' (h : DqAll H vs ds) {i : Nat} (hd : ds[i]? = some d) : ∃ v, vs[i]? = some v ∧ Dq H v d := by
  induction ds generalizing vs i with
  | nil => simp at hd
  | cons d ds ih =>
    cases h with
    | cons a b =>
      cases i with
      | zero => simp at hd; subst hd; exact ⟨_, rfl, a⟩
      | succ i => simp at hd; obtain ⟨e, h1, h2⟩ := ih b hd; exact ⟨e, by simpa using h1, h2⟩
theorem DqAll.take (h : DqAll H vs ds) (n : Nat) : DqAll H (vs.take n) (ds.take n) := by
  induction ds generalizing vs n with
  | nil => cases h; simp; exact .nil
  | cons d ds ih =>
    cases h with
    | cons a b =>
      cases n with
      | zero => exact .nil
      | succ n => exact .cons a (ih b n)
/-- what the data says of the value -/
theorem Dq.tup_inv (h : Dq H v (.tuple ds)) : ∃ a xs, v = .ref a ∧ Tq H a xs ∧ DqAll H xs ds := by
  cases h with | tup h r => exact ⟨_, _, rfl, h, r⟩
theorem Dq.int_inv {i : Int} (h : Dq H v (.int i)) : v = .int i := by cases h; rfl
theorem Dq.str_inv {x : Str} (h : Dq H v (.str x)) : v = .str x := by cases h; rfl
theorem Dq.non_inv (h : Dq H v .none) : v = .non := by cases h; rfl
theorem Dq.bl_inv {b : Bool} (h : Dq H v (.bool b)) : v = .bl b := by cases h; rfl
theorem DqAll.cons_inv (h : DqAll H vs (d :: ds)) : ∃ v ws, vs = v :: ws ∧ Dq H v d ∧ DqAll H ws ds := by
  cases h with | cons a b => exact ⟨_, _, rfl, a, b⟩
theorem DqAll.nil_inv (h : DqAll H vs []) : vs = [] := by cases h; rfl
end

/-! ### flat values: what may stand in a layout, a tuple of numbers -/
def fl : V → Bool
  | .non => true
  | .int _ => true
  | .str _ => true
  | _ => false
def dV : V → PyData
  | .int i => .int i
  | .str x => .str x
  | _ => .none
theorem Dq.flat {H : Hp} {x : V} (h : fl x = true) : Dq H x (dV x) := by
  cases x <;> first | exact .non | exact .int _ | exact .str _ | cases h
theorem Dq.flat_inv {H : Hp} {v x : V} (h : fl x = true) (q : Dq H v (dV x)) : v = x := by
  cases x <;> first | exact q.non_inv | exact q.int_inv | exact q.str_inv | cases h
theorem DqAll.flat {H : Hp} : ∀ {xs : List V}, xs.all fl = true → DqAll H xs (xs.map dV)
  | [], _ => .nil
  | x :: xs, h => by
    simp only [List.all_cons, Bool.and_eq_true] at h
    exact .cons (Dq.flat h.1) (DqAll.flat h.2)
theorem DqAll.flat_inv {H : Hp} : ∀ {xs vs : List V}, xs.all fl = true → DqAll H vs (xs.map dV) → vs = xs
  | [], _, _, q => q.nil_inv
  | x :: xs, vs, h, q => by
    simp only [List.all_cons, Bool.and_eq_true] at h
    obtain ⟨v, ws, rfl, q1, q2⟩ := q.cons_inv
    rw [Dq.flat_inv h.1 q1, DqAll.flat_inv h.2 q2]
/-- a tuple of flat things as data -/
def eL (l : List V) : PyData := .tuple (l.map dV)
theorem Dq.eL {H : Hp} {a : Addr} {l : List V} (h : Tq H a l) (hf : l.all fl = true) : Dq H (.ref a) (eL l) := .tup h (DqAll.flat hf)
theorem Dq.eL_inv {H : Hp} {v : V} {l : List V} (hf : l.all fl = true) (h : Dq H v (Cc.eL l)) : ∃ a, v = .ref a ∧ Tq H a l := by
  obtain ⟨a, xs, rfl, h1, h2⟩ := Dq.tup_inv h
  rw [DqAll.flat_inv hf h2] at h1
  exact ⟨a, rfl, h1⟩
/-- a list of things that never change -/
def Ls (H : Hp) (l : Addr) (ds : List PyData) : Prop := ∃ vs, H l = some (.lst vs) ∧ DqAll H vs ds
theorem Ls.mono {H H' : Hp} {l : Addr} {ds : List PyData} (h : Ls H l ds) (e : Same H H') : Ls H' l ds := by
  obtain ⟨vs, h1, h2⟩ := h
  exact ⟨vs, e _ _ h1, h2.mono (Tk.of e)⟩
theorem Ls.dp {K : PySem.W.Frag} {H : Hp} {l : Addr} {ds : List PyData} (h : Ls H l ds) : Dp K H (.ref l) (.list ds) := by
  obtain ⟨vs, h1, h2⟩ := h
  exact .lst (SqL.of h1) h2.dp
end Cc

end

section
set_option Elab.async false
set_option linter.all false
set_option maxRecDepth 100000
set_option maxHeartbeats 4000000
namespace Cc
open PySem PySem.Spec L2

theorem sz_ok {n : Nat} (h : n ≤ 1000000) : n ≤ sizeLine := Nat.le_trans h (by decide)
theorem sz_lt {n : Nat} (h : n ≤ 1000000) : n < sizeLine := Nat.lt_of_le_of_lt h (by decide)

/-! ### readings opened one step -/
section
variable {te ta tb tc : TE} {g : TG} {D : Ends} {σ : St} {H : Hp} {Q : VK} {t u : TS} {tt : TT} {r : List V → Hp → VK → Prop}
theorem r_ret (h : te σ H D.rt) : tRet te D σ H := h
theorem r_asg (h : te σ H fun x H1 => g x σ H1 D.nx) : tAsg te g D σ H := h
theorem r_set {i : Nat} (h : te σ H fun x H1 => D.nx (σ.set i (some x)) H1) : tAsg te (gName i) D σ H := h
theorem r_seq (h : t { D with nx := u D } σ H) : tSeq t u D σ H := h
theorem r_drop (h : te σ H fun _ H1 => D.nx σ H1) : tDrop te D σ H := h
theorem r_if (h : tt σ H fun b H1 => if b = true then t D σ H1 else u D σ H1) : tIfS tt t u D σ H := h
theorem r_cb1 (h : te σ H fun v H1 => r [v] H1 Q) : tCB r (tCons te tNil) σ H Q := h
theorem r_cb2 (h : ta σ H fun v H1 => tb σ H1 fun u H2 => r [v, u] H2 Q) : tCB r (tCons ta (tCons tb tNil)) σ H Q := h
theorem r_op {r : R2} (h : ta σ H fun x H1 => tb σ H1 fun y H2 => r x y H2 Q) : tOp r ta tb σ H Q := h
theorem r_call1 {sp : Sp} {E : XK} (h : ta σ H fun x H1 => sp [x] H1 Q E) : tCall sp [] E (tCons ta tNil) σ H Q := h
theorem r_call2 {sp : Sp} {E : XK} (h : ta σ H fun x H1 => tb σ H1 fun y H2 => sp [x, y] H2 Q E) : tCall sp [] E (tCons ta (tCons tb tNil)) σ H Q := h
theorem r_call3 {sp : Sp} {E : XK} (h : ta σ H fun x H1 => tb σ H1 fun y H2 => tc σ H2 fun z H3 => sp [x, y, z] H3 Q E) : tCall sp [] E (tCons ta (tCons tb (tCons tc tNil))) σ H Q := h
end

/-! ### one turn of a comprehension: the item x is left out (none), or a thing like d is made -/
def TurnOk (g : TG) (tt : TT) (te : TE) (vs : List Nat) (σ : St) (x : V) (H1 : Hp) (o : Option PyData) : Prop :=
  ∀ (N : Option V → Hp → Prop), (∀ H2, Same H1 H2 → o = none → N none H2) → (∀ v H2 d, Same H1 H2 → o = some d → Dq H2 v d → N (some v) H2) →
    g x (wipe σ vs) H1 fun σ2 H2 => wipe σ2 vs = wipe σ vs ∧ tt σ2 H2 fun b H3 => if b = true then te σ2 H3 fun y H4 => N (some y) H4 else N none H3

section
variable {g : TG} {tt : TT} {te : TE} {vs : List Nat} {σ : St} {x : V} {H1 : Hp} {d : PyData} {o : Option PyData}
theorem turn_1 {i : Nat} (h : ∀ N : VK, (∀ v H2, Same H1 H2 → Dq H2 v d → N v H2) → te ((wipe σ vs).set i (some x)) H1 N)
    (hw : wipe ((wipe σ vs).set i (some x)) vs = wipe σ vs := by rfl) : TurnOk (gName i) tYes te vs σ x H1 (some d) := fun N h0 h1 =>
  ⟨hw, iteT (B := N none H1) (h (fun y H4 => N (some y) H4) fun v H2 s q => h1 v H2 d s rfl q)⟩
theorem turn_t {i : Nat} {b : Bool} (ht : ∀ R : Bool → Hp → Prop, (∀ H2, Same H1 H2 → R b H2) → tt ((wipe σ vs).set i (some x)) H1 R) (h0 : b = false → o = none)
    (h1 : b = true → ∃ d, o = some d ∧ ∀ H2, Same H1 H2 → ∀ N : VK, (∀ v H3, Same H2 H3 → Dq H3 v d → N v H3) → te ((wipe σ vs).set i (some x)) H2 N)
    (hw : wipe ((wipe σ vs).set i (some x)) vs = wipe σ vs := by rfl) : TurnOk (gName i) tt te vs σ x H1 o := fun N k0 k1 =>
  ⟨hw, ht _ fun H2 s2 => by
    cases b with
    | true =>
      obtain ⟨d, e, q⟩ := h1 rfl
      exact iteT (q H2 s2 _ fun v H3 s3 q3 => k1 v H3 d (s2.trans s3) e q3)
    | false => exact iteF (k0 H2 s2 (h0 rfl))⟩
end
theorem lc_run {α : Type} {J : It} {n : Nat} {G : Hp → Prop} {Y : Nat → Hp → V → Hp → Prop} (w : Walk J n G Y) {g : TG} {tt : TT} {te : TE} {vs : List Nat} {σ : St} {H1 : Hp} {D : Addr} {Qd : Hp → Prop}
    (as : List α) (Rep : α → V → Hp → Prop) (r : α → Option PyData) (hn : as.length = n) (hsz : n ≤ 1000000) (hD : H1 D = none) (hG : ∀ H, Same H1 H → G H)
    (hY : ∀ i H x H', i < n → Same H1 H → Y i H x H' → Same H H' ∧ ∃ a, as[i]? = some a ∧ Rep a x H')
    (turn : ∀ (i : Nat) a x H, as[i]? = some a → Same H1 H → Rep a x H → TurnOk g tt te vs σ x H (r a))
    (done : ∀ H, Same H1 H → Ls H D (as.filterMap r) → Qd H) :
    ∃ W : Nat → Nat → Hp → Prop, (∃ m, W 0 m (upd H1 D (.lst []))) ∧ ∀ i m H, W i m H →
      (J.stop i H ∧ Qd H) ∨ (J.go i H ∧ ∃ Nx : Hp → Prop, (∀ H', Nx H' → ∃ m', m' < m ∧ W (i + 1) m' H') ∧ ∀ x H', J.yld i H x H' → g x (wipe σ vs) H' fun σ2 H2 => wipe σ2 vs = wipe σ vs ∧ tt σ2 H2 fun b H3 =>
        if b = true then te σ2 H3 fun y H4 => ∃ acc, H4 D = some (.lst acc) ∧ acc.length < sizeLine ∧ Nx (upd H4 D (.lst (acc ++ [y]))) else Nx H3) := by
  refine lc_it w (fun i H => Same H1 H ∧ Ls H D ((as.take i).filterMap r)) ⟨Same.new hD, [], upd_same, by simp; exact .nil⟩ (fun i H _ p => hG H p.1) ?_ (fun H p => done H p.1 (by have e : as.take n = as := List.take_of_length_le (by omega); rw [e] at p; exact p.2))
  rintro i x H H' hi ⟨hs, acc, ha, hq⟩ y
  obtain ⟨s1, a, ea, rp⟩ := hY i H x H' hi hs y
  have et : as.take (i + 1) = as.take i ++ [a] := by rw [List.take_add_one, ea]; simp
  have hl : acc.length ≤ i := by
    rw [hq.length]
    exact Nat.le_trans (List.length_filterMap_le _ _) (by rw [List.length_take]; omega)
  refine turn i a x H' ea (hs.trans s1) rp (fun o H4 => match o with
    | some y => ∃ acc, H4 D = some (.lst acc) ∧ acc.length < sizeLine ∧ (Same H1 (upd H4 D (.lst (acc ++ [y]))) ∧ Ls (upd H4 D (.lst (acc ++ [y]))) D ((as.take (i + 1)).filterMap r))
    | none => Same H1 H4 ∧ Ls H4 D ((as.take (i + 1)).filterMap r)) (fun H2 s2 e => ?_) (fun v H2 d s2 e q => ?_)
  · have s3 := s1.trans s2
    refine ⟨hs.trans s3, acc, s3 _ _ ha, ?_⟩
    rw [et, List.filterMap_append]
    simp only [List.filterMap_cons, e, List.filterMap_nil, List.append_nil]
    exact hq.mono (Tk.of s3)
  · have s3 := s1.trans s2
    have h2 : H2 D = some (.lst acc) := s3 _ _ ha
    refine ⟨acc, h2, sz_lt (by omega), Same.mut (hs.trans s3) hD, acc ++ [v], upd_same, ?_⟩
    rw [et, List.filterMap_append]
    simp only [List.filterMap_cons, e, List.filterMap_nil]
    exact ((hq.mono (Tk.of s3)).append (.one q)).mono (Tk.lst h2)

section
variable {K : PySem.W.Frag} {g : TG} {tt : TT} {te tl : TE} {vs : List Nat} {σ : St} {H : Hp} {Q : VK} {α : Type}
/-- over a tuple of flat things -/
theorem lcTf {a : Addr} {xs : List V} (r : V → Option PyData) (hsz : xs.length ≤ 1000000)
    (hl : ∀ R : VK, (∀ H1, Same H H1 → R (.ref a) H1) → tl σ H R) (hx : Tq H a xs)
    (turn : ∀ (i : Nat) x H1, xs[i]? = some x → Same H H1 → TurnOk g tt te vs σ x H1 (r x)) (done : ∀ D H1, Same H H1 → Ls H1 D (xs.filterMap r) → Q (.ref D) H1) : tLc (iTup K tl) g tt te vs σ H Q := by
  refine hl _ fun H1 s1 => ⟨a, rfl, ⟨xs, (hx.same s1).seq⟩, fun D hD => ?_⟩
  exact lc_run (walk_tup (K := K) (a := a) (xs := xs)) xs (fun x v _ => v = x) r rfl hsz hD (fun H2 s2 => ((hx.same s1).same s2).seq)
    (fun i H2 x H3 hi s2 y => by obtain ⟨rfl, e⟩ := y; exact ⟨Same.refl _, x, e, rfl⟩) (fun i x v H2 e s2 q => by subst q; exact turn i v H2 e (s1.trans s2)) (fun H2 s2 q => done D H2 (s1.trans s2) q)
/-- over a tuple of things that never change -/
theorem lcT {a : Addr} {xs : List V} (as : List α) (enc : α → PyData) (r : α → Option PyData) (hsz : as.length ≤ 1000000)
    (hl : ∀ R : VK, (∀ H1, Same H H1 → R (.ref a) H1) → tl σ H R) (hx : Tq H a xs) (hq : DqAll H xs (as.map enc))
    (turn : ∀ (i : Nat) b x H1, as[i]? = some b → Same H H1 → Dq H1 x (enc b) → TurnOk g tt te vs σ x H1 (r b)) (done : ∀ D H1, Same H H1 → Ls H1 D (as.filterMap r) → Q (.ref D) H1) : tLc (iTup K tl) g tt te vs σ H Q := by
  have hl2 : xs.length = as.length := by rw [hq.length, List.length_map]
  refine hl _ fun H1 s1 => ⟨a, rfl, ⟨xs, (hx.same s1).seq⟩, fun D hD => ?_⟩
  refine lc_run (walk_tup (K := K) (a := a) (xs := xs)) as (fun b v H => Dq H v (enc b)) r hl2.symm (by omega) hD (fun H2 s2 => ((hx.same s1).same s2).seq)
    (fun i H2 x H3 hi s2 y => ?_) (fun i b x H2 e s2 q => turn i b x H2 e (s1.trans s2) q) (fun H2 s2 q => done D H2 (s1.trans s2) q)
  obtain ⟨rfl, e⟩ := y
  obtain ⟨d, e1, q⟩ := hq.get e
  rw [List.getElem?_map] at e1
  cases eb : as[i]? with
  | none => rw [eb] at e1; cases e1
  | some b =>
    rw [eb] at e1
    obtain rfl : enc b = d := by simpa using e1
    exact ⟨Same.refl _, b, rfl, q.mono (Tk.of (s1.trans s2))⟩
/-- over a list of things that never change -/
theorem lcL (as : List α) (enc : α → PyData) (r : α → Option PyData) (hsz : as.length ≤ 1000000)
    (hl : ∀ R : VK, (∀ l H1, Same H H1 → Ls H1 l (as.map enc) → R (.ref l) H1) → tl σ H R)
    (turn : ∀ (i : Nat) b x H1, as[i]? = some b → Same H H1 → Dq H1 x (enc b) → TurnOk g tt te vs σ x H1 (r b)) (done : ∀ D H1, Same H H1 → Ls H1 D (as.filterMap r) → Q (.ref D) H1) : tLc (iList K tl) g tt te vs σ H Q := by
  refine hl _ fun l H1 s1 ⟨xs, hx, hq⟩ => ?_
  have hl2 : xs.length = as.length := by rw [hq.length, List.length_map]
  refine ⟨l, rfl, ⟨xs, SqL.of hx⟩, fun D hD => ?_⟩
  refine lc_run (walk_list (K := K) (a := l) (xs := xs)) as (fun b v H => Dq H v (enc b)) r hl2.symm (by omega) hD (fun H2 s2 => SqL.of (s2 _ _ hx))
    (fun i H2 x H3 hi s2 y => ?_) (fun i b x H2 e s2 q => turn i b x H2 e (s1.trans s2) q) (fun H2 s2 q => done D H2 (s1.trans s2) q)
  obtain ⟨rfl, e⟩ := y
  obtain ⟨d, e1, q⟩ := hq.get e
  rw [List.getElem?_map] at e1
  cases eb : as[i]? with
  | none => rw [eb] at e1; cases e1
  | some b =>
    rw [eb] at e1
    obtain rfl : enc b = d := by simpa using e1
    exact ⟨Same.refl _, b, rfl, q.mono (Tk.of s2)⟩
/-- over range(n) -/
theorem lcR {n : Int} {ta : TA} (r : Nat → Option PyData) (h0 : 0 ≤ n) (hsz : n ≤ 1000000) (hl : ∀ R : List V → Hp → Prop, (∀ H1, Same H H1 → R [.int n] H1) → ta σ H R)
    (turn : ∀ (i : Nat) H1, (i : Int) < n → Same H H1 → TurnOk g tt te vs σ (.int (i : Int)) H1 (r i)) (done : ∀ D H1, Same H H1 → Ls H1 D ((List.range n.toNat).filterMap r) → Q (.ref D) H1) : tLc (iRng1 ta) g tt te vs σ H Q := by
  refine hl _ fun H1 s1 => ⟨n, rfl, by omega, by omega, fun D hD => ?_⟩
  refine lc_run (walk_range (lo := 0) (n := n.toNat)) (List.range n.toNat) (fun i v _ => v = .int ((i : Nat) : Int)) r (by simp) (by omega) hD (fun _ _ => trivial)
    (fun i H2 x H3 hi s2 y => ?_) (fun i b x H2 e s2 q => ?_) (fun H2 s2 q => done D H2 (s1.trans s2) q)
  · obtain ⟨rfl, rfl⟩ := y
    exact ⟨Same.refl _, i, by simp [hi], by simp⟩
  · subst q
    have : i < n.toNat ∧ i = b := by
      have := List.getElem?_eq_some_iff.mp e
      obtain ⟨h1, h2⟩ := this
      simp at h1 h2
      exact ⟨by omega, h2⟩
    obtain ⟨h1, rfl⟩ := this
    exact turn i H2 (by omega) (s1.trans s2)
end
end Cc

end

section
set_option Elab.async false
set_option linter.all false
set_option maxRecDepth 100000
set_option maxHeartbeats 4000000
namespace Cc
open PySem PySem.Spec L2

/-! ### dicts whose keys are tuples of flat things (None, ints, texts) -/
def nk : V → NestedKey
  | .int i => .num i
  | .str x => .text x
  | _ => .none
def tk (l : List V) : NestedKey := .tup (l.map nk)
theorem nk_inj {x y : V} (hx : fl x = true) (hy : fl y = true) (e : nk x = nk y) : x = y := by
  cases x <;> cases y <;> simp_all [nk, fl]
theorem nks_inj : ∀ {l m : List V}, l.all fl = true → m.all fl = true → l.map nk = m.map nk → l = m
  | [], [], _, _, _ => rfl
  | [], _ :: _, _, _, e => by simp at e
  | _ :: _, [], _, _, e => by simp at e
  | x :: l, y :: m, h1, h2, e => by
    simp only [List.all_cons, Bool.and_eq_true] at h1 h2
    simp only [List.map_cons, List.cons.injEq] at e
    rw [nk_inj h1.1 h2.1 e.1, nks_inj h1.2 h2.2 e.2]
theorem tk_inj {l m : List V} (h1 : l.all fl = true) (h2 : m.all fl = true) (e : tk l = tk m) : l = m := nks_inj h1 h2 (by unfold tk at e; injection e)
theorem nested_all {h : Heap} : ∀ {l : List V} {us : List Value}, l.all fl = true → Vals l us → NestedAll h (l.map nk) us
  | [], us, _, r => by cases r; exact .nil
  | x :: l, us, hf, r => by
    simp only [List.all_cons, Bool.and_eq_true] at hf
    cases r with
    | cons r t =>
      refine .cons ?_ (nested_all hf.2 t)
      cases x with
      | non => cases r; exact .none
      | int i => obtain ⟨t, rfl⟩ := r; exact .int i t
      | str z => obtain ⟨t, rfl⟩ := r; exact .text z t
      | _ => exact absurd hf.1 (by simp [fl])
theorem nk_depth (x : V) : (nk x).depth = 0 := by cases x <;> rfl
theorem nks_depth : ∀ l : List V, NestedKey.depthAll (l.map nk) = 0
  | [] => rfl
  | x :: l => by
    show max (nk x).depth (NestedKey.depthAll (l.map nk)) = 0
    rw [nk_depth, nks_depth l]; rfl
theorem tk_depth (l : List V) : (tk l).depth ≤ 8 := by
  show NestedKey.depthAll (l.map nk) + 1 ≤ 8
  rw [nks_depth]; decide
theorem key_at {P : Program} {w : World} {H : Hp} {h : Heap} {a : Addr} {l : List V} (ok : HOk P w H h) (e : Tq H a l) (hf : l.all fl = true) : (nestedKind P w).is h (tk l) a := by
  obtain ⟨_, its, r, o, h1, h2, n, h3⟩ := (show ObjOk P w H h a (.tup l) from e.rd.ok ok)
  exact ⟨.tup h1 h2 h3 (by simpa using nested_all hf r), tk_depth l⟩

/-- an entry: the key, its tuple's address, the value -/
abbrev Ent := List V × Addr × V
abbrev KA : List Ent → List (NestedKey × Addr × Value) → Prop := Paired fun p q => tk p.1 = q.1 ∧ p.2.1 = q.2.1 ∧ RelV p.2.2 q.2.2
def DD0 (P : Program) (w : World) (h : Heap) (a : Addr) (kvs : List Ent) : Prop :=
  kvs.length ≤ sizeLine ∧ (a == sysModules) = false ∧ ∃ xs : List (NestedKey × Addr × Value), KA kvs xs ∧
    ∃ o es ep, h.get? a = some o ∧ o.ExactDict ∧ o.data = .dict es ep ∧ es.toList = xs.map (entryOfKey (nestedKind P w)) ∧ (xs.map (·.1)).Nodup
/-- the dict at a -/
def DD (P : Program) (w : World) (a : Addr) (kvs : List Ent) : HO := .ext fun h => DD0 P w h a kvs
/-- the keys' tuples stand -/
def KD (H : Hp) (kvs : List Ent) : Prop := ∀ p ∈ kvs, Tq H p.2.1 p.1 ∧ p.1.all fl = true
theorem KD.mono {H H' : Hp} {kvs : List Ent} (h : KD H kvs) (t : Tk H H') : KD H' kvs := fun p hp => ⟨t _ _ (h p hp).1, (h p hp).2⟩
theorem DD_ne {P w a kvs} : (∀ o xs, DD P w a kvs ≠ .frz o (.tup xs)) := fun o xs z => by unfold DD at z; cases z
theorem DD_nel {P w a kvs} : (∀ xs, DD P w a kvs ≠ .lst xs) := fun xs z => by unfold DD at z; cases z
theorem DD_mut {P w a kvs} : Mut (some (DD P w a kvs)) := by unfold DD; exact True.intro

def atD (kvs : List Ent) (k : List V) : Option (Addr × V) := (kvs.find? fun p => decide (p.1 = k)).map (·.2)
def putD (kvs : List Ent) (k : List V) (b : Addr) (v : V) : List Ent :=
  if (atD kvs k).isSome then kvs.map (fun p => if p.1 = k then (p.1, p.2.1, v) else p) else kvs ++ [(k, b, v)]
theorem putD_len (kvs : List Ent) (k : List V) (b : Addr) (v : V) : (putD kvs k b v).length ≤ kvs.length + 1 := by
  unfold putD; split <;> simp
theorem KD.put {H : Hp} {kvs : List Ent} {k : List V} {b : Addr} {v : V} (h : KD H kvs) (hb : Tq H b k) (hf : k.all fl = true) : KD H (putD kvs k b v) := by
  intro p hp
  unfold putD at hp
  split at hp
  · obtain ⟨q, hq, rfl⟩ := List.mem_map.mp hp
    have := h q hq
    split <;> exact this
  · rcases List.mem_append.mp hp with hp | hp
    · exact h p hp
    · obtain rfl := List.mem_singleton.mp hp
      exact ⟨hb, hf⟩
/-- the look-up among raw entries -/
theorem KA.at {kvs : List Ent} {xs : List (NestedKey × Addr × Value)} (r : KA kvs xs) {k : List V} (hk : k.all fl = true) (hf : ∀ p ∈ kvs, p.1.all fl = true) :
    (∃ b v u, atD kvs k = some (b, v) ∧ atKey xs (tk k) = some (b, u) ∧ RelV v u) ∨ (atD kvs k = none ∧ atKey xs (tk k) = none) := by
  induction r with
  | nil => exact .inr ⟨rfl, rfl⟩
  | @cons p q ps qs h t ih =>
    obtain ⟨pk, pb, pv⟩ := p
    obtain ⟨qk, qb, qv⟩ := q
    obtain ⟨h1, h2, h3⟩ := h
    simp only at h1 h2 h3
    subst h2
    have hp : pk.all fl = true := hf (pk, pb, pv) List.mem_cons_self
    by_cases e : pk = k
    · subst e
      exact .inl ⟨pb, pv, qv, by simp [atD], by simp [atKey, ← h1], h3⟩
    · have e2 : qk ≠ tk k := fun z => e (tk_inj hp hk (h1.trans z))
      have ih := ih fun z hz => hf z (List.mem_cons_of_mem _ hz)
      have e3 : atD ((pk, pb, pv) :: ps) k = atD ps k := by simp [atD, e]
      have e4 : atKey ((qk, pb, qv) :: qs) (tk k) = atKey qs (tk k) := by simp [atKey, e2]
      rw [e3, e4]
      exact ih
theorem KA.put {kvs : List Ent} {xs : List (NestedKey × Addr × Value)} (r : KA kvs xs) {k : List V} {b : Addr} {v : V} {u : Value} (hk : k.all fl = true) (hf : ∀ p ∈ kvs, p.1.all fl = true) (ru : RelV v u) :
    KA (putD kvs k b v) (storedH xs (tk k) b u) := by
  have hm : ∀ {kvs : List Ent} {xs : List (NestedKey × Addr × Value)}, KA kvs xs → (∀ p ∈ kvs, p.1.all fl = true) →
      KA (kvs.map (fun p => if p.1 = k then (p.1, p.2.1, v) else p)) (xs.map (putAt (tk k) u)) := by
    intro kvs xs r
    induction r with
    | nil => intro _; exact .nil
    | @cons p q ps qs h t ih =>
      intro hf
      refine .cons ?_ (ih fun z hz => hf z (List.mem_cons_of_mem _ hz))
      have hp : p.1.all fl = true := hf p List.mem_cons_self
      have fin : ∀ (p' : Ent) (q' : NestedKey × Addr × Value), p' = (if p.1 = k then (p.1, p.2.1, v) else p) → q' = putAt (tk k) u q → tk p'.1 = q'.1 ∧ p'.2.1 = q'.2.1 ∧ RelV p'.2.2 q'.2.2 := by
        intro p' q' ep eq
        by_cases e : p.1 = k
        · have e2 : q.1 = tk k := by rw [← h.1, e]
          rw [if_pos e] at ep
          unfold putAt at eq
          rw [if_pos e2] at eq
          subst ep eq
          exact ⟨h.1, h.2.1, ru⟩
        · have e2 : q.1 ≠ tk k := fun z => e (tk_inj hp hk (h.1.trans z))
          rw [if_neg e] at ep
          unfold putAt at eq
          rw [if_neg e2] at eq
          subst ep eq
          exact h
      exact fin _ _ rfl rfl
  unfold putD storedH
  rcases r.at hk hf with ⟨b', v', u', e1, e2, _⟩ | ⟨e1, e2⟩
  · rw [e1, e2]
    simp only [Option.isSome_some, if_true]
    exact hm r hf
  · rw [e1, e2]
    simp only [Option.isSome_none, Bool.false_eq_true, if_false]
    have ha : ∀ {kvs : List Ent} {xs : List (NestedKey × Addr × Value)}, KA kvs xs → KA (kvs ++ [(k, b, v)]) (xs ++ [(tk k, b, u)]) := by
      intro kvs xs r
      induction r with
      | nil => exact .cons ⟨rfl, rfl, ru⟩ .nil
      | cons h t ih => exact .cons h ih
    exact ha r
section
variable {P : Program} {w : World} {H : Hp} {h : Heap} {a : Addr} {kvs : List Ent}
theorem DD0.at {h' : Heap} (x : DD0 P w h a kvs) (k : ∀ o, h.get? a = some o → h'.get? a = some o) : DD0 P w h' a kvs := by
  obtain ⟨z, y, xs, r, o, es, ep, e, c⟩ := x
  exact ⟨z, y, xs, r, o, es, ep, k _ e, c⟩
theorem DD_new (x : DD0 P w h a kvs) : ObjOk P w H h a (DD P w a kvs) := by
  refine ⟨x, ?_, fun h1 h2 x1 k => x1.at k⟩
  obtain ⟨z, y, xs, r, o, es, ep, e, c⟩ := x
  exact ⟨o, e⟩
theorem dd_rd (ok : HOk P w H h) (e : Rd H a (DD P w a kvs)) (kd : KD H kvs) : kvs.length ≤ sizeLine ∧ (a == sysModules) = false ∧
    ∃ xs, KA kvs xs ∧ h.DictOfH (nestedKind P w) a xs := by
  obtain ⟨⟨z, y, xs, r, o, es, ep, h1, h2, h3, h4, h5⟩, _, _⟩ := (show ObjOk P w H h a (DD P w a kvs) from rd_of ok e)
  refine ⟨z, y, xs, r, o, es, ep, h1, h2, h3, h4, fun x hx => ?_, h5⟩
  have all : ∀ {l : List Ent} {m : List (NestedKey × Addr × Value)}, KA l m → (∀ p ∈ l, Tq H p.2.1 p.1 ∧ p.1.all fl = true) → ∀ x ∈ m, (nestedKind P w).is h x.1 x.2.1 := by
    intro l m q
    induction q with
    | nil => intro _ x hx; exact nomatch hx
    | @cons p q ps qs hq t ih =>
      intro hk x hx
      rcases List.mem_cons.mp hx with e | hx
      · subst e
        obtain ⟨k1, k2⟩ := hk p List.mem_cons_self
        rw [← hq.1, ← hq.2.1]
        exact key_at ok k1 k2
      · exact ih (fun z hz => hk z (List.mem_cons_of_mem _ hz)) x hx
  exact all r kd x hx
theorem dd_empty {H : Hp} (h : Heap) (hb : sysModules < h.objs.size) : ObjOk P w H (h.push { cls := .type "dict", data := .dict #[] }) h.objs.size (DD P w h.objs.size []) :=
  DD_new ⟨Nat.zero_le _, beq_eq_false_iff_ne.mpr (Ne.symm (Nat.ne_of_lt hb)), [], .nil, _, #[], 0, Heap.get?_push_size _ rfl, ⟨rfl, rfl, rfl⟩, rfl, rfl, List.nodup_nil⟩
end
theorem room8 {P : Program} {w : World} {A : Around} (hu : A.units + 64 < cLine) : (nestedKind P w).room A.in1 := by
  show A.in1.units + 8 < cLine
  have : A.in1.units = A.units + 1 := rfl
  omega
section
variable {X : Cx} {pins : List (Addr × Obj)} {σ : L2.St} {H : Hp} {s : Shared} {a b : Addr} {kvs : List Ent} {k : List V} {v d : V} {r : Value} {A : Around} {E : Value → Shared → Prop}
theorem dd_getItem {c : Addr} {Q : Value → Shared → Prop} (hu : A.units + 64 < cLine) (I : Inv X pins σ H s) (e : Rd H a (DD X.prog X.w a kvs)) (kd : KD H kvs) (hb : Tq H b k) (hf : k.all fl = true) (hv : atD kvs k = some (c, v))
    (h : ∀ w' s', Inv X pins σ H s' → RelV v w' → Q w' s') : wpAny (model X.prog X.w) A (getItem (.ref a) (.ref b)) Q E s := by
  obtain ⟨z, hd, xs, rel, dd⟩ := dd_rd I.hok e kd
  rcases rel.at hf (fun p hp => (kd p hp).2) with ⟨b', v', u', e1, e2, e3⟩ | ⟨e1, e2⟩
  · rw [hv] at e1
    cases e1
    exact wpAny_getItem_heap (room8 hu) (key_at I.hok hb hf) dd e2 (h u' _ (I.tok _) e3)
  · rw [hv] at e1; cases e1
theorem dd_get2 {Q : Value → Shared → Prop} (hu : A.units + 64 < cLine) (I : Inv X pins σ H s) (e : Rd H a (DD X.prog X.w a kvs)) (kd : KD H kvs) (hb : Tq H b k) (hf : k.all fl = true) (rd : RelV d r)
    (h : ∀ w' s', Inv X pins σ H s' → RelV (((atD kvs k).map (·.2)).getD d) w' → Q w' s') : wpAny (model X.prog X.w) A (call (.builtin "dict.get") [.ref a, .ref b, r]) Q E s := by
  obtain ⟨z, hd, xs, rel, dd⟩ := dd_rd I.hok e kd
  refine call_meetsIn PySem.F.slot_dict_get dd.typeIs PySem.F.entry_dict_get (PySem.F.args_dict_get_3 _ _ _) (meetsH_dict_get_default (nestedKind X.prog X.w) a b hd r) ⟨room8 hu, tk k, xs, key_at I.hok hb hf, dd, h _ _ (I.tok _) ?_⟩
  rcases rel.at hf (fun p hp => (kd p hp).2) with ⟨b', v', u', e1, e2, e3⟩ | ⟨e1, e2⟩
  · rw [e1, e2]; exact e3
  · rw [e1, e2]; exact rd
theorem dd_setItem {Q : Unit → Shared → Prop} (hu : A.units + 64 < cLine) (I : Inv X pins σ H s) (e : H a = some (DD X.prog X.w a kvs)) (kd : KD H kvs) (hb : Tq H b k) (hf : k.all fl = true) (hz : kvs.length < sizeLine) (rv : RelV v r)
    (h : ∀ s', Inv X pins σ (upd H a (DD X.prog X.w a (putD kvs k b v))) s' → Q () s') : wpAny (model X.prog X.w) A (setItem (.ref a) (.ref b) r) Q E s := by
  obtain ⟨z, hd, xs, rel, dd⟩ := dd_rd I.hok (.inl e) kd
  have hx : xs.length ≤ sizeLine := by rw [← Paired.length rel]; exact z
  have hl : (putD kvs k b v).length ≤ sizeLine := by have := putD_len kvs k b v; omega
  refine wpAny_setItem_heap (hsz := hx) (room8 hu) (key_at I.hok hb hf) dd fun h' dd' hs => h _ ?_
  obtain ⟨q, es, ep, hq, h2, h3, h4, _, h5⟩ := dd'
  exact d_write I (by rw [e]; exact DD_mut) hs ⟨q, hq⟩ (DD_new ⟨hl, hd, _, rel.put hf (fun p hp => (kd p hp).2) rv, q, es, ep, hq, h2, h3, h4, h5⟩)
theorem dd_typeIs (I : Inv X pins σ H s) (e : Rd H a (DD X.prog X.w a kvs)) : s.TypeIs (.ref a) "dict" ∧ (∀ b, Value.ref a = .ref b → ∃ ob, s.heap.get? b = some ob ∧ ob.dict = none) := by
  obtain ⟨⟨z, y, xs, r, o, es, ep, h1, h2, h3, h4, h5⟩, _, _⟩ := (show ObjOk X.prog X.w H s.heap a (DD X.prog X.w a kvs) from rd_of I.hok e)
  exact ⟨⟨o, h1, h2.1⟩, fun b e => by cases e; exact ⟨o, h1, h2.2.1⟩⟩
end
/-! readings -/
def tDDNew (P : Program) (w : World) : TE := fun _ H Q => ∀ p, H p = none → Q (.ref p) (upd H p (DD P w p []))
/-- d[y] -/
def tDDGet (P : Program) (w : World) (td ty : TE) : TE := fun σ H Q => td σ H fun x H1 => ty σ H1 fun y H2 => ∃ a b c kvs k v, x = .ref a ∧ y = .ref b ∧ Rd H2 a (DD P w a kvs) ∧ KD H2 kvs ∧ Tq H2 b k ∧ k.all fl = true ∧ atD kvs k = some (c, v) ∧ Q v H2
/-- d.get(y, x) -/
def tDDGet2 (P : Program) (w : World) (td ty tx : TE) : TE := fun σ H Q => td σ H fun x H1 => (∃ a kvs, x = .ref a ∧ Rd H1 a (DD P w a kvs)) ∧ ty σ H1 fun y H2 => tx σ H2 fun z H3 => ∃ a b kvs k, x = .ref a ∧ y = .ref b ∧ Rd H3 a (DD P w a kvs) ∧ KD H3 kvs ∧ Tq H3 b k ∧ k.all fl = true ∧
  Q (((atD kvs k).map (·.2)).getD z) H3
/-- d[y] = v -/
def sDDPut (P : Program) (w : World) (td ty tv : TE) : TS := fun D σ H => tv σ H fun v H1 => td σ H1 fun x H2 => ty σ H2 fun y H3 => ∃ a b kvs k, x = .ref a ∧ y = .ref b ∧ H3 a = some (DD P w a kvs) ∧ KD H3 kvs ∧ Tq H3 b k ∧ k.all fl = true ∧ kvs.length < sizeLine ∧
  D.nx σ (upd H3 a (DD P w a (putD kvs k b v)))
section
variable {X : Cx} {o i e f value : Expr} {pos pos' apos cpos : Pos} {td ty tv tx : TE}
theorem pe_ddnew : PE X (.Dict [] [] pos) (tDDNew X.prog X.w) := ⟨fun pins s σ H Q I h =>
  wpAny_Dict_empty ⟨.ref s.heap.objs.size, _, I.laid (a := s.heap.objs.size) (o := DD X.prog X.w s.heap.objs.size []) (t' := s.toks) (fun _ _ q => Heap.get?_push_of_some _ q) (Nat.le_refl _) (dd_empty s.heap I.big), rfl, h _ (I.hok.fresh (Nat.le_refl _))⟩⟩
theorem pe_ddget (hu : X.A.units + 64 < cLine) (ho : PE X o td) (hi : PE X i ty) (hs : NoSl i) : PE X (.Subscript o i pos) (tDDGet X.prog X.w td ty) := by
  refine ⟨fun pins s σ H Q I h => ?_⟩
  refine subD_of PySem.F.slot_dict_getitem.lookup hs (thn (ho.run pins s σ H _ I h) fun u s1 ⟨x, H1, I1, rx, q1⟩ => thn (hi.run pins s1 σ H1 _ I1 q1) fun iv s2 ⟨y, H2, I2, ry, a, b, c, kvs, k, v, ex, ey, g, kd, hb, hf, hv, q2⟩ => ?_)
  subst ex ey
  obtain rfl : u = Value.ref a := rx
  obtain rfl : iv = Value.ref b := ry
  exact ⟨(dd_typeIs I2 g).1, dd_getItem hu I2 g kd hb hf hv fun w' s3 I3 rw' => ⟨v, H2, I3, rw', q2⟩⟩
theorem pe_ddget2 (hu : X.A.units + 64 < cLine) (ho : PE X o td) (he : PE X e ty) (hf : PE X f tx) (m : M2 X o "get" apos e f cpos) : PE X (.Call (.Attribute o "get" apos) [e, f] [] cpos) (tDDGet2 X.prog X.w td ty tx) := by
  refine ⟨fun pins s σ H Q I h => ?_⟩
  refine wpAny_Call_method m.base m.few m.line PySem.F.plainAttrs_dict PySem.F.slot_dict_get PySem.F.type_dict_get (thn (ho.run pins s σ H _ I h) fun u s1 ⟨x, H1, I1, rx, ⟨a, kv0, ex, d0⟩, q1⟩ => ?_)
  subst ex
  obtain rfl : u = Value.ref a := rx
  obtain ⟨t1, t2⟩ := dd_typeIs I1 d0
  refine ⟨t1, t2, ?_⟩
  rw [m.trees]
  refine Calls.callWith_builtin rfl (Calls.evalArgs_plain (Calls.spliced_cons (thn (he.run pins s1 σ H1 _ I1 q1) fun iv s2 ⟨y, H2, I2, ry, q2⟩ =>
    Calls.spliced_cons (thn (hf.run pins s2 σ H2 _ I2 q2) fun fv s3 ⟨z, H3, I3, rz, a', b, kvs, k, ex, ey, g, kd, hb, hfl, q3⟩ => Calls.spliced_nil ?_))))
  cases ex
  subst ey
  obtain rfl : iv = Value.ref b := ry
  exact dd_get2 hu I3 g kd hb hfl rz fun w' s4 I4 rw' => ⟨_, H3, I4, rw', q3⟩
theorem ps_ddput (hu : X.A.units + 64 < cLine) (ho : PE X o td) (hi : PE X i ty) (hv : PE X value tv) (hs : swapsWith value (some (.Subscript o i pos')) pos.line X.env = pure false) :
    PS X (.Assign [.Subscript o i pos'] value pos) (sDDPut X.prog X.w td ty tv) := by
  refine ⟨fun pins s σ H D I h => ?_⟩
  refine wpAny_Assign_Subscript (thn (hv.run pins s σ H _ I h) fun r s1 ⟨v, H1, I1, rv, q1⟩ => thn (ho.run pins s1 σ H1 _ I1 q1) fun u s2 ⟨x, H2, I2, rx, q2⟩ => thn (hi.run pins s2 σ H2 _ I2 q2) fun iv s3 ⟨y, H3, I3, ry, a, b, kvs, k, ex, ey, g, kd, hb, hf, hz, q3⟩ => ?_) hs
  subst ex ey
  obtain rfl : u = Value.ref a := rx
  obtain rfl : iv = Value.ref b := ry
  exact dd_setItem hu I3 g kd hb hf hz rv fun s4 I4 => ⟨σ, _, I4, q3⟩
end
end Cc

end

section
set_option Elab.async false
set_option linter.all false
set_option maxRecDepth 100000
set_option maxHeartbeats 4000000
namespace Cc
open PySem PySem.Spec L2

/-! ### for k in d, d.items(), d.values(); len(d) -/
section
variable {X : Cx} {pins : List (Addr × Obj)} {σ : L2.St} {H : Hp} {s : Shared} {d : Addr} {o : Obj} {kvs : List Ent}
theorem frzD (I : Inv X pins σ H s) (h : H d = some (.frz o (DD X.prog X.w d kvs))) :
    (d == sysModules) = false ∧ s.heap.get? d = some o ∧ o.ExactDict ∧ ∃ (es : Array DictEntry) (ep : Nat), o.data = .dict es ep ∧ es.size = kvs.length ∧
      ∀ (i : Nat) (hi : i < es.size) (p : Ent), kvs[i]? = some p → es[i].key = .ref p.2.1 ∧ RelV p.2.2 es[i].val := by
  obtain ⟨hd, ⟨z, hs, xs, pr, o', es, ep, ho, hx, hdt, he, _⟩, _, _⟩ := I.hok d _ h
  rw [hd] at ho
  cases ho
  have l1 : es.size = xs.length := size_of_entries he
  have l2 : kvs.length = xs.length := Paired.length pr
  refine ⟨hs, hd, hx, es, ep, hdt, by omega, fun i hi p e => ?_⟩
  obtain ⟨b, hb, e1, e2, e3⟩ := paired_get pr e
  have q := entry_at he i
  rw [hb, Array.getElem?_eq_getElem hi] at q
  simp only [Option.map_some, Option.some.injEq] at q
  rw [q]
  exact ⟨by rw [e2]; rfl, e3⟩
end
section
variable (P : Program) (w : World)
/-- the keys of the locked dict at d: each its own tuple -/
def Idk (d : Addr) (o : Obj) (kvs : List Ent) : It :=
  ⟨fun i H => H d = some (.frz o (DD P w d kvs)) ∧ i < kvs.length, fun i H x H' => H' = H ∧ ∃ p, kvs[i]? = some p ∧ x = .ref p.2.1, fun i H => H d = some (.frz o (DD P w d kvs)) ∧ kvs.length ≤ i⟩
def Idv (d : Addr) (o : Obj) (kvs : List Ent) : It :=
  ⟨fun i H => H d = some (.frz o (DD P w d kvs)) ∧ i < kvs.length, fun i H x H' => H' = H ∧ ∃ p, kvs[i]? = some p ∧ x = p.2.2, fun i H => H d = some (.frz o (DD P w d kvs)) ∧ kvs.length ≤ i⟩
/-- the pairs, each a new tuple -/
def Idi (d : Addr) (o : Obj) (kvs : List Ent) : It :=
  ⟨fun i H => H d = some (.frz o (DD P w d kvs)) ∧ i < kvs.length, fun i H x H' => ∃ T p, kvs[i]? = some p ∧ x = .ref T ∧ H T = none ∧ H' = upd H T (.tup [.ref p.2.1, p.2.2]), fun i H => H d = some (.frz o (DD P w d kvs)) ∧ kvs.length ≤ i⟩
end
section
variable {P : Program} {w : World} {K : PySem.W.Frag} {tg : Expr} {d : Addr} {o : Obj} {es : Array DictEntry} {ep : Nat} {kvs : List Ent}
theorem turn_dk (it : Addr) (hod : o.data = .dict es ep) (hsz0 : es.size = kvs.length) : Turn P w K tg (Idk P w d o kvs) [it] it (fun i h => h.IsKeyIter it d i es.size ep) where
  mem := by simp
  obj := fun i h st b hb => by
    have e : b = it := by simpa using hb
    subst e
    obtain ⟨oi, e, c, dd⟩ := st
    exact ⟨oi, e, fun v z => by rw [dd] at z; cases z⟩
  keep := fun i h h' st k => st.at fun oi e => k it (by simp) oi e
  item := by
    intro X hP hw hK hc i pins s σ H E I hf st hg
    subst hP hw hK
    obtain ⟨hd, hi⟩ := hg
    obtain ⟨f0, f1, f2, f3, f4, f5⟩ := hf it (by simp)
    obtain ⟨hs, hgd, hx, es', ep', hdt, hsz, ent⟩ := frzD I hd
    obtain ⟨rfl, rfl⟩ := dict_ep hod hdt
    obtain ⟨p, hkv⟩ : ∃ p, kvs[i]? = some p := ⟨kvs[i], List.getElem?_eq_getElem hi⟩
    have hlt : i < es'.size := by omega
    obtain ⟨hkey, _⟩ := ent i hlt p hkv
    refine wpAny_pyNext_keys_item_raw st ⟨o, hgd, hx, hdt⟩ hlt fun h' st' sb => ?_
    have I1 : Inv X pins σ H { s with heap := h' } := I.turned (t' := s.toks) (fun b ob hb e => (sb.2 b hb).trans e) f0 f1 f3 f4 f5
    obtain ⟨oi, e, c, dd⟩ := id st'
    exact ⟨_, rfl, go_of (s := { s with heap := h' }) e c dd (by decide) ⟨.ref p.2.1, H, I1, hkey, ⟨rfl, p, hkv, rfl⟩, st', fun b hb => (hf b hb).1⟩⟩
  done := by
    intro X hP hw hK hc i pins s σ H E I hf st hg
    subst hP hw hK
    obtain ⟨hd, hi⟩ := hg
    obtain ⟨f0, f1, f2, f3, f4, f5⟩ := hf it (by simp)
    obtain ⟨hs, hgd, hx, es', ep', hdt, hsz, ent⟩ := frzD I hd
    obtain ⟨rfl, rfl⟩ := dict_ep hod hdt
    exact wpAny_pyNext_keys_end_raw (I.ok.hd hc) st ⟨o, hgd, hx, hdt⟩ (by omega) fun h' eb => ⟨rfl, I.turned (t' := s.toks) (fun b ob hb e => eb b ob hb e) f0 f1 f3 f4 f5⟩
  self := fun A i s Q E st h => wpAny_pyIter_keyiter st h
theorem turn_dv (it : Addr) (hod : o.data = .dict es ep) (hsz0 : es.size = kvs.length) : Turn P w K tg (Idv P w d o kvs) [it] it (fun i h => h.IsValIter it d i es.size ep) where
  mem := by simp
  obj := fun i h st b hb => by
    have e : b = it := by simpa using hb
    subst e
    obtain ⟨oi, e, c, dd⟩ := st
    exact ⟨oi, e, fun v z => by rw [dd] at z; cases z⟩
  keep := fun i h h' st k => st.at fun oi e => k it (by simp) oi e
  item := by
    intro X hP hw hK hc i pins s σ H E I hf st hg
    subst hP hw hK
    obtain ⟨hd, hi⟩ := hg
    obtain ⟨f0, f1, f2, f3, f4, f5⟩ := hf it (by simp)
    obtain ⟨hs, hgd, hx, es', ep', hdt, hsz, ent⟩ := frzD I hd
    obtain ⟨rfl, rfl⟩ := dict_ep hod hdt
    obtain ⟨p, hkv⟩ : ∃ p, kvs[i]? = some p := ⟨kvs[i], List.getElem?_eq_getElem hi⟩
    have hlt : i < es'.size := by omega
    obtain ⟨_, hval⟩ := ent i hlt p hkv
    refine wpAny_pyNext_values_item_raw st ⟨o, hgd, hx, hdt⟩ hlt fun h' st' sb => ?_
    have I1 : Inv X pins σ H { s with heap := h' } := I.turned (t' := s.toks) (fun b ob hb e => (sb.2 b hb).trans e) f0 f1 f3 f4 f5
    obtain ⟨oi, e, c, dd⟩ := id st'
    exact ⟨_, rfl, go_of (s := { s with heap := h' }) e c dd (by decide) ⟨p.2.2, H, I1, hval, ⟨rfl, p, hkv, rfl⟩, st', fun b hb => (hf b hb).1⟩⟩
  done := by
    intro X hP hw hK hc i pins s σ H E I hf st hg
    subst hP hw hK
    obtain ⟨hd, hi⟩ := hg
    obtain ⟨f0, f1, f2, f3, f4, f5⟩ := hf it (by simp)
    obtain ⟨hs, hgd, hx, es', ep', hdt, hsz, ent⟩ := frzD I hd
    obtain ⟨rfl, rfl⟩ := dict_ep hod hdt
    exact wpAny_pyNext_values_end_raw (I.ok.hd hc) st ⟨o, hgd, hx, hdt⟩ (by omega) fun h' eb => ⟨rfl, I.turned (t' := s.toks) (fun b ob hb e => eb b ob hb e) f0 f1 f3 f4 f5⟩
  self := fun A i s Q E st h => wpAny_pyIter_valiter st h
theorem turn_di {elts : List Expr} {kk : Nat} {tpos : Pos} (it : Addr) (hod : o.data = .dict es ep) (hsz0 : es.size = kvs.length) :
    Turn P w K (.Tuple elts kk tpos) (Idi P w d o kvs) [it] it (fun i h => ∃ ok ov, IsItemIter h it d i es.size ep ok ov) where
  mem := by simp
  obj := fun i h st b hb => by
    have e : b = it := by simpa using hb
    subst e
    obtain ⟨ok, ov, e⟩ := st
    exact ⟨_, e, fun v z => nomatch z⟩
  keep := fun i h h' st k => let ⟨ok, ov, e⟩ := st; ⟨ok, ov, k it (by simp) _ e⟩
  item := by
    intro X hP hw hK hc i pins s σ H E I hf st hg
    subst hP hw hK
    obtain ⟨hd, hi⟩ := hg
    obtain ⟨hs, hgd, hx, es', ep', hdt, hsz, ent⟩ := frzD I hd
    obtain ⟨rfl, rfl⟩ := dict_ep hod hdt
    obtain ⟨p, hkv⟩ : ∃ p, kvs[i]? = some p := ⟨kvs[i], List.getElem?_eq_getElem hi⟩
    have hlt' : i < es'.size := by omega
    obtain ⟨hkey, hval⟩ := ent i hlt' p hkv
    obtain ⟨ok, ov, he⟩ := st
    have hlt : it < s.heap.objs.size := Heap.lt_size he
    refine wpAny_pyNext_items_item_raw he ⟨o, hgd, hx, hdt⟩ hlt' fun h' ho hT hz hk => ?_
    refine ⟨_, rfl, wpAny_letOwnedTupleGo_items (s := { s with heap := h' }) ho fun h'' he' sb => ?_⟩
    have hT2 : h''.get? s.heap.objs.size = some { cls := .type "tuple", data := .seq #[es'[i].key, es'[i].val] } := (sb.2 _ (Nat.ne_of_gt hlt)).trans hT
    have new : ObjOk X.prog X.w (upd H s.heap.objs.size (.tup [.ref p.2.1, p.2.2])) h'' s.heap.objs.size (.tup [.ref p.2.1, p.2.2]) :=
      ⟨by show 2 ≤ sizeLine; decide, [es'[i].key, es'[i].val], .cons hkey (.cons hval .nil), ⟨_, hT2, rfl, _, rfl⟩⟩
    have I1 : Inv X pins σ (upd H s.heap.objs.size (.tup [.ref p.2.1, p.2.2])) { s with heap := h'' } :=
      I.turnedNew (t' := s.toks) (ch := [it]) (fun b ob hb e => (sb.2 b (by simpa using hb)).trans (hk b ob (by simpa using hb) e)) hf (Nat.le_refl _) new
    refine ⟨.ref s.heap.objs.size, _, I1, rfl, ⟨_, p, hkv, rfl, I.hok.fresh (Nat.le_refl _), rfl⟩, ⟨_, _, he'⟩, fun b hb => ?_⟩
    have e : b = it := by simpa using hb
    rw [e, upd_ne (Nat.ne_of_lt hlt)]
    exact (hf it (by simp)).1
  done := by
    intro X hP hw hK hc i pins s σ H E I hf st hg
    subst hP hw hK
    obtain ⟨hd, hi⟩ := hg
    obtain ⟨f0, f1, f2, f3, f4, f5⟩ := hf it (by simp)
    obtain ⟨hs, hgd, hx, es', ep', hdt, hsz, ent⟩ := frzD I hd
    obtain ⟨rfl, rfl⟩ := dict_ep hod hdt
    obtain ⟨ok, ov, he⟩ := st
    exact wpAny_pyNext_items_end_raw (I.ok.hd hc) he ⟨o, hgd, hx, hdt⟩ (by omega) fun h' eb => ⟨rfl, I.turned (t' := s.toks) (fun b ob hb e => eb b ob hb e) f0 f1 f3 f4 f5⟩
  self := fun A i s Q E st h => let ⟨_, _, e⟩ := st; PySem.W.kcp_self e h
end
def iDk (P : Program) (w : World) (td : TE) : TI := fun σ H R => td σ H fun x H1 => ∃ d o kvs, x = .ref d ∧ H1 d = some (.frz o (DD P w d kvs)) ∧ R (Idk P w d o kvs) H1
def iDv (P : Program) (w : World) (td : TE) : TI := fun σ H R => td σ H fun x H1 => ∃ d o kvs, x = .ref d ∧ H1 d = some (.frz o (DD P w d kvs)) ∧ R (Idv P w d o kvs) H1
def iDi (P : Program) (w : World) (td : TE) : TI := fun σ H R => td σ H fun x H1 => ∃ d o kvs, x = .ref d ∧ H1 d = some (.frz o (DD P w d kvs)) ∧ R (Idi P w d o kvs) H1
section
variable {X : Cx} {tg e : Expr} {td : TE} {apos cpos : Pos}
theorem pi_dk (he : PE X e td) : PI X tg e (iDk X.prog X.w td) := by
  refine ⟨fun pins s σ H R I h => ?_⟩
  refine thn (he.run pins s σ H _ I h) fun u s1 ⟨x, H1, I1, rx, d, o, kvs, ex, hd, q⟩ => ?_
  subst ex
  obtain rfl : u = Value.ref d := rx
  obtain ⟨hs, hgd, hx, es, ep, hdt, hsz, ent⟩ := frzD I1 hd
  exact wpAny_pyIter_dict_raw hs ⟨o, hgd, hx, hdt⟩ (pi_one (tk := s1.toks) I1 _ (turn_dk _ hdt hsz) ⟨_, Heap.get?_push_size _ rfl, rfl, rfl⟩ q)
theorem raw_push {h : Heap} {d : Addr} {es : Array DictEntry} {ep : Nat} {o : Obj} (x : h.DictRaw d es ep) : (h.push o).DictRaw d es ep := x.at fun _ q => Heap.get?_push_of_some _ q
theorem raw_noDict {h : Heap} {d : Addr} {es : Array DictEntry} {ep : Nat} (x : h.DictRaw d es ep) : ∀ b, Value.ref d = .ref b → ∃ ob, h.get? b = some ob ∧ ob.dict = none := fun b e => by
  obtain ⟨o, ho, hx, _⟩ := x
  cases e
  exact ⟨o, ho, hx.2.1⟩
theorem pi_dv (he : PE X e td) (hbase : attributeBase e "values" X.env (eval e X.env) = eval e X.env := by rfl) (hline : (apos.endLine == cpos.line) = true := by rfl) : PI X tg (.Call (.Attribute e "values" apos) [] [] cpos) (iDv X.prog X.w td) := by
  refine ⟨fun pins s σ H R I h => ?_⟩
  refine wpAny_Call_method (T := "dict") (id := "dict.values") hbase rfl hline F.plainAttrs_dict F.slot_dict_values F.type_dict_values (thn (he.run pins s σ H _ I h) fun u s1 ⟨x, H1, I1, rx, d, o, kvs, ex, hd, q⟩ => ?_)
  subst ex
  obtain rfl : u = Value.ref d := rx
  obtain ⟨hs, hgd, hx, es, ep, hdt, hsz, ent⟩ := frzD I1 hd
  have raw : s1.heap.DictRaw d es ep := ⟨o, hgd, hx, hdt⟩
  refine ⟨raw.typeIs, raw_noDict raw, ?_⟩
  have I2 : Inv X pins σ H1 { s1 with heap := s1.heap.push { cls := .type "dict_values", data := .fields #[.ref d] } } := I1.kept (t' := s1.toks) fun b ob q => Heap.get?_push_of_some _ q
  have fin : wpAny (model X.prog X.w) X.A (pyIter (.ref s1.heap.objs.size)) (PIE X pins σ tg R) X.xe { s1 with heap := s1.heap.push { cls := .type "dict_values", data := .fields #[.ref d] } } :=
    wpAny_pyIter_values_raw ⟨_, Heap.get?_push_size _ rfl, rfl, rfl⟩ (raw_push raw) (pi_one (tk := s1.toks) I2 _ (turn_dv _ hdt hsz) ⟨_, Heap.get?_push_size _ rfl, rfl, rfl⟩ q)
  show wpAny _ _ (callWith cpos (.builtin "dict.values") [.ref d] [] []) _ X.xe s1
  exact method_meetsIn F.slot_dict_values F.entry_dict_values rfl (PySem.evalArgs_none ⟨rfl, raw.typeIs, F.args_dict_values_1 _, _, meets_dict_values_raw d hs, ⟨es, ep, raw⟩, fin⟩)
theorem pi_di {elts : List Expr} {kk : Nat} {tpos : Pos} (he : PE X e td) (hbase : attributeBase e "items" X.env (eval e X.env) = eval e X.env := by rfl) (hline : (apos.endLine == cpos.line) = true := by rfl) :
    PI X (.Tuple elts kk tpos) (.Call (.Attribute e "items" apos) [] [] cpos) (iDi X.prog X.w td) := by
  refine ⟨fun pins s σ H R I h => ?_⟩
  refine wpAny_Call_method (T := "dict") (id := "dict.items") hbase rfl hline F.plainAttrs_dict F.slot_dict_items F.type_dict_items (thn (he.run pins s σ H _ I h) fun u s1 ⟨x, H1, I1, rx, d, o, kvs, ex, hd, q⟩ => ?_)
  subst ex
  obtain rfl : u = Value.ref d := rx
  obtain ⟨hs, hgd, hx, es, ep, hdt, hsz, ent⟩ := frzD I1 hd
  have raw : s1.heap.DictRaw d es ep := ⟨o, hgd, hx, hdt⟩
  refine ⟨raw.typeIs, raw_noDict raw, ?_⟩
  have I2 : Inv X pins σ H1 { s1 with heap := s1.heap.push { cls := .type "dict_items", data := .fields #[.ref d] } } := I1.kept (t' := s1.toks) fun b ob q => Heap.get?_push_of_some _ q
  have fin : wpAny (model X.prog X.w) X.A (pyIter (.ref s1.heap.objs.size)) (PIE X pins σ (.Tuple elts kk tpos) R) X.xe { s1 with heap := s1.heap.push { cls := .type "dict_items", data := .fields #[.ref d] } } :=
    wpAny_pyIter_items_raw ⟨_, Heap.get?_push_size _ rfl, rfl, rfl⟩ (raw_push raw) (pi_one (tk := s1.toks) I2 _ (turn_di _ hdt hsz) ⟨.none, .none, Heap.get?_push_size _ rfl⟩ q)
  show wpAny _ _ (callWith cpos (.builtin "dict.items") [.ref d] [] []) _ X.xe s1
  exact method_meetsIn F.slot_dict_items F.entry_dict_items rfl (PySem.evalArgs_none ⟨rfl, raw.typeIs, F.args_dict_items_1 _, _, meets_dict_items_raw d hs, ⟨es, ep, raw⟩, fin⟩)
end
section
variable {P : Program} {w : World} {d : Addr} {o : Obj} {kvs : List Ent}
theorem walk_dk : Walk (Idk P w d o kvs) kvs.length (fun H => H d = some (.frz o (DD P w d kvs))) (fun i H x H' => H' = H ∧ ∃ p, kvs[i]? = some p ∧ x = .ref p.2.1) :=
  ⟨fun _ _ hi q => ⟨q, hi⟩, fun _ q => ⟨q, Nat.le_refl _⟩, fun _ _ _ _ _ _ y => y⟩
theorem walk_dv : Walk (Idv P w d o kvs) kvs.length (fun H => H d = some (.frz o (DD P w d kvs))) (fun i H x H' => H' = H ∧ ∃ p, kvs[i]? = some p ∧ x = p.2.2) :=
  ⟨fun _ _ hi q => ⟨q, hi⟩, fun _ q => ⟨q, Nat.le_refl _⟩, fun _ _ _ _ _ _ y => y⟩
theorem walk_di : Walk (Idi P w d o kvs) kvs.length (fun H => H d = some (.frz o (DD P w d kvs))) (fun i H x H' => ∃ T p, kvs[i]? = some p ∧ x = .ref T ∧ H T = none ∧ H' = upd H T (.tup [.ref p.2.1, p.2.2])) :=
  ⟨fun _ _ hi q => ⟨q, hi⟩, fun _ q => ⟨q, Nat.le_refl _⟩, fun _ _ _ _ _ _ y => y⟩
end
/-! ### len(d) -/
theorem call_len_DD {X : Cx} : CallR X (.builtin "len") (fun xs H Q => ∃ a kvs, xs = [.ref a] ∧ Rd H a (DD X.prog X.w a kvs) ∧ KD H kvs ∧ Q (.int (kvs.length : Int)) H) := by
  intro pins s σ H xs us Q I r q
  obtain ⟨a, kvs, rfl, hd, kd, q⟩ := q
  obtain ⟨u, rfl, rx⟩ := vals1 r
  obtain rfl : u = Value.ref a := rx
  obtain ⟨z, hs, xs, rel, dd⟩ := dd_rd I.hok hd kd
  have hl : kvs.length = xs.length := Paired.length rel
  have hm : s.heap.DictKeyed (nestedKind X.prog X.w) a (pairsH xs) := ⟨xs, dd, rfl⟩
  have hlen : (pairsH xs).length = kvs.length := by rw [pairsH_length]; omega
  refine PyProof.Rows.call_len_slot (n := kvs.length) hm.typeIs F.slot_dict_len (fun Q' hq => len_keyed hs hm (by rw [hlen]; exact hq)) (by omega) (by rw [sizeLine_eq] at z; omega) ?_
  exact ⟨.int _, H, I.tok _, ⟨_, rfl⟩, q⟩
end Cc

end

section
set_option Elab.async false
set_option linter.all false
set_option maxRecDepth 100000
set_option maxHeartbeats 4000000
namespace Cc
open PySem PySem.Spec L2

/-! ### dict comprehensions whose keys are tuples of flat things -/
theorem dd_dictSet {X : Cx} {pins : List (Addr × Obj)} {σ : L2.St} {H : Hp} {s : Shared} {E : Value → Shared → Prop} {D b : Addr} {kvs : List Ent} {k : List V} {v : V} {r : Value} {Q : Unit → Shared → Prop} (hu : X.A.units + 64 < cLine) (I : Inv X pins σ H s)
    (hD : H D = some (DD X.prog X.w D kvs)) (kd : KD H kvs) (hb : Tq H b k) (hf : k.all fl = true) (hz : kvs.length < sizeLine) (rv : RelV v r)
    (h : ∀ s', Inv X pins σ (upd H D (DD X.prog X.w D (putD kvs k b v))) s' → Q () s') : wpAny (model X.prog X.w) X.A (dictSet D (.ref b) r) Q E s := by
  obtain ⟨z, hd, xs, rel, dd⟩ := dd_rd I.hok (.inl hD) kd
  have hx : xs.length ≤ sizeLine := by rw [← Paired.length rel]; exact z
  have hl : (putD kvs k b v).length ≤ sizeLine := by have := putD_len kvs k b v; omega
  have rm : (nestedKind X.prog X.w).room X.A := by show X.A.units + 8 < cLine; omega
  refine wpAny_dictSet_heap (hsz := hx) rm (key_at I.hok hb hf) dd fun h' dd' hs => h _ ?_
  obtain ⟨q, es, ep, hq, h2, h3, h4, _, h5⟩ := dd'
  exact d_write I (by rw [hD]; exact DD_mut) hs ⟨q, hq⟩ (DD_new ⟨hl, hd, _, rel.put hf (fun p hp => (kd p hp).2) rv, q, es, ep, hq, h2, h3, h4, h5⟩)
def tDDc (P : Program) (w : World) (wi : TI) (g : TG) (tt : TT) (tk tv : TE) (vs : List Nat) : TE := fun σ H Q => wi σ H fun J H1 => ∀ D, H1 D = none → ∃ W : Nat → Nat → Hp → Prop, (∃ m, W 0 m (upd H1 D (DD P w D []))) ∧ ∀ i m H, W i m H →
  (J.stop i H ∧ Q (.ref D) H) ∨ (J.go i H ∧ ∃ Nx : Hp → Prop, (∀ H', Nx H' → ∃ m', m' < m ∧ W (i + 1) m' H') ∧ ∀ x H', J.yld i H x H' → g x (wipe σ vs) H' fun σ2 H2 => wipe σ2 vs = wipe σ vs ∧ tt σ2 H2 fun b H3 =>
    if b = true then tk σ2 H3 fun y H4 => tv σ2 H4 fun z H5 => ∃ b kvs k, y = .ref b ∧ H5 D = some (DD P w D kvs) ∧ KD H5 kvs ∧ Tq H5 b k ∧ k.all fl = true ∧ kvs.length < sizeLine ∧ Nx (upd H5 D (DD P w D (putD kvs k b z))) else Nx H3)
theorem ddc_core {X : Cx} {pins : List (Addr × Obj)} {s : Shared} {σ : L2.St} {H : Hp} {Q : VK} {kx vx tg iter : Expr} {ifs : List Expr} {scope : Scope} {own : List (Str × Nat)} {pos pos' : Pos} {wi : TI} {g : TG} {tt : TT} {tk tv : TE} {use : Option (Value → Sem Unit)} {Qf : Value → Shared → Prop}
    (hu : X.A.units + 64 < cLine) (hc : X.calm = true) (hN : X.N.Nodup) (I : Inv X pins σ H s) (hi : PI X tg iter wi) (ok : BlkOk X.N X.env.scope scope own)
    (hg : ∀ (s : Shared) (H : Hp) (C : Addr) (cl : List (Str × Addr)) (fp : List Addr), PG (X.blk s H scope (compEnvC scope cl C X.env) fp) tg g) (ht : ∀ (s : Shared) (H : Hp) (C : Addr) (cl : List (Str × Addr)) (fp : List Addr), PTs (X.blk s H scope (compEnvC scope cl C X.env) fp) ifs tt)
    (hk : ∀ (s : Shared) (H : Hp) (C : Addr) (cl : List (Str × Addr)) (fp : List Addr), PE (X.blk s H scope (compEnvC scope cl C X.env) fp) kx tk)
    (he : ∀ (s : Shared) (H : Hp) (C : Addr) (cl : List (Str × Addr)) (fp : List Addr), PE (X.blk s H scope (compEnvC scope cl C X.env) fp) vx tv) (hs : ∀ x, foldedSetIterable iter X.env x = pure x)
    (h : tDDc X.prog X.w wi g tt tk tv (own.map (·.2)) σ H Q)
    (hRR : ∀ D C s' m H', Inv X pins σ H' s' → Q (.ref D) H' → s'.heap.Ns C m → FpOk X pins H' C → compPost (model X.prog X.w) X.A X.xe use Qf (.ref D) C (.ok .next) s') :
    wpAny (model X.prog X.w) X.A (comprehension (.DictComp kx vx [⟨tg, iter, ifs, 0⟩] scope pos) scope X.env pos' newDict false (eval iter X.env) use) Qf X.xe s := by
  have cells : ∀ y ∈ scope.names, y.2 = .free → ∃ c, X.env.cells.lookup y.1 = some c := fun y hy e => (ok.free y hy e).elim (fun k => I.ok.has _ (.inl k)) (fun k => I.ok.has _ (.inr k))
  refine wpAny_comprehension_free (use := use) rfl hs (closure_ok cells) ok.kind (fun y hy e => by rw [ok.uniq y hy, e]) (thn (hi.run pins s σ H _ I h) fun xv s1 hx => thn hx fun itv s2 h2 => ?_)
  obtain ⟨it, fp, tn, J, H2, rfl, I2, T, st2, f2, q⟩ := h2
  refine wpAny_newObj_type (newEnv_comp ?_)
  generalize hD : s2.heap.objs.size = D
  obtain ⟨W, ⟨m0, w0⟩, turn⟩ := q D (I2.hok.fresh (Nat.le_of_eq hD))
  -- the new dict
  generalize hs3 : ({ s2 with heap := s2.heap.push { cls := .type "dict", data := .dict #[] } } : Shared) = s3
  have I3 : Inv X pins σ (upd H2 D (DD X.prog X.w D [])) s3 := by
    subst hs3 hD
    exact I2.laid (t' := s2.toks) (fun b o e => Heap.get?_push_of_some _ e) (Nat.le_refl _) (dd_empty s2.heap I2.big)
  have h3 : s3.heap = s2.heap.push { cls := .type "dict", data := .dict #[] } := by rw [← hs3]
  have f3 : ∀ b ∈ fp, FpOk X pins (upd H2 D (DD X.prog X.w D [])) b ∧ b < s3.heap.objs.size := fun b hb => by
    obtain ⟨o, e, _⟩ := T.obj _ _ st2 b hb
    have hlt : b < s2.heap.objs.size := Heap.lt_size e
    exact ⟨⟨by rw [upd_ne (by rw [← hD]; exact Nat.ne_of_lt hlt)]; exact (f2 b hb).1, (f2 b hb).2⟩, by rw [h3, Heap.size_push]; exact Nat.lt_succ_of_lt hlt⟩
  have st3 : tn 0 s3.heap := T.keep _ _ _ st2 fun b _ o e => by rw [h3]; exact Heap.get?_push_of_some _ e
  have I4 := block_start I3 ok hN f3
  have pg := hg s3 (upd H2 D (DD X.prog X.w D [])) s3.heap.objs.size (cellsFrom (s3.heap.objs.size + 1) scope.names (cloFrom X.env.cells scope.names [])) fp
  have pt := ht s3 (upd H2 D (DD X.prog X.w D [])) s3.heap.objs.size (cellsFrom (s3.heap.objs.size + 1) scope.names (cloFrom X.env.cells scope.names [])) fp
  have pk := hk s3 (upd H2 D (DD X.prog X.w D [])) s3.heap.objs.size (cellsFrom (s3.heap.objs.size + 1) scope.names (cloFrom X.env.cells scope.names [])) fp
  have pe := he s3 (upd H2 D (DD X.prog X.w D [])) s3.heap.objs.size (cellsFrom (s3.heap.objs.size + 1) scope.names (cloFrom X.env.cells scope.names [])) fp
  show codeAny _ _ (.compStart (.DictComp kx vx [⟨tg, iter, ifs, 0⟩] scope pos) 0 (.ref it) (.ref D) (compEnvC scope (cellsFrom (s3.heap.objs.size + 1) scope.names (cloFrom X.env.cells scope.names [])) s3.heap.objs.size X.env)) (compPost (model X.prog X.w) X.A X.xe use Qf (.ref D) s3.heap.objs.size) { s3 with heap := pushCells (s3.heap.push { cls := .type "dict", data := .dict #[] }) scope.names }
  have nfp : ∀ b ∈ fp, (upd H2 D (DD X.prog X.w D [])) b = none := fun b hb => (f3 b hb).1.1
  generalize hce : compEnvC scope (cellsFrom (s3.heap.objs.size + 1) scope.names (cloFrom X.env.cells scope.names [])) s3.heap.objs.size X.env = ce at I4 pg pt pk pe ⊢
  have cL : ce.locals = s3.heap.objs.size := by subst hce; rfl
  generalize hH3 : upd H2 D (DD X.prog X.w D []) = H3 at I3 I4 pg pt pk pe w0 nfp f3
  generalize hs4 : ({ s3 with heap := pushCells (s3.heap.push { cls := .type "dict", data := .dict #[] }) scope.names } : Shared) = s4 at I4 ⊢
  have st4 : tn 0 s4.heap := T.keep _ _ _ st3 fun b _ o e => by rw [← hs4]; exact pushCells_keeps _ _ _ _ (Heap.get?_push_of_some _ e)
  have stat : ∀ {σ' : L2.St} {H' : Hp} {s' : Shared}, Inv (X.blk s3 H3 scope ce fp) [] σ' H' s' → (∀ b ∈ fp, H' b = none) → ∀ b ∈ fp, FpOk (X.blk s3 H3 scope ce fp) [] H' b := fun {σ' H' s'} I' hn b hb =>
    ⟨hn b hb, (I'.ok.exf b hb).1, I'.ok.exfs b hb, .inl hb, fun x c e => (I'.ok.exf b hb).2 x c e, fun p hp => absurd (show p ∈ ([] : List (Addr × Obj)) ++ [] from hp) (by simp)⟩
  have loop : codeAny (model X.prog X.w) X.A (.compLoop (.DictComp kx vx [⟨tg, iter, ifs, 0⟩] scope pos) 0 (.ref it) (.ref D) ce) (compPost (model X.prog X.w) X.A X.xe use Qf (.ref D) s3.heap.objs.size) s4 := by
    refine compLoop_anyD (fun n s' => ∃ i H', Inv (X.blk s3 H3 scope ce fp) [] (wipe σ (own.map (·.2))) H' s' ∧ tn i s'.heap ∧ (∀ b ∈ fp, H' b = none) ∧ W i n H') ?_ m0 ⟨0, H3, I4, st4, nfp, w0⟩
    rintro n s5 ⟨i, H5, I5, st5, n5, w5⟩
    rcases turn i n H5 w5 with ⟨stop, qq⟩ | ⟨go, Nx, hNx, step⟩
    · -- the end: back in the def's context
      refine thnF (T.done (X.blk s3 H3 scope ce fp) rfl rfl rfl hc i [] s5 _ H5 (fun _ _ => False) I5 (stat I5 n5) st5 stop) fun r s6 ⟨hr, I6⟩ => ?_
      subst hr
      have I7 : Inv X pins σ H5 s6 := I3.call' (ch := fp) I6.os I6.base I6.hok I6.bare fun b hb => ⟨(f3 b hb).1.2.2.2.1, (f3 b hb).1.2.1, (f3 b hb).1.2.2.2.2.1, (f3 b hb).1.2.2.2.2.2⟩
      have nC : H5 s3.heap.objs.size = none := cL ▸ I6.free
      obtain ⟨m, hn, _⟩ := I6.loc
      have hn : s6.heap.Ns ce.locals m := hn
      rw [cL] at hn
      exact hRR D s3.heap.objs.size s6 m H5 I7 qq hn (I3.fpOk (Nat.le_refl _) nC)
    · refine thnF (T.item (X.blk s3 H3 scope ce fp) rfl rfl rfl hc i [] s5 _ H5 (fun _ _ => False) I5 (stat I5 n5) st5 go) fun r s6 ⟨u, hr, h6⟩ => ?_
      subst hr
      refine thnF h6 fun _ s7 ⟨x, H7, I7, r7, y7, st7, n7⟩ => ?_
      refine thnF (pg.run _ s7 _ H7 x u _ (I7.pinned (stat I7 n7) (T.obj _ _ st7)) r7 (step x H7 y7)) fun _ s8 ⟨σ8, H8, I8, hw8, q8⟩ => ?_
      refine thnF (pt.run _ s8 σ8 H8 _ I8 q8) fun b s9 ⟨H9, I9, q9⟩ => ?_
      have fin : ∀ {s' : Shared} {H' : Hp}, Inv (X.blk s3 H3 scope ce fp) ([] ++ pinsAt fp s7.heap) σ8 H' s' → Nx H' → ∃ m, m < n ∧ ∃ i H', Inv (X.blk s3 H3 scope ce fp) [] (wipe σ (own.map (·.2))) H' s' ∧ tn i s'.heap ∧ (∀ b ∈ fp, H' b = none) ∧ W i m H' := fun {s' H'} I' nx => by
        obtain ⟨m', hm, w'⟩ := hNx H' nx
        have pin' : ∀ b ∈ fp, ∀ o, s7.heap.get? b = some o → s'.heap.get? b = some o ∧ H' b = none := fun b hb o e =>
          ⟨(I'.pin (b, o) (List.mem_append_right _ (List.mem_append_right _ (mem_pinsAt hb e)))).1, (I'.pin (b, o) (List.mem_append_right _ (List.mem_append_right _ (mem_pinsAt hb e)))).2.1⟩
        refine ⟨m', hm, i + 1, H', (I'.unpinned (pins := [])).weak (by rw [← hw8, wipe_length]) (fun j v e => (wipe_some (by rw [← hw8] at e; exact e)).1), T.keep _ _ _ st7 fun b hb o e => (pin' b hb o e).1, fun b hb => ?_, w'⟩
        obtain ⟨o, e, _⟩ := T.obj _ _ st7 b hb
        exact (pin' b hb o e).2
      cases b with
      | false => exact fin I9 (by simpa using q9)
      | true =>
        simp only [if_true] at q9 ⊢
        refine thnF (pk.run _ s9 σ8 H9 _ I9 q9) fun z s10 ⟨yk, H10, I10, r10, q10⟩ => ?_
        refine thnF (pe.run _ s10 σ8 H10 _ I10 q10) fun z2 s11 ⟨yv, H11, I11, r11, b, kvs, k, ek, hD11, kd, hb, hfl, hz11, nx⟩ => ?_
        subst ek
        obtain rfl : z = Value.ref b := r10
        exact dd_dictSet (X := X.blk s3 H3 scope ce fp) hu I11 hD11 kd hb hfl hz11 r11 fun s12 I12 => fin I12 nx
  exact codeAny_compStart_dict loop (T.self X.A 0 _ _ _ st4 loop)
theorem pe_ddc {X : Cx} {kx vx tg iter : Expr} {ifs : List Expr} {scope : Scope} {own : List (Str × Nat)} {pos : Pos} {wi : TI} {g : TG} {tt : TT} {tk tv : TE} (hu : X.A.units + 64 < cLine) (hc : X.calm = true) (hN : X.N.Nodup) (hi : PI X tg iter wi) (ok : BlkOk X.N X.env.scope scope own)
    (hg : ∀ (s : Shared) (H : Hp) (C : Addr) (cl : List (Str × Addr)) (fp : List Addr), PG (X.blk s H scope (compEnvC scope cl C X.env) fp) tg g) (ht : ∀ (s : Shared) (H : Hp) (C : Addr) (cl : List (Str × Addr)) (fp : List Addr), PTs (X.blk s H scope (compEnvC scope cl C X.env) fp) ifs tt)
    (hk : ∀ (s : Shared) (H : Hp) (C : Addr) (cl : List (Str × Addr)) (fp : List Addr), PE (X.blk s H scope (compEnvC scope cl C X.env) fp) kx tk)
    (he : ∀ (s : Shared) (H : Hp) (C : Addr) (cl : List (Str × Addr)) (fp : List Addr), PE (X.blk s H scope (compEnvC scope cl C X.env) fp) vx tv) (hs : ∀ x, foldedSetIterable iter X.env x = pure x := by intro _; rfl) :
    PE X (.DictComp kx vx [⟨tg, iter, ifs, 0⟩] scope pos) (tDDc X.prog X.w wi g tt tk tv (own.map (·.2))) := by
  refine ⟨fun pins s σ H Q I h => ?_⟩
  rw [arm_eval_DictComp]
  refine ddc_core hu hc hN I hi ok hg ht hk he hs h fun D C s' m H' I' q hn f => ⟨m, hn, fun h'' sb => ?_⟩
  exact ⟨.ref D, H', I'.turned (t' := s'.toks) (fun b o hb e => (sb.2 b hb).trans e) f.1 f.2.1 f.2.2.2.1 f.2.2.2.2.1 f.2.2.2.2.2, rfl, q⟩
/-! ### d == {} where d isn't empty -/
theorem raw_eq_len {prog : Program} {w : World} {A : Around} {E : Value → Shared → Prop} {s : Shared} {a b : Addr} {es es' : Array DictEntry} {ep ep' : Nat} {Q : Value → Shared → Prop} (ha : (a == sysModules) = false) (hb : (b == sysModules) = false)
    (da : s.heap.DictRaw a es ep) (db : s.heap.DictRaw b es' ep') (hu : A.units < cLine) (hne : es.size ≠ es'.size) (h : Q (.bool false) s) : wpAny (model prog w) A (compareOp .Eq (.ref a) (.ref b)) Q E s := by
  refine wpAny_richCompare_same_room (op := .Eq) da.typeIs db.typeIs PySem.F.slot_dict_eq (wpAny_call_entry PySem.F.slot_dict_eq da.typeIs PySem.F.entry_dict_eq ?_ (PySem.F.args_dict_eq_2 _ _)) hu
  show wpAny _ _ (Builtin.Dict.dictSlotArgs "__eq__" ⟨[.ref a, .ref b], []⟩ >>= _) _ _ s
  refine wpAny_bind ?_
  unfold Builtin.Dict.dictSlotArgs
  refine wpAny_bind (wpAny_notOrdered_dict da.typeIs ?_)
  show wpAny _ _ (pure (Value.ref a, Value.ref b)) _ _ s
  refine wpAny_pure ?_
  refine wpAny_bind (wpAny_isInstance (T := "dict") db.typeIs PySem.F.sub_dict_dict ?_)
  simp only [Bool.not_true, Bool.false_eq_true, if_false]
  refine wpAny_bind (wpAny_pure (wpAny_bind (wpAny_pure ?_)))
  obtain ⟨oa, hoa, _, hda⟩ := da
  obtain ⟨ob, hob, _, hdb⟩ := db
  refine wpAny_bind ?_
  unfold Builtin.Dict.samePairs Builtin.Dict.showsAll
  rw [if_neg (show ¬ (a == sysModules) = true by rw [ha]; exact Bool.false_ne_true), if_neg (show ¬ (b == sysModules) = true by rw [hb]; exact Bool.false_ne_true)]
  refine wpAny_bind (wpAny_pure (wpAny_bind (wpAny_pure ?_)))
  refine wpAny_bind (wpAny_dictEntries hoa hda ?_)
  dsimp only
  refine wpAny_bind (wpAny_dictEntries hob hdb ?_)
  rw [if_pos (by simpa using hne)]
  refine wpAny_bind (wpAny_rule (wpAny_pure ?_))
  exact wpAny_pure ⟨_, rfl, fun x => (nomatch x), h⟩
end Cc

end

section
set_option Elab.async false
set_option linter.all false
set_option maxRecDepth 100000
set_option maxHeartbeats 4000000
namespace Cc
open PySem PySem.Spec L2
open PySem.W (EachIs AllAlike Sortable dataLe)
open PyProof.Rows (seqObj)

/-! ### sorted(..) of what was gathered -/
section
variable {X : Cx} {pins : List (Addr × Obj)} {σ : L2.St} {H : Hp} {s : Shared} {Q : VK} {β : Type} {vs : List Value} {bs : List β} {enc : β → PyData} {vV : β → V}
theorem each_vals {R : Value → β → Prop} (hR : ∀ v b, R v b → RelV (vV b) v) : ∀ {vs : List Value} {bs : List β}, EachIs R vs bs → Vals (bs.map vV) vs
  | _, _, .nil => .nil
  | _, _, .cons r t => .cons (hR _ _ r) (each_vals hR t)
/-- the list of the items vs made and sorted, handed back -/
theorem sort_tail (I : Inv X pins σ H s) (he : EachIs (fun v b => RelV (vV b) v ∧ ∃ as, Reads s.heap v (enc b) as ∧ s.heap.objs.size ∉ as) vs bs) (hal : AllAlike (bs.map enc)) (hk : Sortable (bs.map enc)) (hL : bs.length ≤ sizeLine)
    (hu : ∀ b, b ∈ bs → X.A.units + 2 + (enc b).depth < cLine)
    (q : ∀ p, H p = none → Q (.ref p) (upd H p (.lst ((bs.mergeSort (dataLe false enc)).map vV)))) :
    wpAny (model X.prog X.w) X.A.in1 (newList vs >>= fun l => holding [l] (call (.builtin "list.sort") [l] []) >>= fun _ => ret l) (fun fin s' => ∃ v, fin = .done (.ret v) ∧ EP X pins σ Q v s') X.xe s := by
  have hlen : vs.length = bs.length := he.length
  refine wpAny_bind (wpAny_newList ?_ (by rw [hlen]; exact hL))
  have hoL : (s.heap.push (seqObj "list" vs.toArray 0)).get? s.heap.objs.size = some (seqObj "list" vs.toArray 0) := Heap.get?_push_size _ rfl
  show wpAny _ _ _ _ _ { s with heap := s.heap.push (seqObj "list" vs.toArray 0) }
  refine wpAny_bind (wpAny_holding ?_)
  have up : ∀ b o, s.heap.get? b = some o → (s.heap.push (seqObj "list" vs.toArray 0)).get? b = some o := fun b o e => Heap.get?_push_of_some _ e
  refine PySem.W.list_sort_data (s := { s with heap := s.heap.push (seqObj "list" vs.toArray 0) }) (R := fun v b => RelV (vV b) v) (enc := enc) hoL (he.mono fun _ _ h => h.1)
    (he.mono fun v b ⟨_, as, h1, h2⟩ => ⟨as, PyProof.Rows.Reads.keeps up h1, h2⟩) hal hk hL (fun b hb => by have := hu b hb; show X.A.units + 1 + 1 + _ < _; omega) fun out ho hO => ?_
  obtain ⟨e', he'⟩ := PyProof.Rows.sortedHeap_at (vs := vs) (out := List.toArray out) hoL
  refine wpAny_pure ⟨_, rfl, .ref s.heap.objs.size, _, I.laid (t' := s.toks) (fun b u e => ?_) (Nat.le_refl _)
    (show ObjOk X.prog X.w _ _ _ (.lst ((bs.mergeSort (dataLe false enc)).map vV)) from ⟨by rw [List.length_map, List.length_mergeSort]; exact hL, out, e', each_vals (fun _ _ h => h) hO, he'⟩), rfl, q _ (I.hok.fresh (Nat.le_refl _))⟩
  have hb : b < s.heap.objs.size := Heap.lt_size e
  rw [PyProof.Rows.sortedHeap_old (Nat.ne_of_lt hb) (by rw [PyProof.Rows.size_push']; exact Nat.lt_succ_of_lt hb)]
  exact Heap.get?_push_of_some _ e
end
-- what reads as data that never changes holds no list
mutual
theorem Dq.reads {P : Program} {w : World} {H : Hp} {h : Heap} (ok : HOk P w H h) : ∀ (d : PyData) (v : V) (u : Value), Dq H v d → RelV v u → Reads h u d []
  | .none, _, _, q, r => by cases q; cases r; exact .none
  | .bool b, _, _, q, r => by cases q; cases r; exact .bool b
  | .int i, _, _, q, r => by cases q; obtain ⟨t, rfl⟩ := r; exact .int i t
  | .str x, _, _, q, r => by cases q; obtain ⟨t, rfl⟩ := r; exact .str x t
  | .tuple ds, _, _, q, r => by
    obtain ⟨a, xs, rfl, h1, h2⟩ := q.tup_inv
    cases r
    obtain ⟨_, its, rv, o, e1, e2, n, e3⟩ := (show ObjOk P w H h a (.tup xs) from h1.rd.ok ok)
    exact .tuple e1 e2 e3 (DqAll.reads ok ds xs its h2 rv)
  | .list _, _, _, q, _ => by cases q
  | .dict _, _, _, q, _ => by cases q
theorem DqAll.reads {P : Program} {w : World} {H : Hp} {h : Heap} (ok : HOk P w H h) : ∀ (ds : List PyData) (vs : List V) (us : List Value), DqAll H vs ds → Vals vs us → ReadsAll h us ds []
  | [], _, _, q, r => by cases q; cases r; exact .nil
  | d :: ds, _, _, q, r => by
    obtain ⟨v, ws, rfl, q1, q2⟩ := q.cons_inv
    cases r with
    | cons r1 r2 => exact ReadsAll.cons (as := []) (bs := []) (Dq.reads ok d v _ q1 r1) (DqAll.reads ok ds ws _ q2 r2)
end

/-! ### sorted(d) of a dict whose keys are tuples of flat things -/
section
variable {X : Cx} {pins : List (Addr × Obj)} {σ : L2.St} {H : Hp} {s : Shared} {d : Addr} {kvs : List Ent}
theorem dd_raw {P : Program} {w : World} {h : Heap} (ok : HOk P w H h) (e : Rd H d (DD P w d kvs)) : (d == sysModules) = false ∧ kvs.length ≤ sizeLine ∧ ∃ es ep, h.DictRaw d es ep ∧ es.size = kvs.length ∧
    (∀ (i : Nat) (hi : i < es.size) (p : Ent), kvs[i]? = some p → es[i].key = .ref p.2.1 ∧ RelV p.2.2 es[i].val) := by
  obtain ⟨⟨z, hs, xs, pr, o', es, ep, ho, hx, hdt, he, _⟩, _, _⟩ := (show ObjOk P w H h d (DD P w d kvs) from rd_of ok e)
  have l1 : es.size = xs.length := size_of_entries he
  have l2 : kvs.length = xs.length := Paired.length pr
  refine ⟨hs, z, es, ep, ⟨o', ho, hx, hdt⟩, by omega, fun i hi p e => ?_⟩
  obtain ⟨b, hb, e1, e2, e3⟩ := paired_get pr e
  have q := entry_at he i
  rw [hb, Array.getElem?_eq_getElem hi] at q
  simp only [Option.map_some, Option.some.injEq] at q
  rw [q]
  exact ⟨by rw [e2]; rfl, e3⟩
theorem dd_collect {A : Around} {E : Value → Shared → Prop} {R : List Value → Shared → Prop} (I : Inv X pins σ H s) (e : Rd H d (DD X.prog X.w d kvs)) (hh : A.handled = none)
    (h : ∀ h' tk, (∀ b o, s.heap.get? b = some o → h'.get? b = some o) → R (kvs.map fun p => Value.ref p.2.1) { s with heap := h', toks := tk }) : wpAny (model X.prog X.w) A (collect (.ref d)) R E s := by
  obtain ⟨lo, z, es, ep, raw, hsz, ent⟩ := dd_raw I.hok e
  refine PySem.W.kdu_collect (KdlSrc.rawDict (es := es) (ep := ep) lo) hh raw (by omega) fun h' tk acc hk hacc => ?_
  have ea : acc.toList = kvs.map fun p => Value.ref p.2.1 := by
    refine List.ext_getElem? fun i => ?_
    rw [Array.getElem?_toList, List.getElem?_map]
    cases ei : kvs[i]? with
    | none =>
      have : kvs.length ≤ i := List.getElem?_eq_none_iff.mp ei
      rw [Array.getElem?_eq_none (by rw [hacc.1]; omega)]
      rfl
    | some p =>
      have hlt : i < kvs.length := (List.getElem?_eq_some_iff.mp ei).1
      have hlt2 : i < acc.size := by rw [hacc.1]; omega
      rw [Array.getElem?_eq_getElem hlt2]
      obtain ⟨hi, ev⟩ := hacc.2 i acc[i] (Array.getElem?_eq_getElem hlt2)
      rw [ev, (ent i hi p ei).1]
      rfl
  rw [ea]
  exact h h' tk hk
end
theorem each_refs {H : Hp} {h : Heap} {P : Program} {w : World} (ok : HOk P w H h) {n : Nat} : ∀ {kvs : List Ent}, KD H kvs →
    EachIs (fun v (b : Ent) => RelV (.ref b.2.1) v ∧ ∃ as, Reads h v (eL b.1) as ∧ n ∉ as) (kvs.map fun p => Value.ref p.2.1) kvs
  | [], _ => .nil
  | p :: kvs, kd => .cons ⟨rfl, [], Dq.reads ok _ _ _ (Dq.eL (kd p List.mem_cons_self).1 (kd p List.mem_cons_self).2) rfl, by simp⟩ (each_refs ok fun q hq => kd q (List.mem_cons_of_mem _ hq))
/-- the keys' tuples, each a list of flat things, in Python's order -/
def srtI (ls : List (List V)) : List (List V) := ls.mergeSort (dataLe false eL)
theorem srt_map {kvs : List Ent} (k : List V → PyData) : (kvs.mergeSort (dataLe false fun e : Ent => k e.1)).map (·.1) = (kvs.map (·.1)).mergeSort (dataLe false k) :=
  PySem.W.sort_maps (fun e : Ent => e.1) fun _ _ _ _ => rfl
theorem Ls.of_ents {H : Hp} {p : Addr} {kvs : List Ent} (kd : KD H kvs) (h : H p = some (.lst (kvs.map fun e => V.ref e.2.1))) : Ls H p ((kvs.map (·.1)).map eL) := by
  refine ⟨_, h, ?_⟩
  clear h
  induction kvs with
  | nil => exact .nil
  | cons e kvs ih => exact .cons (Dq.eL (kd e List.mem_cons_self).1 (kd e List.mem_cons_self).2) (ih fun q hq => kd q (List.mem_cons_of_mem _ hq))
theorem KD.perm {H : Hp} {l m : List Ent} (h : KD H l) (e : m.Perm l) : KD H m := fun p hp => h p (e.mem_iff.mp hp)
def rSortD (P : Program) (w : World) : List V → Hp → VK → Prop := fun xs H Q => ∃ a kvs, xs = [.ref a] ∧ Rd H a (DD P w a kvs) ∧ KD H kvs ∧ AllAlike (kvs.map fun e => eL e.1) ∧ (∀ e ∈ kvs, e.1 ≠ []) ∧
  ∀ p H', Same H H' → Ls H' p ((srtI (kvs.map (·.1))).map eL) → Q (.ref p) H'
theorem eL_depth (l : List V) : (eL l).depth ≤ 1 := by
  unfold eL
  show PyData.depthAll (l.map dV) + 1 ≤ 1
  have : PyData.depthAll (l.map dV) = 0 := by
    induction l with
    | nil => rfl
    | cons x l ih =>
      show max (dV x).depth (PyData.depthAll (l.map dV)) = 0
      rw [ih]
      cases x <;> rfl
  omega
theorem cr_sortD (hu : X.A.units + 64 < cLine) (hc : X.calm = true) : CallR X (.builtin "sorted") (rSortD X.prog X.w) := by
  intro pins s σ H xs us Q I r q
  obtain ⟨a, kvs, rfl, hd, kd, hal, hne, q⟩ := q
  obtain ⟨u, rfl, rx⟩ := vals1 r
  obtain rfl : u = Value.ref a := rx
  obtain ⟨_, z, _⟩ := dd_raw I.hok hd
  refine Calls.call_function_entry PyProof.Rows.kind_sorted PyProof.Rows.plain_sorted PyProof.Rows.entry_sorted (PyProof.Rows.args_sorted1 _) ?_
  unfold Builtin.«sorted»
  refine wpAny_bind (m := checkCount "sorted" 1 1 _) (wpAny_pure ?_)
  refine wpAny_bind (dd_collect (A := X.A.in1) I hd (I.ok.hd hc) fun h' tk hk => ?_)
  have I1 : Inv X pins σ H { s with heap := h', toks := tk } := I.kept hk
  refine sort_tail (vV := fun e : Ent => V.ref e.2.1) (enc := fun e : Ent => eL e.1) I1 (each_refs I1.hok kd) hal (.inl fun d hd => ?_) z (fun b _ => by have := eL_depth b.1; omega) fun p hp => ?_
  · obtain ⟨e, he, rfl⟩ := List.mem_map.mp hd
    cases hx : e.1 with
    | nil => exact absurd hx (hne e he)
    | cons x l => exact ⟨dV x, l.map dV, rfl⟩
  · refine q p _ (Same.new hp) ?_
    have kd2 : KD (upd H p (.lst ((kvs.mergeSort (dataLe false fun e : Ent => eL e.1)).map fun e => V.ref e.2.1))) (kvs.mergeSort (dataLe false fun e : Ent => eL e.1)) := (kd.perm (List.mergeSort_perm _ _)).mono (Tk.new hp)
    have := Ls.of_ents kd2 (p := p) upd_same
    rw [srt_map eL] at this
    exact this
end Cc

end

section
set_option Elab.async false
set_option linter.all false
set_option maxRecDepth 100000
set_option maxHeartbeats 4000000
namespace Cc
open PySem PySem.Spec L2
open PySem.W (EachIs AllAlike Sortable dataLe dataKind SortsAt KeyedOut keyedOut_each KeepsBut)
open PyProof.Rows (seqObj listItems_at listUpdate_at seqEpoch_at size_push' get?_update_seq)

/-! ### sorted(d, key=f), f a def of one's own that gives tuples -/
section
variable {X : Cx} {pins : List (Addr × Obj)} {σ : L2.St} {H H' : Hp} {s : Shared} {k : Nat} {f : Addr} {fd : FuncData} {x : Str} {sp : Sp} {Q : VK}
/-- f(v) called two levels down -/
theorem run_in2 {u : Value} {v : V} (F : FnOk X.prog X.w X.K X.mg X.base CX0 k f fd [x] sp) (hr : Room k X.A.in1.in1) (hb : Binds X.K fd [x] []) (I : Inv X pins σ H s) (r : RelV v u) (h : sp [v] H Q E0) :
    wpAny (model X.prog X.w) X.A.in1.in1 (call (.ref f) [u]) (EP X pins σ Q) (fun _ _ => False) s := by
  have e0 : Env0 X.prog X.w X.K X.mg X.base X.A.in1.in1 X.stack s H := (I.env0).in1.in1
  refine wpAny_call (codeAny_mono (F.run X.A.in1.in1 X.stack s H ⟨[u], []⟩ ([u] ++ []) ([v] ++ []) Q E0 hr e0 (hb s [u] I.kIn rfl) (.cons r .nil) h) fun r s' hq => ?_)
  cases r with
  | error e => exact hq
  | ok fl =>
    cases fl with
    | ret u => exact I.after hq
    | next => exact False.elim hq
    | brk => exact False.elim hq
    | cont => exact False.elim hq
/-- two objects of ours, not tracked, that the rest doesn't know: pinned -/
theorem pin2 {a b : Addr} {oa ob : Obj} (I : Inv X pins σ H s) (fa : FpOk X pins H a) (fb : FpOk X pins H b) (ha : s.heap.get? a = some oa) (hb : s.heap.get? b = some ob) (da : ∀ v, oa.data ≠ .cell v) (db : ∀ v, ob.data ≠ .cell v) :
    Inv X (pins ++ [(a, oa), (b, ob)]) σ H s :=
  I.pins_of fun p hp => (List.mem_append.mp hp).elim (fun z => I.pin p (List.mem_append_right _ z)) fun z => by
    rcases List.mem_cons.mp z with rfl | z
    · exact ⟨ha, fa.1, fa.2.1, fa.2.2.1, da⟩
    · obtain rfl := List.mem_singleton.mp z
      exact ⟨hb, fb.1, fb.2.1, fb.2.2.1, db⟩
theorem fpOk_to {b : Addr} (h : FpOk X pins H b) (hn : H' b = none) : FpOk X pins H' b := ⟨hn, h.2⟩
/-- the object at D, of ours and so far not tracked, is tracked now; that at b may have changed -/
theorem adopt {D b : Addr} {h' : Heap} {tk : Nat} {o : HO} (I : Inv X pins σ H s) (fD : FpOk X pins H D) (fb : FpOk X pins H b) (keep : ∀ c u, c ≠ D → c ≠ b → s.heap.get? c = some u → h'.get? c = some u)
    (new : ObjOk X.prog X.w (upd H D o) h' D o) : Inv X pins σ (upd H D o) { s with heap := h', toks := tk } := by
  have hlt : D < h'.objs.size := new.lt
  have tr : ∀ c u, H c = some u → c ≠ D ∧ c ≠ b := fun c u e => ⟨ne_of_none e fD.1, ne_of_none e fb.1⟩
  refine I.step (g' := s.gens) (d' := s.drawn) (ch := [D, b]) (fun c hc => ?_) (fun c u _ _ hc e _ => keep c u (fun z => hc (by simp [z])) (fun z => hc (by simp [z])) e)
    (fun c u _ _ hc e _ => ⟨u.slots, keep c u (fun z => hc (by simp [z])) (fun z => hc (by simp [z])) e⟩) (fun c u hc _ n => by rw [upd_ne (fun z => hc (by simp [z]))]; exact n)
    (fun c u hc e => ⟨u, keep c u (fun z => hc (by simp [z])) (fun z => hc (by simp [z])) e⟩) (fun c xs e => by rw [upd_ne (tr c _ e).1]; exact e) (fun c u v e => by rw [upd_ne (tr c _ e).1]; exact e)
    (fun c ps e => ⟨#[], by rw [upd_ne (tr c _ e).1, e]; simp⟩) (fun m hm => ?_) (fun c u e => ?_) I.bare
  · have e : c = D ∨ c = b := by simpa using hc
    rcases e with rfl | rfl
    · exact ⟨fD.2.2.2.1, fD.2.1, fD.2.2.2.2.1, fD.2.2.2.2.2⟩
    · exact ⟨fb.2.2.2.1, fb.2.1, fb.2.2.2.2.1, fb.2.2.2.2.2⟩
  · obtain ⟨ob, es, ep, ho, r⟩ := hm
    exact ⟨ob, es, ep, keep _ ob (Ne.symm fD.2.1) (Ne.symm fb.2.1) ho, r⟩
  · by_cases hc : c = D
    · subst hc
      rw [upd_same] at e
      cases e
      exact new
    · rw [upd_ne hc] at e
      refine (I.hok c u e).stay (fun a v ha q => ?_) (fun a q => by rw [upd_ne (tr a _ q).1]; exact q) fun a xs q => by rw [upd_ne (tr a _ q).1]; exact q
      rcases ha with rfl | ha
      · exact keep _ v (tr _ _ e).1 (tr _ _ e).2 q
      · exact keep _ v (tr _ _ ha).1 (tr _ _ ha).2 q
/-- the sort behind the gathering: the items vs in the list at D, f's keys -/
theorem sortK_tree {β : Type} {vs : List Value} {bs : List β} {vV : β → V} {kz : β → PyData} {D : Addr} {n : Nat} {P : PySem.Fin → Shared → Prop} {E : Value → Shared → Prop}
    (F : FnOk X.prog X.w X.K X.mg X.base CX0 k f fd [x] sp) (hr : Room k X.A.in1.in1) (hb : Binds X.K fd [x] [])
    (I : Inv X pins σ H s) (fD : FpOk X pins H D) (ho : s.heap.get? D = some (seqObj "list" vs.toArray n)) (he : EachIs (fun v b => RelV (vV b) v) vs bs) (hL : bs.length ≤ sizeLine)
    (hal : AllAlike (bs.map kz)) (hsk : Sortable (bs.map kz)) (hu : ∀ b, b ∈ bs → X.A.units + 2 + (kz b).depth < cLine)
    (hf : ∀ b, b ∈ bs → ∀ H1, Same H H1 → ∀ R : VK, (∀ v H2, Same H1 H2 → Dq H2 v (kz b) → R v H2) → sp [vV b] H1 R E0)
    (q : ∀ s' H1, Same H H1 → H1 D = none → Inv X pins σ (upd H1 D (.lst ((bs.mergeSort (dataLe false kz)).map vV))) s' → P (.done (.ret .none)) s') :
    wpAny (model X.prog X.w) X.A.in1.in1 (PyProof.Rows.ksk_tree D (.ref f) false) P E s := by
  have hlen : vs.length = bs.length := he.length
  have ha : D < s.heap.objs.size := Heap.lt_size ho
  obtain ⟨e1, ho1⟩ : ∃ e1, (s.heap.update D (Obj.mapSeq fun _ => (#[] : Array Value))).get? D = some (seqObj "list" #[] e1) := ⟨_, get?_update_seq ho fun _ => #[]⟩
  have hkS : ((s.heap.update D (Obj.mapSeq fun _ => (#[] : Array Value))).push (seqObj "tuple" vs.toArray 0)).objs.size = s.heap.objs.size + 1 := by rw [size_push', Heap.size_update]
  unfold PyProof.Rows.ksk_tree
  refine wpAny_bind (listItems_at ho rfl ?_)
  refine wpAny_bind (listUpdate_at ho rfl ?_ (by rw [List.size_toArray, hlen]; exact hL) (Nat.zero_le _))
  refine wpAny_bind (seqEpoch_at ho1 rfl ?_)
  refine wpAny_bind (wpAny_newTuple ?_ (by show vs.length ≤ _; rw [hlen]; exact hL))
  refine wpAny_bind (wpAny_newList ?_ (Nat.zero_le _))
  refine wpAny_holding ?_
  show wpAny _ _ _ _ _ { s with heap := ((s.heap.update D (Obj.mapSeq fun _ => (#[] : Array Value))).push (seqObj "tuple" vs.toArray 0)).push (seqObj "list" #[] 0) }
  rw [hkS]
  generalize hkz : s.heap.objs.size + 1 = kS at hkS ⊢
  have sb := Heap.SameBut.update s.heap D (Obj.mapSeq fun _ => (#[] : Array Value))
  generalize hh : ((s.heap.update D (Obj.mapSeq fun _ => (#[] : Array Value))).push (seqObj "tuple" vs.toArray 0)).push (seqObj "list" #[] 0) = h0
  have k0 : ∀ c u, c ≠ D → s.heap.get? c = some u → h0.get? c = some u := fun c u hc e => by
    rw [← hh]
    exact Heap.get?_push_of_some _ (Heap.get?_push_of_some _ ((sb.2 c hc).trans e))
  have I0 : Inv X pins σ H { s with heap := h0 } := I.turned (t' := s.toks) (it := D) (fun c u hc e => k0 c u hc e) fD.1 fD.2.1 fD.2.2.2.1 fD.2.2.2.2.1 fD.2.2.2.2.2
  have na0 : h0.get? D = some (seqObj "list" #[] e1) := by rw [← hh]; exact Heap.get?_push_of_some _ (Heap.get?_push_of_some _ ho1)
  have nk0 : h0.get? kS = some (seqObj "list" #[] 0) := by rw [← hh, ← hkS]; exact Heap.get?_push_size _ rfl
  have hkD : kS ≠ D := by rw [← hkz]; exact Nat.ne_of_gt (Nat.lt_succ_of_lt ha)
  have fK : FpOk X pins H kS := I.fpOk (by rw [← hkz]; exact Nat.le_succ _) (I.hok.fresh (by rw [← hkz]; exact Nat.le_succ _))
  unfold PyProof.Rows.ksk_rest
  refine wpAny_bind (wpAny_rule ?_)
  first
    | rw [List.forIn_toArray]
    | (rw [← Array.forIn_toList]; simp only [List.toList_toArray])
    | rw [← Array.forIn_toList]
  refine wpAny_bind (PyProof.Rows.ksk_fold (fun i s' => ∃ H1 kA e ws, Same H H1 ∧ H1 D = none ∧ H1 kS = none ∧ Inv X pins σ H1 s' ∧ s'.heap.get? kS = some (seqObj "list" kA e) ∧ s'.heap.get? D = some (seqObj "list" #[] e1) ∧
      Vals ws kA.toList ∧ DqAll H1 ws ((bs.map kz).take i)) vs 0 { s with heap := h0 } ⟨H, #[], 0, [], Same.refl H, fD.1, fK.1, I0, nk0, na0, .nil, by rw [List.take_zero]; exact .nil⟩ ?step ?done)
  case step =>
    rintro j y s' hx ⟨H1, kA, e, ws, sm, d1, d2, I1, nk1, na1, rw1, dq1⟩
    simp only [Nat.zero_add] at dq1 ⊢
    have hj : j < bs.length := by have := (List.getElem?_eq_some_iff.mp hx).1; omega
    obtain ⟨b, hbj⟩ : ∃ b, bs[j]? = some b := ⟨_, List.getElem?_eq_getElem hj⟩
    have rb : RelV (vV b) y := by
      have : ∀ {vs : List Value} {bs : List β} {j : Nat}, EachIs (fun v b => RelV (vV b) v) vs bs → vs[j]? = some y → bs[j]? = some b → RelV (vV b) y := by
        intro vs bs j h
        induction h generalizing j with
        | nil => intro e1; simp at e1
        | cons r t ih =>
          intro e1 e2
          cases j with
          | zero => simp at e1 e2; subst e1 e2; exact r
          | succ j => exact ih (by simpa using e1) (by simpa using e2)
      exact this he hx hbj
    have hmem : b ∈ bs := List.mem_of_getElem? hbj
    have I2 := pin2 I1 (fpOk_to fK d2) (fpOk_to fD d1) nk1 na1 (fun v z => nomatch z) (fun v z => nomatch z)
    have hz : kA.size ≤ bs.length := by
      have h1 : ws.length = kA.size := by rw [← Array.length_toList]; exact rw1.length
      have h2 := dq1.length
      rw [List.length_take, List.length_map] at h2
      omega
    refine wpAny_bind (wpAny_attempt (wpAny_mono (run_in2 F hr hb I2 rb (hf b hmem H1 sm (fun v H2 => Same H1 H2 ∧ Dq H2 v (kz b)) fun v H2 a c => ⟨a, c⟩)) (fun v s'' he => ?_) fun _ _ hF => hF.elim))
    obtain ⟨w1, H2, I3, rv, sm2, dq2⟩ := he
    try dsimp only
    have pk := I3.pin (kS, _) (List.mem_append_right _ (List.mem_append_right _ List.mem_cons_self))
    have pd := I3.pin (D, _) (List.mem_append_right _ (List.mem_append_right _ (List.mem_cons_of_mem _ List.mem_cons_self)))
    have I4 : Inv X pins σ H2 s'' := I3.unpinned
    have s1 := Heap.SameBut.update s''.heap kS (Obj.mapSeq (·.push v))
    obtain ⟨c2, hc2⟩ : ∃ c2, (s''.heap.update kS (Obj.mapSeq (·.push v))).get? kS = some (seqObj "list" (kA.push v) c2) := ⟨_, get?_update_seq pk.1 (·.push v)⟩
    refine wpAny_bind (listUpdate_at pk.1 rfl ?_ (Nat.le_trans hz hL) (Nat.le_trans (Nat.le_of_eq (Array.size_push ..)) (Nat.succ_le_succ (Nat.le_trans hz hL))))
    have f2 := fpOk_to fK pk.2.1
    refine wpAny_pure ⟨rfl, H2, kA.push v, c2, ws ++ [w1], sm.trans sm2, pd.2.1, pk.2.1, I4.turned (t' := s''.toks) (it := kS) (fun c u hc e => (s1.2 c hc).trans e) f2.1 f2.2.1 f2.2.2.2.1 f2.2.2.2.2.1 f2.2.2.2.2.2, hc2, (s1.2 D hkD.symm).trans pd.1, ?_, ?_⟩
    · rw [Array.toList_push]
      exact rw1.append (.cons rv .nil)
    · have et : (bs.map kz).take (j + 1) = (bs.map kz).take j ++ [kz b] := by rw [List.take_add_one, List.getElem?_map, hbj]; simp
      rw [et]
      exact (dq1.mono (Tk.of sm2)).append (.one dq2)
  case done =>
    rintro s' ⟨H1, kA, e, ws, sm, d1, d2, I1, nk1, na1, rw1, dq1⟩
    have e3 : (bs.map kz).take (0 + vs.length) = bs.map kz := List.take_of_length_le (by rw [List.length_map]; omega)
    rw [e3] at dq1
    have hsz : kA.size = vs.length := by
      have h1 : ws.length = kA.size := by rw [← Array.length_toList]; exact rw1.length
      have h2 := dq1.length
      rw [List.length_map] at h2
      omega
    have hk' : EachIs (fun v k => ∃ as, Reads s'.heap v k as) kA.toList (bs.map kz) := by
      have : ∀ {us : List Value} {ws : List V} {ds : List PyData}, Vals ws us → DqAll H1 ws ds → EachIs (fun v k => ∃ as, Reads s'.heap v k as) us ds := by
        intro us ws ds r d
        induction ds generalizing us ws with
        | nil => cases d; cases r; exact .nil
        | cons d0 ds ih =>
          cases d with
          | cons a b =>
            cases r with
            | cons r1 r2 => exact .cons ⟨[], Dq.reads I1.hok _ _ _ a r1⟩ (ih r2 b)
      exact this rw1 dq1
    try dsimp only
    refine wpAny_bind (listItems_at nk1 rfl ?_)
    have kp : KeepsBut D (PySem.W.hideAll s'.heap [kS]) s'.heap := fun c u _ e => PySem.W.of_hideAll _ e
    refine PySem.W.keyH_end (κ := dataKind s'.heap (bs.map kz)) (h₁ := PySem.W.hideAll s'.heap [kS]) (e := e) kp (PySem.W.hideAll_none _ List.mem_cons_self) nk1 na1 hkD
      (SortsAt.data (s := s') hk' hal hsk (fun d hd => ?_)) hsz (by rw [hlen]; exact hL) fun h3 tk3 c k3 n3 => ?_
    · obtain ⟨b, hb, rfl⟩ := List.mem_map.mp hd
      have := hu b hb
      show X.A.units + 1 + 1 + _ < _
      omega
    · have ko : KeyedOut false (bs.map kz) vs (PySem.W.sortVals (dataKind s'.heap (bs.map kz)) false kA.toList vs) := ⟨s'.heap, kA.toList, hal, rfl, hk'⟩
      have ke := keyedOut_each (R := fun v b => RelV (vV b) v) kz ko he
      refine q _ H1 sm d1 (adopt (b := kS) I1 (fpOk_to fD d1) (fpOk_to fK d2) (fun a u h1 h2 e => k3 a u h1 (PySem.W.hideAll_get _ e (by simpa using h2))) ⟨?_, _, c, each_vals (fun _ _ h => h) ke, n3⟩)
      rw [List.length_map, List.length_mergeSort]
      exact hL

/-- a def that gives the ranks of a tuple's items -/
def RankSp (rk : V → V) (Ok : List V → Prop) (sp : Sp) : Prop := ∀ (a : Addr) (l : List V) (H : Hp) (R : VK), Tq H a l → Ok l → (∀ p H', Same H H' → Tq H' p (l.map rk) → R (.ref p) H') → sp [.ref a] H R E0
/-- layouts in order -/
def srtK (rk : V → V) (ls : List (List V)) : List (List V) := ls.mergeSort (dataLe false fun l => eL (l.map rk))
def rSortK (P : Program) (w : World) (f : Addr) (rk : V → V) (Ok : List V → Prop) : List V → List V → Hp → VK → Prop := fun xs zs H Q => ∃ a kvs, xs = [.ref a] ∧ zs = [.ref f] ∧ Rd H a (DD P w a kvs) ∧ KD H kvs ∧ (∀ e ∈ kvs, Ok e.1) ∧
  (∀ e ∈ kvs, (e.1.map rk).all fl = true) ∧ AllAlike (kvs.map fun e => eL (e.1.map rk)) ∧ (∀ e ∈ kvs, e.1 ≠ []) ∧ ∀ p H', Same H H' → Ls H' p ((srtK rk (kvs.map (·.1))).map eL) → Q (.ref p) H'
theorem cr_sortK {rk : V → V} {Ok : List V → Prop} (F : FnOk X.prog X.w X.K X.mg X.base CX0 k f fd [x] sp) (hr : Room (k + 2) X.A) (hb : Binds X.K fd [x] []) (hc : X.calm = true) (hs : RankSp rk Ok sp) :
    CallRK X (.builtin "sorted") [Str.ofString "key"] (rSortK X.prog X.w f rk Ok) := by
  intro pins s σ H xs zs us ws Q I r rz q
  obtain ⟨a, kvs, rfl, rfl, hd, kd, hok, hfl, hal, hne, q⟩ := q
  obtain ⟨u, rfl, rx⟩ := vals1 r
  obtain ⟨u2, rfl, rx2⟩ := vals1 rz
  obtain rfl : u = Value.ref a := rx
  obtain rfl : u2 = Value.ref f := rx2
  obtain ⟨_, z, _⟩ := dd_raw I.hok hd
  have hu : X.A.units + 64 < cLine := hr.units
  show wpAny _ _ (call (.builtin "sorted") [.ref a] [(Str.ofString "key", .ref f)]) _ _ s
  refine PyProof.Rows.call_function_entry_kw PyProof.Rows.kind_sorted PyProof.Rows.plain_sorted PyProof.Rows.entry_sorted (PyProof.Rows.ksk_s1 _ _) ?_
  unfold Builtin.«sorted»
  refine wpAny_bind (m := checkCount "sorted" 1 1 _) (wpAny_pure ?_)
  refine wpAny_bind (dd_collect (A := X.A.in1) I hd (I.ok.hd hc) fun h' tk hk => ?_)
  have I1 : Inv X pins σ H { s with heap := h', toks := tk } := I.kept hk
  have hlen : (kvs.map fun p => Value.ref p.2.1).length ≤ sizeLine := by rw [List.length_map]; exact z
  refine wpAny_bind (wpAny_newList ?_ hlen)
  generalize hvs : (kvs.map fun p => Value.ref p.2.1) = vs at hlen ⊢
  have hoL : (h'.push (seqObj "list" vs.toArray 0)).get? h'.objs.size = some (seqObj "list" vs.toArray 0) := Heap.get?_push_size _ rfl
  show wpAny _ _ _ _ _ { s with heap := h'.push (seqObj "list" vs.toArray 0), toks := tk }
  have I2 : Inv X pins σ H { s with heap := h'.push (seqObj "list" vs.toArray 0), toks := tk } := I1.kept (t' := tk) fun b o e => Heap.get?_push_of_some _ e
  refine wpAny_bind (wpAny_holding (PyProof.Rows.wpAny_call_entry_kw PyProof.Rows.slot_list_sort ⟨_, hoL, rfl⟩ PyProof.Rows.entry_list_sort ?_ (PyProof.Rows.ksk_l1 _ _)))
  show wpAny _ X.A.in1.in1 (Builtin.«list.sort» ⟨[.ref h'.objs.size], [(Str.ofString "key", .ref f)]⟩) _ _ _
  rw [PyProof.Rows.ksk_t1]
  have eR : EachIs (fun v (b : Ent) => RelV (.ref b.2.1) v) vs kvs := by rw [← hvs]; exact (each_refs (n := 0) I1.hok kd).mono fun _ _ h => h.1
  refine sortK_tree (vV := fun e : Ent => V.ref e.2.1) (kz := fun e : Ent => eL (e.1.map rk)) F hr.in1.in1 hb I2 (I1.fpOk (Nat.le_refl _) (I1.hok.fresh (Nat.le_refl _))) hoL eR z hal (.inl fun d hd => ?_) (fun b _ => by have := eL_depth (b.1.map rk); omega) (fun e he H1 sm R hR => ?_) fun s' H1 sm d1 I3 => ?_
  · obtain ⟨e, he, rfl⟩ := List.mem_map.mp hd
    cases hx : e.1 with
    | nil => exact absurd hx (hne e he)
    | cons x l => exact ⟨dV (rk x), (l.map rk).map dV, rfl⟩
  · exact hs _ _ _ _ ((kd e he).1.same sm) (hok e he) fun p H2 sm2 hp => hR _ _ sm2 (Dq.eL hp (hfl e he))
  · have kd1 : KD H1 kvs := kd.mono (Tk.of sm)
    have kd2 : KD (upd H1 h'.objs.size (.lst ((kvs.mergeSort (dataLe false fun e : Ent => eL (e.1.map rk))).map fun e => V.ref e.2.1))) (kvs.mergeSort (dataLe false fun e : Ent => eL (e.1.map rk))) := (kd1.perm (List.mergeSort_perm _ _)).mono (Tk.new d1)
    have hl := Ls.of_ents kd2 (p := h'.objs.size) upd_same
    rw [srt_map (fun l => eL (l.map rk))] at hl
    exact ⟨_, rfl, wpAny_pure ⟨_, rfl, .ref h'.objs.size, _, I3, rfl, q _ _ (sm.trans (Same.new d1)) hl⟩⟩
end
end Cc

end

section
set_option Elab.async false
set_option linter.all false
set_option maxRecDepth 100000
set_option maxHeartbeats 4000000
namespace Cc
open PySem PySem.Spec L2

/-! ### dict(pairs), d.update(pairs) -/
def putAll (acc ps : List Ent) : List Ent := ps.foldl (fun acc p => putD acc p.1 p.2.1 p.2.2) acc
theorem putAll_len : ∀ (ps acc : List Ent), (putAll acc ps).length ≤ acc.length + ps.length
  | [], acc => by simp [putAll]
  | p :: ps, acc => by
    have h1 := putAll_len ps (putD acc p.1 p.2.1 p.2.2)
    have h2 := putD_len acc p.1 p.2.1 p.2.2
    show (putAll (putD acc p.1 p.2.1 p.2.2) ps).length ≤ acc.length + (ps.length + 1)
    omega
theorem KD.putAll {H : Hp} : ∀ {ps acc : List Ent}, KD H acc → KD H ps → KD H (putAll acc ps)
  | [], _, h, _ => h
  | p :: ps, acc, h, h2 => KD.putAll (ps := ps) (h.put (h2 p List.mem_cons_self).1 (h2 p List.mem_cons_self).2) fun q hq => h2 q (List.mem_cons_of_mem _ hq)
theorem KA.putAll : ∀ {ps : List Ent} {qs : List (NestedKey × Addr × Value)} {acc : List Ent} {xs : List (NestedKey × Addr × Value)}, KA ps qs → KA acc xs → (∀ p ∈ ps, p.1.all fl = true) → (∀ p ∈ acc, p.1.all fl = true) → KA (putAll acc ps) (storedAllH xs qs)
  | _, _, _, _, .nil, h, _, _ => h
  | p :: ps, (qk, qb, qv) :: qs, acc, xs, .cons r t, h, f1, f2 => by
    obtain ⟨r1, r2, r3⟩ := r
    simp only at r1 r2 r3
    subst r1 r2
    show KA (Cc.putAll (putD acc p.1 p.2.1 p.2.2) ps) (storedAllH (storedH xs (tk p.1) p.2.1 qv) qs)
    refine KA.putAll (acc := putD acc p.1 p.2.1 p.2.2) t (h.put (f1 p List.mem_cons_self) f2 r3) (fun q hq => f1 q (List.mem_cons_of_mem _ hq)) fun q hq => ?_
    unfold putD at hq
    split at hq
    · obtain ⟨q', hq', rfl⟩ := List.mem_map.mp hq
      split <;> exact f2 q' hq'
    · rcases List.mem_append.mp hq with hq | hq
      · exact f2 q hq
      · obtain rfl := List.mem_singleton.mp hq
        exact f1 p List.mem_cons_self
/-- the list at l holds pairs: their tuples at ts, each a key and a value -/
def PairsAt (H : Hp) (l : Addr) (ts : List Addr) (kv : List (V × V)) : Prop := H l = some (.lst (ts.map V.ref)) ∧ Paired (fun t p => Tq H t [p.1, p.2]) ts kv
section
variable {P : Program} {w : World} {H : Hp} {h : Heap}
theorem pairItems (ok : HOk P w H h) : ∀ {ts : List Addr} {kv : List (V × V)}, Paired (fun t p => Tq H t [p.1, p.2]) ts kv →
    ∃ ps : List (Value × Value), ps.length = ts.length ∧ (∀ (j : Nat) k v, ps[j]? = some (k, v) → PairAt h (ts.getD j 0) k v ∧ h.IsTuple (ts.getD j 0) #[k, v]) ∧ Paired (fun (p : V × V) q => RelV p.1 q.1 ∧ RelV p.2 q.2) kv ps
  | _, _, .nil => ⟨[], rfl, fun j k v e => by simp at e, .nil⟩
  | t :: ts, p :: kv, .cons r rs => by
    obtain ⟨ps, hl, hp, hr⟩ := pairItems ok rs
    obtain ⟨_, its, rv, o, h1, h2, n, h3⟩ := (show ObjOk P w H h t (.tup [p.1, p.2]) from r.rd.ok ok)
    cases rv with
    | cons ra rv =>
      cases rv with
      | cons rb rv =>
        cases rv
        rename_i u1 u2
        refine ⟨(u1, u2) :: ps, by simp [hl], fun j k v e => ?_, .cons ⟨ra, rb⟩ hr⟩
        cases j with
        | zero =>
          simp at e
          obtain ⟨rfl, rfl⟩ := e
          have ht : h.IsTuple t #[u1, u2] := ⟨o, h1, h2, n, h3⟩
          exact ⟨.inl ht, ht⟩
        | succ j => exact hp j k v (by simpa using e)
end
section
variable {X : Cx} {pins : List (Addr × Obj)} {σ : L2.St} {H : Hp} {s : Shared}
theorem refs_vals : ∀ {ts : List Addr} {us : List Value}, Vals (ts.map V.ref) us → us = ts.map Value.ref
  | [], us, r => by cases r; rfl
  | t :: ts, us, r => by
    cases r with
    | cons a b =>
      rw [List.map_cons, ← refs_vals b]
      cases a; rfl
/-- what the library asks of such a list -/
theorem pairArg (I : Inv X pins σ H s) {l : Addr} {ts : List Addr} {kv : List (V × V)} (h : PairsAt H l ts kv) : ∃ (items : Array Value) (ps : List (Value × Value)),
    (PlainSeq "list" s.heap l items ∧ PairItems s.heap items (fun j => ts.getD j 0) ps) ∧ ps.length = kv.length ∧ Paired (fun (p : V × V) q => RelV p.1 q.1 ∧ RelV p.2 q.2) kv ps := by
  obtain ⟨hl, hp⟩ := h
  obtain ⟨ps, e1, e2, e3⟩ := pairItems I.hok hp
  obtain ⟨z, its, n, r, e⟩ := I.hok l _ hl
  have hi := refs_vals r
  subst hi
  refine ⟨_, ps, ⟨⟨_, n, e, rfl, rfl, rfl⟩, by simp [e1], fun j k v hj => ⟨?_, (e2 j k v hj).1⟩⟩, (Paired.length e3).symm, e3⟩
  have hlt : j < ts.length := by rw [← e1]; exact (List.getElem?_eq_some_iff.mp hj).1
  simp [hlt, List.getD_eq_getElem?_getD]
theorem pairs_ne (I : Inv X pins σ H s) {d l : Addr} {ts : List Addr} {kv : List (V × V)} (h : PairsAt H l ts kv) {o : HO} (hd : H d = some o) (h1 : ∀ xs, o ≠ .lst xs) (h2 : ∀ ob xs, o ≠ .frz ob (.tup xs)) {n : Nat} (hn : n = ts.length) : d ∉ l :: (List.range n).map fun j => ts.getD j 0 := by
  intro hm
  rcases List.mem_cons.mp hm with e | hm
  · rw [e, h.1] at hd; exact h1 _ (Option.some.inj hd).symm
  · obtain ⟨j, hj, rfl⟩ := List.mem_map.mp hm
    have hj : j < ts.length := by rw [← hn]; exact List.mem_range.mp hj
    obtain ⟨p, hp, e⟩ := paired_get h.2 (List.getElem?_eq_getElem hj)
    have e3 : ts.getD j 0 = ts[j] := by simp [List.getD_eq_getElem?_getD, hj]
    obtain ⟨ob, _, e⟩ := e
    rw [e3, e] at hd
    exact h2 _ _ (Option.some.inj hd).symm
/-- ps: entries made of the pairs kv -/
def EntsOf (kv : List (V × V)) (ps : List Ent) : Prop := kv = ps.map fun e => (V.ref e.2.1, e.2.2)
theorem entsOf_raw {kv : List (V × V)} {es : List Ent} (e : EntsOf kv es) : ∀ {ps : List (Value × Value)}, Paired (fun (p : V × V) q => RelV p.1 q.1 ∧ RelV p.2 q.2) kv ps →
    ∃ xs : List (NestedKey × Addr × Value), KA es xs ∧ xs.length = ps.length ∧ ∀ (i : Nat) k v, ps[i]? = some (k, v) → ∃ q b, xs[i]? = some (q, b, v) ∧ k = .ref b := by
  unfold EntsOf at e
  subst e
  intro ps r
  induction es generalizing ps with
  | nil => cases r; exact ⟨[], .nil, rfl, fun i k v e => by simp at e⟩
  | cons x es ih =>
    cases r with
    | @cons _ y _ ps r t =>
      obtain ⟨xs, h1, h2, h3⟩ := ih t
      obtain ⟨ra, rb⟩ := r
      refine ⟨(tk x.1, x.2.1, y.2) :: xs, .cons ⟨rfl, rfl, rb⟩ h1, by simp [h2], fun i k v e => ?_⟩
      cases i with
      | zero =>
        simp at e
        subst e
        exact ⟨_, _, rfl, ra⟩
      | succ i => exact h3 i k v (by simpa using e)
theorem keysStay (I : Inv X pins σ H s) {es : List Ent} {xs : List (NestedKey × Addr × Value)} (r : KA es xs) (kd : KD H es) {d : Addr} (hd : ∀ o xs, H d ≠ some (.frz o (.tup xs))) : KeysStay (nestedKind X.prog X.w) s.heap d [] xs := by
  intro h' hk
  have all : ∀ {l : List Ent} {m : List (NestedKey × Addr × Value)}, KA l m → KD H l → ∀ x ∈ m, (nestedKind X.prog X.w).is h' x.1 x.2.1 := by
    intro l m q
    induction q with
    | nil => intro _ x hx; exact nomatch hx
    | @cons p q ps qs hq t ih =>
      intro hkd x hx
      rcases List.mem_cons.mp hx with e | hx
      · subst e
        obtain ⟨k1, k2⟩ := hkd p List.mem_cons_self
        rw [← hq.1, ← hq.2.1]
        obtain ⟨_, its, rv, o, h1, h2, n, h3⟩ := (show ObjOk X.prog X.w H s.heap p.2.1 (.tup p.1) from k1.rd.ok I.hok)
        have hne : p.2.1 ≠ d := fun z => by obtain ⟨ob, _, k3⟩ := k1; exact hd ob p.1 (z ▸ k3)
        exact ⟨.tup (hk _ o hne (by simp) h1) h2 h3 (by simpa using nested_all k2 rv), tk_depth p.1⟩
      · exact ih (fun z hz => hkd z (List.mem_cons_of_mem _ hz)) x hx
  exact all r kd
end
/-- dict(pairs) -/
def rDictOf (P : Program) (w : World) : List V → Hp → VK → Prop := fun xs H Q => ∃ l ts kv ps, xs = [.ref l] ∧ PairsAt H l ts kv ∧ EntsOf kv ps ∧ KD H ps ∧ ∀ p, H p = none → Q (.ref p) (upd H p (DD P w p (putAll [] ps)))
theorem cr_dictOf {X : Cx} (hu : X.A.units + 64 < cLine) (hc : X.calm = true) : CallR X (.type "dict") (rDictOf X.prog X.w) := by
  intro pins s σ H xs us Q I r q
  obtain ⟨l, ts, kv, ps, rfl, hp, he, kd, q⟩ := q
  obtain ⟨u, rfl, rx⟩ := vals1 r
  obtain rfl : u = Value.ref l := rx
  obtain ⟨items, vs, ok, hl, hr⟩ := pairArg I hp
  obtain ⟨xs, ka, hx, hi⟩ := entsOf_raw he hr
  have hts : ts.length = kv.length := Paired.length hp.2
  have hsz : ts.length ≤ sizeLine := by
    obtain ⟨z, _⟩ := I.hok l _ hp.1
    rwa [List.length_map] at z
  have rm : (nestedKind X.prog X.w).room X.A.in1.in1 := by show X.A.units + 1 + 1 + 8 < cLine; omega
  refine call_dict_pairsH (knd := nestedKind X.prog X.w) (ps := xs) (PairArg.list l items (fun j => ts.getD j 0) vs) (I.ok.hd hc) rm ok ⟨hx, hi⟩ (keysStay I ka kd (fun o xs e => ?_)) (by omega) fun h' tk dd hk => ?_
  · have := I.hok.lt e
    exact absurd this (Nat.lt_irrefl _)
  · obtain ⟨o, es, ep, h1, h2, h3, h4, _, h5⟩ := dd
    have I1 : Inv X pins σ H { s with heap := h', toks := tk } := I.kept fun b o e => hk b o (by simp) e
    have hL : (putAll [] ps).length ≤ sizeLine := by
      have := putAll_len ps []
      have e2 : ps.length = kv.length := by rw [he]; simp
      simp at this
      omega
    refine ⟨.ref s.heap.objs.size, _, I.laid (t' := tk) (fun b o e => hk b o (by simp) e) (Nat.le_refl _) (DD_new ⟨hL, beq_eq_false_iff_ne.mpr (Ne.symm (Nat.ne_of_lt I.big)), _, KA.putAll ka .nil (fun p hp => (kd p hp).2) (fun p hp => nomatch hp), o, es, ep, h1, h2, h3, h4, h5⟩), rfl, q _ (I.hok.fresh (Nat.le_refl _))⟩
/-- d.update(pairs): a method call of a dict with one argument -/
def tUpd (r : Addr → Addr → Hp → (Hp → Prop) → Prop) (isD : Hp → Addr → Prop) (td te : TE) : TE := fun σ H Q => td σ H fun x H1 => ∃ d, x = .ref d ∧ isD H1 d ∧ te σ H1 fun y H2 => ∃ l, y = .ref l ∧ r d l H2 fun H3 => Q .non H3
section
variable {X : Cx} {o e : Expr} {apos cpos : Pos} {td te : TE}
theorem pe_upd {r : Addr → Addr → Hp → (Hp → Prop) → Prop} {isD : Hp → Addr → Prop}
    (hD : ∀ (pins : List (Addr × Obj)) (s : Shared) (σ : L2.St) (H : Hp) (d : Addr), Inv X pins σ H s → isD H d → s.TypeIs (.ref d) "dict" ∧ ∀ b, Value.ref d = .ref b → ∃ ob, s.heap.get? b = some ob ∧ ob.dict = none)
    (hr : ∀ (pins : List (Addr × Obj)) (s : Shared) (σ : L2.St) (H : Hp) (d l : Addr) (Q : Hp → Prop), Inv X pins σ H s → r d l H Q → wpAny (model X.prog X.w) X.A (call (.builtin "dict.update") [.ref d, .ref l]) (EP X pins σ fun v H' => v = .non ∧ Q H') X.xe s)
    (ho : PE X o td) (he : PE X e te) (m : M1 X o "update" apos e cpos) : PE X (.Call (.Attribute o "update" apos) [e] [] cpos) (tUpd r isD td te) := by
  refine ⟨fun pins s σ H Q I h => ?_⟩
  refine wpAny_Call_method m.base m.few m.line PySem.F.plainAttrs_dict PySem.F.slot_dict_update PySem.F.type_dict_update (thn (ho.run pins s σ H _ I h) fun u s1 ⟨x, H1, I1, rx, d, ex, d0, q1⟩ => ?_)
  subst ex
  obtain rfl : u = Value.ref d := rx
  obtain ⟨t1, t2⟩ := hD pins s1 σ H1 d I1 d0
  refine ⟨t1, t2, ?_⟩
  rw [m.trees]
  refine Calls.callWith_builtin rfl (Calls.evalArgs_plain (Calls.spliced_cons (thn (he.run pins s1 σ H1 _ I1 q1) fun iv s2 ⟨y, H2, I2, ry, l, ey, q2⟩ => Calls.spliced_nil ?_)))
  subst ey
  obtain rfl : iv = Value.ref l := ry
  refine thn (hr pins s2 σ H2 d l _ I2 q2) fun v s3 ⟨x, H3, I3, rv, ev, q3⟩ => ?_
  subst ev
  exact ⟨.non, H3, I3, rv, q3⟩
/-- keys: tuples of flat things -/
def rUpdD (P : Program) (w : World) : Addr → Addr → Hp → (Hp → Prop) → Prop := fun d l H Q => ∃ kvs ts kv ps, H d = some (DD P w d kvs) ∧ KD H kvs ∧ PairsAt H l ts kv ∧ EntsOf kv ps ∧ KD H ps ∧ kvs.length + ps.length ≤ sizeLine ∧ Q (upd H d (DD P w d (putAll kvs ps)))
theorem pe_updD (hu : X.A.units + 64 < cLine) (hc : X.calm = true) (ho : PE X o td) (he : PE X e te) (m : M1 X o "update" apos e cpos) :
    PE X (.Call (.Attribute o "update" apos) [e] [] cpos) (tUpd (rUpdD X.prog X.w) (fun H d => ∃ kvs, H d = some (DD X.prog X.w d kvs)) td te) := by
  refine pe_upd (fun pins s σ H d I ⟨kvs, h⟩ => dd_typeIs I (.inl h)) (fun pins s σ H d l Q I h => ?_) ho he m
  obtain ⟨kvs, ts, kv, ps, hd, kd, hp, hE, kd2, hz, q⟩ := h
  obtain ⟨items, vs, ok, hl, hr⟩ := pairArg I hp
  obtain ⟨xs, ka, hx, hi⟩ := entsOf_raw hE hr
  obtain ⟨_, lo, acc, kacc, dd⟩ := dd_rd I.hok (.inl hd) kd
  have hts : ts.length = kv.length := Paired.length hp.2
  have hacc : kvs.length = acc.length := Paired.length kacc
  have e2 : ps.length = kv.length := by rw [hE]; simp
  have rm : (nestedKind X.prog X.w).room X.A.in1 := by show X.A.units + 1 + 8 < cLine; omega
  have nt : ∀ o xs, H d ≠ some (.frz o (.tup xs)) := fun o xs e => by rw [hd] at e; exact DD_ne o xs (Option.some.inj e)
  have st : KeysStay (nestedKind X.prog X.w) s.heap d [] (acc ++ xs) := fun h' hk x hx => by
    rcases List.mem_append.mp hx with hx | hx
    · exact keysStay I kacc kd nt h' hk x hx
    · exact keysStay I ka kd2 nt h' hk x hx
  refine call_update_pairsH (knd := nestedKind X.prog X.w) (ps := xs) (PairArg.list l items (fun j => ts.getD j 0) vs) (I.ok.hd hc) rm ok
    (pairs_ne I hp hd (fun xs => DD_nel xs) (fun o xs => DD_ne o xs) (by omega)) ⟨hx, hi⟩ st dd (by omega) fun h' tk dd' hk => ?_
  obtain ⟨o', es, ep, h1, h2, h3, h4, _, h5⟩ := dd'
  have hL : (putAll kvs ps).length ≤ sizeLine := Nat.le_trans (putAll_len ps kvs) hz
  exact ⟨.non, _, I.write (x := d) (e := d) (t' := tk) (by rw [hd]; exact DD_mut) (.inl rfl) (fun b u hb z => hk b u hb (by simp) z) ⟨o', h1⟩ (DD_new ⟨hL, lo, _, KA.putAll ka kacc (fun p hp => (kd2 p hp).2) (fun p hp => (kd p hp).2), o', es, ep, h1, h2, h3, h4, h5⟩), rfl, rfl, q⟩
/-- keys: texts and ints -/
def rUpdK : Addr → Addr → Hp → (Hp → Prop) → Prop := fun d l H Q => ∃ kvs ts kv more, H d = some (.dK kvs) ∧ PairsAt H l ts kv ∧ kv = more.map (fun p => (kV p.1, p.2)) ∧ kvs.length + more.length ≤ sizeLine ∧ Q (upd H d (.dK (mergeK kvs more)))
theorem keysOf_raw {P : Program} {w : World} : ∀ {more : List (Key × V)} {ps : List (Value × Value)}, Paired (fun (p : V × V) q => RelV p.1 q.1 ∧ RelV p.2 q.2) (more.map fun p => (kV p.1, p.2)) ps →
    ∃ rs : List (Key × Value), KV more rs ∧ rs.length = ps.length ∧ ∀ (i : Nat) k v, ps[i]? = some (k, v) → ∃ q, rs[i]? = some (q, v) ∧ (mixKind P w).is q k = true
  | [], ps, r => by cases r; exact ⟨[], .nil, rfl, fun i k v e => by simp at e⟩
  | x :: more, ps, r => by
    cases r with
    | @cons _ y _ ps r t =>
      obtain ⟨rs, h1, h2, h3⟩ := keysOf_raw (P := P) (w := w) t
      obtain ⟨ra, rb⟩ := r
      refine ⟨(x.1, y.2) :: rs, .cons ⟨rfl, rb⟩ h1, by simp [h2], fun i k v e => ?_⟩
      cases i with
      | zero =>
        simp at e
        subst e
        exact ⟨_, rfl, kV_is ra⟩
      | succ i => exact h3 i k v (by simpa using e)
theorem pe_updK (hc : X.calm = true) (ho : PE X o td) (he : PE X e te) (m : M1 X o "update" apos e cpos) :
    PE X (.Call (.Attribute o "update" apos) [e] [] cpos) (tUpd rUpdK (fun H d => ∃ kvs, H d = some (.dK kvs)) td te) := by
  refine pe_upd (fun pins s σ H d I ⟨kvs, h⟩ => ?_) (fun pins s σ H d l Q I h => ?_) ho he m
  · obtain ⟨t1, t2, _⟩ := isD_at I (.inl ⟨kvs, .inl h⟩)
    exact ⟨t1, t2⟩
  obtain ⟨kvs, ts, kv, more, hd, hp, hE, hz, q⟩ := h
  obtain ⟨items, vs, ok, hl, hr⟩ := pairArg I hp
  subst hE
  obtain ⟨rs, rel2, hx, hi⟩ := keysOf_raw (P := X.prog) (w := X.w) hr
  obtain ⟨_, lo, acc, rel, dd⟩ := dk_of I.hok hd
  have hts : ts.length = more.length := by have := Paired.length hp.2; simpa using this
  have hacc := rel.length
  rw [List.length_map] at hl
  refine call_update_pairs (knd := mixKind X.prog X.w) (kvs := rs) (PairArg.list l items (fun j => ts.getD j 0) vs) (I.ok.hd hc) ok
    (pairs_ne I hp hd (fun xs z => nomatch z) (fun o xs z => nomatch z) (by omega)) ⟨hx, hi⟩ dd (by omega) fun h' tk dd' hk => ?_
  have ex : ∃ q, h'.get? d = some q := let ⟨q, _, _, hq, _⟩ := dd'; ⟨q, hq⟩
  exact ⟨.non, _, I.write (x := d) (e := d) (t' := tk) (by rw [hd]; exact True.intro) (.inl rfl) (fun b u hb z => hk b u hb (by simp) z) ex (dk_new (Nat.le_trans (length_mergeK more kvs) hz) lo (KV.merge rel2 rel) dd'), rfl, rfl, q⟩
end
end Cc

end

section
set_option Elab.async false
set_option linter.all false
set_option maxRecDepth 100000
set_option maxHeartbeats 8000000
namespace Cc
open PySem PySem.Spec L2 PySem.Calls
open PyProof.Rows hiding St
open PySem.W (EachIs AllAlike Sortable dataLe)

/-! ### set(xs) of a list or a tuple, member by member -/
/-- what the set has got from the first i items: L, each a value and the key that it is -/
structure GotK {κ : Type} (ks : List (Value × κ)) (i : Nat) (L : List (Value × κ)) : Prop where
  sub : ∀ p ∈ L, p ∈ ks.take i
  all : ∀ p ∈ ks.take i, p.2 ∈ L.map (·.2)
  nd : (L.map (·.2)).Nodup
section
variable {κ : Type} {ks L L' : List (Value × κ)} {i : Nat} {x : Value × κ}
theorem GotK.zero : GotK ks 0 [] := ⟨fun p h => (nomatch h), fun p h => by simp at h, List.nodup_nil⟩
theorem GotK.same (g : GotK ks i L) (h : ks[i]? = some x) (hm : x.2 ∈ L.map (·.2)) : GotK ks (i + 1) L := by
  have e : ks.take (i + 1) = ks.take i ++ [x] := by rw [List.take_add_one, h]; simp
  refine ⟨fun p hp => by rw [e]; exact List.mem_append_left _ (g.sub p hp), fun p hp => ?_, g.nd⟩
  rw [e] at hp
  rcases List.mem_append.mp hp with hp | hp
  · exact g.all p hp
  · rw [List.mem_singleton.mp hp]; exact hm
theorem GotK.more (g : GotK ks i L) (h : ks[i]? = some x) (hn : x.2 ∉ L.map (·.2)) (pm : L'.Perm (x :: L)) : GotK ks (i + 1) L' := by
  have e : ks.take (i + 1) = ks.take i ++ [x] := by rw [List.take_add_one, h]; simp
  have pk : (L'.map (·.2)).Perm (x.2 :: L.map (·.2)) := pm.map _
  refine ⟨fun p hp => ?_, fun p hp => pk.mem_iff.mpr ?_, pk.nodup_iff.mpr (List.nodup_cons.mpr ⟨hn, g.nd⟩)⟩
  · rw [e]
    rcases List.mem_cons.mp (pm.mem_iff.mp hp) with rfl | hp
    · exact List.mem_append_right _ List.mem_cons_self
    · exact List.mem_append_left _ (g.sub p hp)
  · rw [e] at hp
    rcases List.mem_append.mp hp with hp | hp
    · exact List.mem_cons_of_mem _ (g.all p hp)
    · rw [List.mem_singleton.mp hp]; exact List.mem_cons_self
end
section
variable {P : Program} {w : World} {A : Around} {E : Value → Shared → Prop} {s : Shared} {κ : Type} [DecidableEq κ]
/-- what is asked of a kind of sets: Sx h L, the set at S in h has the members L (in its order) -/
structure SetKind (P : Program) (w : World) (A : Around) (S : Addr) (h0 : Heap) (ks : List (Value × κ)) (Sx : Heap → List (Value × κ) → Prop) : Prop where
  keep : ∀ h h' L, Sx h L → (∀ p ∈ L, p ∈ ks) → (∀ o, h.get? S = some o → h'.get? S = some o) → (∀ b o, h0.get? b = some o → h'.get? b = some o) → Sx h' L
  add : ∀ (s : Shared) (L : List (Value × κ)) (p : Value × κ) (E : Value → Shared → Prop) (Q : Bool → Shared → Prop), p ∈ ks → Sx s.heap L → (∀ q ∈ L, q ∈ ks) → (L.map (·.2)).Nodup → (∀ b o, h0.get? b = some o → s.heap.get? b = some o) →
    (∀ b h' L' tk, Heap.SameBut S s.heap h' → Sx h' L' → (p.2 ∈ L.map (·.2) → L' = L) → (p.2 ∉ L.map (·.2) → L'.Perm (p :: L)) → s.toks ≤ tk → Q b { s with heap := h', toks := tk }) → wpAny (model P w) A (setAdd S p.1) Q E s
theorem set_loop {I : Addr} {fp wr : List Addr} {G : Array GenState → Array GenState → Prop} {n : Nat} {Pv : Nat → Value → Prop} {St : Nat → Shared → Prop} {R : Result → Shared → Prop}
    (W : WalksS P w A.in1 I fp wr G n Pv St) (S : Addr) (hSf : S ∉ fp) (ks : List (Value × κ)) (hn : n = ks.length) (hval : ∀ i v, Pv i v → ∃ p, ks[i]? = some p ∧ v = p.1) {Sx : Heap → List (Value × κ) → Prop}
    (h0 : Heap) (K : SetKind P w A.in1 S h0 ks Sx) (hS0 : h0.get? S = none) (hw0 : ∀ b ∈ wr, h0.get? b = none) :
    ∀ (k i : Nat) (s : Shared), n - i = k → i ≤ n → St i s → (∀ b o, h0.get? b = some o → s.heap.get? b = some o) → (∃ L, Sx s.heap L ∧ GotK ks i L) →
      (∀ s' L, Moved (S :: wr) G s s' → Sx s'.heap L → GotK ks n L → (∀ b o, h0.get? b = some o → s'.heap.get? b = some o) → R (.ok (.ret .none)) s') →
      codeAny (model P w) A (.builtin "set.update.loop" ⟨[.ref S, .ref I], []⟩) R s := by
  have hSw : S ∉ wr := fun h => hSf (W.sub _ h)
  have hsub : ∀ b ∈ wr, b ∈ S :: wr := fun b hb => List.mem_cons_of_mem _ hb
  have keepM : ∀ {s s' : Shared}, Moved wr G s s' → (∀ b o, h0.get? b = some o → s.heap.get? b = some o) → ∀ b o, h0.get? b = some o → s'.heap.get? b = some o := fun hm hkp b o e =>
    hm.heap b o (fun hb => by rw [hw0 b hb] at e; cases e) (hkp b o e)
  intro k
  induction k with
  | zero =>
    intro i s hk' hi hst hkp ⟨L, hS, g⟩ hR
    have hin : i = n := by omega
    subst hin
    refine codeAny_builtin F.entry_set_update_loop ?_
    rw [Around.under_plainId F.plain_set_update_loop _]
    show wpAny _ A.in1 (pyNext (.ref I) >>= _) _ _ s
    refine wpAny_bind (W.done s _ _ hst fun s' hm => ?_)
    show wpAny _ A.in1 (ret Value.none) _ _ s'
    have hkp' := keepM hm hkp
    exact wpAny_pure (hR s' L (hm.mono hsub) (K.keep _ _ _ hS (fun p hp => List.mem_of_mem_take (g.sub p hp)) (fun o e => hm.heap S o hSw e) hkp') g hkp')
  | succ k ih =>
    intro i s hk' hi hst hkp ⟨L, hS, g⟩ hR
    have hlt : i < n := by omega
    refine codeAny_builtin F.entry_set_update_loop ?_
    rw [Around.under_plainId F.plain_set_update_loop _]
    show wpAny _ A.in1 (pyNext (.ref I) >>= _) _ _ s
    refine wpAny_bind (W.item i s _ _ hlt hst fun v s' hP hst' hm => ?_)
    obtain ⟨p, hp, rfl⟩ := hval i v hP
    have hkp' := keepM hm hkp
    have sub : ∀ q ∈ L, q ∈ ks := fun q hq => List.mem_of_mem_take (g.sub q hq)
    have hS' : Sx s'.heap L := K.keep _ _ _ hS sub (fun o e => hm.heap S o hSw e) hkp'
    show wpAny _ A.in1 (holding [p.1] (setAdd S p.1) >>= _) _ _ s'
    refine wpAny_bind (wpAny_holding ?_)
    refine K.add s' L p _ _ (List.mem_of_getElem? hp) hS' sub g.nd hkp' fun b h' L' tk hsb hS2 c1 c2 htk => ?_
    have g' : GotK ks (i + 1) L' := by
      by_cases c : p.2 ∈ L.map (·.2)
      · rw [c1 c]; exact g.same hp c
      · exact g.more hp c (c2 c)
    have hkp2 : ∀ b o, h0.get? b = some o → h'.get? b = some o := fun b o e => (hsb.2 b (fun z => by rw [z, hS0] at e; cases e)).trans (hkp' b o e)
    refine wpAny_pure ⟨plainId_quiet F.plain_set_update_loop _, ih (i + 1) _ (by omega) hlt (W.frame _ s' _ _ hst' htk fun b hb o e => ?_) hkp2 ⟨L', hS2, g'⟩ fun s'' L2 hm'' hS'' g'' hkp'' => ?_⟩
    · rw [hsb.2 b (fun h : b = S => hSf (by rw [← h]; exact hb))]; exact e
    · refine hR s'' L2 (Moved.trans W.gtrans ((hm.mono hsub).then_heap htk fun b o hb e => ?_) hm'') hS'' g'' hkp''
      rw [hsb.2 b (fun h : b = S => hb (by rw [h]; exact List.mem_cons_self))]; exact e
/-- an empty set as it is made -/
abbrev freshSet (w : World) : Obj := { cls := .type "set", dict := none, data := .set #[] 0 (.fresh 0 0 (!w.params.followText "set-order")) }
theorem none_of {h : Heap} {b : Addr} (hb : h.objs.size ≤ b) : h.get? b = none := by
  cases q : h.get? b with
  | none => rfl
  | some o => exact absurd (Nat.lt_of_lt_of_le (Heap.lt_size q) hb) (Nat.lt_irrefl _)
/-- set(xs): xs a list -/
theorem call_set_list {l : Addr} {items : Array Value} (ks : List (Value × κ)) {Sx : Heap → List (Value × κ) → Prop} {Q : Value → Shared → Prop} (hh : A.handled = none) (hl : s.heap.IsList l items) (hit : items.toList = ks.map (·.1))
    (K : SetKind P w A.in1.in1.in1 s.heap.objs.size s.heap ks Sx) (h00 : ∀ h, h.get? s.heap.objs.size = some (freshSet w) → Sx h [])
    (h : ∀ (h' : Heap) (tk : Nat) L, Sx h' L → GotK ks ks.length L → (∀ b o, s.heap.get? b = some o → h'.get? b = some o) → Q (.ref s.heap.objs.size) { s with heap := h', toks := tk }) :
    wpAny (model P w) A (call (.type "set") [.ref l]) Q E s := by
  have hisz : items.size = ks.length := by
    have q := congrArg List.length hit
    rw [Array.length_toList, List.length_map] at q
    exact q
  obtain ⟨c, tl, hmro⟩ := F.called_set.mro
  have hmade := F.called_set.made
  have hsub := F.called_set.sub
  refine wpAny_call (codeAny_of_tree ?_)
  show wpAny _ _ (callAny (.type "set") _) _ _ _
  refine wpAny_pure ⟨Code.quiet_builtin _ (by decide +kernel), codeAny_builtin F.entry_type_call ?_⟩
  rw [Around.under_plain (weight_type_call_type "set" [.ref l] []) rfl]
  have h1 := F.called_set.notType
  have h2 := F.called_set.canCreate
  have hct := F.typeCall_set_1 (.ref l)
  repeat (any_goals (first | assumption | wp_step))

  refine codeAny_mono (code_set_led1 (.ref l) (E := E) (Q₁ := fun obj s₁ => obj = .ref s.heap.objs.size ∧ s₁ = { s with heap := s.heap.push (freshSet w) }) ⟨rfl, rfl⟩) fun r s₁ hr => ?_
  cases r with
  | error e => exact hr
  | ok fl =>
    cases fl with
    | ret obj =>
      obtain ⟨rfl, rfl⟩ := hr
      have hS : (s.heap.push (freshSet w)).get? s.heap.objs.size = some (freshSet w) := Heap.get?_push_size _ rfl
      have hT : Shared.TypeIs { s with heap := s.heap.push (freshSet w) } (.ref s.heap.objs.size) "set" := ⟨_, hS, rfl⟩
      have hli := F.called_set.init.lookup
      have hbi := F.called_set.init.bind (.ref s.heap.objs.size)
      repeat (any_goals (first | assumption | wp_step))

      refine codeAny_mono (codeAny_call_builtin (R := wants (fun r s₂ => r = .none ∧ ∃ h' tk L, s₂ = { s with heap := h', toks := tk } ∧ Sx h' L ∧ GotK ks ks.length L ∧ (∀ b o, s.heap.get? b = some o → h'.get? b = some o)) E) F.called_set.init.plain F.entry_set_init (check_set_init_1 hT ?_)) fun r₂ s₂ hr₂ => ?_
      · obtain ⟨ol, hol, hcl, nl, hdl⟩ := hl
        obtain ⟨ocls, odict, odata, oslots⟩ := ol
        simp only at hcl hdl
        subst hcl; subst hdl
        have hol' : (s.heap.push (freshSet w)).get? l = some { cls := .type "list", dict := odict, data := .seq items nl, slots := oslots } := Heap.get?_push_of_some _ hol
        have hsls := F.sub_list_set
        have hslf := F.sub_list_frozenset
        have hne : (Value.type "list" == Value.type "dict") = false := by decide
        have hl1 : (s.heap.push (freshSet w)).IsList l items := ⟨_, hol', rfl, nl, rfl⟩
        unfold Builtin.«set.__init__» noKeywords Builtin.Frozenset.updateFrom
        generalize hPI : pyIter = PI
        wp_walk
        subst hPI

        refine wpAny_pyIter_list hl1 ?_
        refine wpAny_bind (wpAny_runValue ?_)
        have hlS : l < s.heap.objs.size := Heap.lt_size hol
        have hh3 : A.in1.in1.in1.handled = none := by simp [hh]
        have hneI : l ≠ (s.heap.push (freshSet w)).objs.size := by
          rw [Heap.size_push]; exact Nat.ne_of_lt (Nat.lt_succ_of_lt hlS)
        have hSf : s.heap.objs.size ∉ [(s.heap.push (freshSet w)).objs.size, l] := by
          rw [Heap.size_push]; simp only [List.mem_cons, List.mem_singleton, List.not_mem_nil, or_false, not_or]
          exact ⟨Nat.ne_of_lt (Nat.lt_succ_self _), Nat.ne_of_gt hlS⟩
        have hval : ∀ (i : Nat) (v : Value), items[i]? = some v → ∃ p, ks[i]? = some p ∧ v = p.1 := fun i v hv => by
          have q : items.toList[i]? = some v := by rw [Array.getElem?_toList]; exact hv
          rw [hit, List.getElem?_map] at q
          cases hq : ks[i]? with
          | none => rw [hq] at q; cases q
          | some p => rw [hq] at q; exact ⟨p, rfl, (Option.some.inj q).symm⟩
        refine set_loop ((Walks.list hh3 _ l hneI items).toS) s.heap.objs.size hSf ks hisz hval s.heap K (none_of (Nat.le_refl _))
          (fun b hb => none_of (by rw [List.mem_singleton.mp hb, Heap.size_push]; exact Nat.le_succ _)) (items.size - 0) 0 _ (by omega) (Nat.zero_le _)
          ⟨⟨_, Heap.get?_push_size _ rfl, rfl, rfl⟩, (hl1.push _)⟩ (fun b o e => Heap.get?_push_of_some _ (Heap.get?_push_of_some _ e)) ⟨[], h00 _ (Heap.get?_push_of_some _ hS), GotK.zero⟩ ?hR
        case hR =>
          intro s' L hm hS' g' hkp
          obtain ⟨h', g0, d', tk', os'⟩ := s'
          obtain rfl : g0 = s.gens := hm.gens
          obtain rfl : d' = s.drawn := hm.drawn
          obtain rfl : os' = s.os := hm.os
          show wpAny _ _ _ _ _ _
          refine wpAny_pure ?_
          show wpAny _ _ (ret Value.none) _ _ _
          rw [hisz] at g'
          exact wpAny_pure ⟨rfl, h', tk', L, rfl, hS', g', hkp⟩
      · cases r₂ with
        | error e => exact hr₂
        | ok fl₂ =>
          cases fl₂ with
          | ret v =>
            obtain ⟨rfl, h', tk, L, rfl, g1, g2, g3⟩ := hr₂
            repeat (any_goals (first | assumption | wp_step))
            exact h h' tk L g1 g2 g3
          | next => exact hr₂.elim
          | brk => exact hr₂.elim
          | cont => exact hr₂.elim
    | next => exact hr.elim
    | brk => exact hr.elim
    | cont => exact hr.elim
end
end Cc

end

section
set_option Elab.async false
set_option linter.all false
set_option maxRecDepth 100000
set_option maxHeartbeats 8000000
namespace Cc
open PySem PySem.Spec L2 PySem.Calls
open PyProof.Rows hiding St
open PySem.W (EachIs AllAlike Sortable dataLe)
section
variable {P : Program} {w : World} {A : Around} {E : Value → Shared → Prop} {s : Shared} {κ : Type} [DecidableEq κ]
/-- set(xs): xs a tuple -/
theorem call_set_tuple {l : Addr} {items : Array Value} (ks : List (Value × κ)) {Sx : Heap → List (Value × κ) → Prop} {Q : Value → Shared → Prop} (hh : A.handled = none) (hl : s.heap.IsTuple l items) (hit : items.toList = ks.map (·.1))
    (K : SetKind P w A.in1.in1.in1 s.heap.objs.size s.heap ks Sx) (h00 : ∀ h, h.get? s.heap.objs.size = some (freshSet w) → Sx h [])
    (h : ∀ (h' : Heap) (tk : Nat) L, Sx h' L → GotK ks ks.length L → (∀ b o, s.heap.get? b = some o → h'.get? b = some o) → Q (.ref s.heap.objs.size) { s with heap := h', toks := tk }) :
    wpAny (model P w) A (call (.type "set") [.ref l]) Q E s := by
  have hisz : items.size = ks.length := by
    have q := congrArg List.length hit
    rw [Array.length_toList, List.length_map] at q
    exact q
  obtain ⟨c, tl, hmro⟩ := F.called_set.mro
  have hmade := F.called_set.made
  have hsub := F.called_set.sub
  refine wpAny_call (codeAny_of_tree ?_)
  show wpAny _ _ (callAny (.type "set") _) _ _ _
  refine wpAny_pure ⟨Code.quiet_builtin _ (by decide +kernel), codeAny_builtin F.entry_type_call ?_⟩
  rw [Around.under_plain (weight_type_call_type "set" [.ref l] []) rfl]
  have h1 := F.called_set.notType
  have h2 := F.called_set.canCreate
  have hct := F.typeCall_set_1 (.ref l)
  repeat (any_goals (first | assumption | wp_step))

  refine codeAny_mono (code_set_led1 (.ref l) (E := E) (Q₁ := fun obj s₁ => obj = .ref s.heap.objs.size ∧ s₁ = { s with heap := s.heap.push (freshSet w) }) ⟨rfl, rfl⟩) fun r s₁ hr => ?_
  cases r with
  | error e => exact hr
  | ok fl =>
    cases fl with
    | ret obj =>
      obtain ⟨rfl, rfl⟩ := hr
      have hS : (s.heap.push (freshSet w)).get? s.heap.objs.size = some (freshSet w) := Heap.get?_push_size _ rfl
      have hT : Shared.TypeIs { s with heap := s.heap.push (freshSet w) } (.ref s.heap.objs.size) "set" := ⟨_, hS, rfl⟩
      have hli := F.called_set.init.lookup
      have hbi := F.called_set.init.bind (.ref s.heap.objs.size)
      repeat (any_goals (first | assumption | wp_step))

      refine codeAny_mono (codeAny_call_builtin (R := wants (fun r s₂ => r = .none ∧ ∃ h' tk L, s₂ = { s with heap := h', toks := tk } ∧ Sx h' L ∧ GotK ks ks.length L ∧ (∀ b o, s.heap.get? b = some o → h'.get? b = some o)) E) F.called_set.init.plain F.entry_set_init (check_set_init_1 hT ?_)) fun r₂ s₂ hr₂ => ?_
      · obtain ⟨ol, hol, hcl, nl, hdl⟩ := hl
        obtain ⟨ocls, odict, odata, oslots⟩ := ol
        simp only at hcl hdl
        subst hcl; subst hdl
        have hol' : (s.heap.push (freshSet w)).get? l = some { cls := .type "tuple", dict := odict, data := .seq items nl, slots := oslots } := Heap.get?_push_of_some _ hol
        have hsls := PySem.F.sub_tuple_set
        have hslf := PySem.F.sub_tuple_frozenset
        have hne : (Value.type "tuple" == Value.type "dict") = false := by decide
        have hl1 : (s.heap.push (freshSet w)).IsTuple l items := ⟨_, hol', rfl, nl, rfl⟩
        unfold Builtin.«set.__init__» noKeywords Builtin.Frozenset.updateFrom
        generalize hPI : pyIter = PI
        wp_walk
        subst hPI

        refine wpAny_pyIter_tuple hl1 ?_
        refine wpAny_bind (wpAny_runValue ?_)
        have hlS : l < s.heap.objs.size := Heap.lt_size hol
        have hh3 : A.in1.in1.in1.handled = none := by simp [hh]
        have hneI : l ≠ (s.heap.push (freshSet w)).objs.size := by
          rw [Heap.size_push]; exact Nat.ne_of_lt (Nat.lt_succ_of_lt hlS)
        have hSf : s.heap.objs.size ∉ [(s.heap.push (freshSet w)).objs.size, l] := by
          rw [Heap.size_push]; simp only [List.mem_cons, List.mem_singleton, List.not_mem_nil, or_false, not_or]
          exact ⟨Nat.ne_of_lt (Nat.lt_succ_self _), Nat.ne_of_gt hlS⟩
        have hval : ∀ (i : Nat) (v : Value), items[i]? = some v → ∃ p, ks[i]? = some p ∧ v = p.1 := fun i v hv => by
          have q : items.toList[i]? = some v := by rw [Array.getElem?_toList]; exact hv
          rw [hit, List.getElem?_map] at q
          cases hq : ks[i]? with
          | none => rw [hq] at q; cases q
          | some p => rw [hq] at q; exact ⟨p, rfl, (Option.some.inj q).symm⟩
        refine set_loop ((Walks.tuple hh3 _ l hneI items).toS) s.heap.objs.size hSf ks hisz hval s.heap K (none_of (Nat.le_refl _))
          (fun b hb => none_of (by rw [List.mem_singleton.mp hb, Heap.size_push]; exact Nat.le_succ _)) (items.size - 0) 0 _ (by omega) (Nat.zero_le _)
          ⟨⟨_, Heap.get?_push_size _ rfl, rfl, rfl⟩, (hl1.push _)⟩ (fun b o e => Heap.get?_push_of_some _ (Heap.get?_push_of_some _ e)) ⟨[], h00 _ (Heap.get?_push_of_some _ hS), GotK.zero⟩ ?hR
        case hR =>
          intro s' L hm hS' g' hkp
          obtain ⟨h', g0, d', tk', os'⟩ := s'
          obtain rfl : g0 = s.gens := hm.gens
          obtain rfl : d' = s.drawn := hm.drawn
          obtain rfl : os' = s.os := hm.os
          show wpAny _ _ _ _ _ _
          refine wpAny_pure ?_
          show wpAny _ _ (ret Value.none) _ _ _
          rw [hisz] at g'
          exact wpAny_pure ⟨rfl, h', tk', L, rfl, hS', g', hkp⟩
      · cases r₂ with
        | error e => exact hr₂
        | ok fl₂ =>
          cases fl₂ with
          | ret v =>
            obtain ⟨rfl, h', tk, L, rfl, g1, g2, g3⟩ := hr₂
            repeat (any_goals (first | assumption | wp_step))
            exact h h' tk L g1 g2 g3
          | next => exact hr₂.elim
          | brk => exact hr₂.elim
          | cont => exact hr₂.elim
    | next => exact hr.elim
    | brk => exact hr.elim
    | cont => exact hr.elim
end
end Cc

end

section
set_option Elab.async false
set_option linter.all false
set_option maxRecDepth 100000
set_option maxHeartbeats 8000000
namespace Cc
open PySem PySem.Spec L2 PySem.Calls
open PyProof.Rows hiding St
open PySem.W (EachIs AllAlike Sortable dataLe)

/-! ### sets of ints and texts, found by scanning -/
/-- the set at S has the members L, in its table's order -/
def SetS (P : Program) (w : World) (h : Heap) (S : Addr) (L : List (Value × Key)) : Prop :=
  ∃ o es ep t, h.get? S = some o ∧ o.ExactSet ∧ o.data = .set es ep t ∧ ElemsOf (mixKind P w) es.toList ∧ es.toList.map (·.2) = L.map (·.1) ∧ (∀ p ∈ L, keyIs p.2 p.1 = true) ∧ es.size < scanBound ∧ t.fits es.size = true ∧
    Ris t.place.toList ∧ (w.params.followText "set-order" = true ∨ t.led = true)
section
variable {P : Program} {w : World} {A : Around} {E : Value → Shared → Prop} {s : Shared} {a : Addr} {L : List (Value × Key)}
theorem SetS.at {h h' : Heap} (x : SetS P w h a L) (k : ∀ o, h.get? a = some o → h'.get? a = some o) : SetS P w h' a L := by
  obtain ⟨o, es, ep, t, ho, r⟩ := x
  exact ⟨o, es, ep, t, k o ho, r⟩
theorem setS_fresh {h : Heap} (e : h.get? a = some (freshSet w)) : SetS P w h a [] :=
  ⟨_, #[], 0, _, e, ⟨rfl, rfl, rfl⟩, rfl, (fun e h => nomatch h), rfl, (fun p h => nomatch h), by show 0 < scanBound; decide, rfl, List.Pairwise.nil, by cases q : w.params.followText "set-order" with | true => exact .inl rfl | false => exact .inr (by simp [q, SetTable.fresh])⟩
theorem setS_tail {g : Bool → Sem Unit} (hg : ∀ (b : Bool) (s₁ : Shared) (Q' : Unit → Shared → Prop), Q' () s₁ → wpAny (model P w) A (g b) Q' E s₁)
    {o : Obj} {es : Array (Int × Value)} {ep : Nat} {t : SetTable} (ho : s.heap.get? a = some o) (hex : o.ExactSet) (hd : o.data = .set es ep t)
    {es1 : Array (Int × Value)} {t2 : SetTable} {L1 : List (Value × Key)} (g1 : ElemsOf (mixKind P w) es1.toList) (m1 : (es1.toList.map (·.2)).Perm (L1.map (·.1))) (k1 : ∀ p ∈ L1, keyIs p.2 p.1 = true)
    (hb1 : es1.size < scanBound) (hf2 : t2.fits es1.size = true) (hr : Ris t2.place.toList) (hl : w.params.followText "set-order" = true ∨ t2.led = true) {wasDummy : Bool} {R : Option Bool → Shared → Prop}
    (hR : ∀ h' L', Heap.SameBut a s.heap h' → L'.Perm L1 → SetS P w h' a L' → R (some true) { s with heap := h' }) :
    wpAny (model P w) A (do
        storeSet a es1 t2
        if (!wasDummy && t2.tooFull) = true then do
            g (relayAll t2 es1 (SetTable.grown es1.size)).2.2
            storeSet a (relayAll t2 es1 (SetTable.grown es1.size)).1 (relayAll t2 es1 (SetTable.grown es1.size)).2.1
            pure (some true)
          else pure (some true)) R E s := by
  have lay : ∀ (es2 : Array (Int × Value)), (es2.toList.map (·.2)).Perm (L1.map (·.1)) → ∃ L' : List (Value × Key), L'.Perm L1 ∧ es2.toList.map (·.2) = L'.map (·.1) := fun es2 pm => by
    have : ∀ {vs : List Value} {ws : List Value}, vs.Perm ws → ∀ {L : List (Value × Key)}, ws = L.map (·.1) → ∃ L' : List (Value × Key), L'.Perm L ∧ vs = L'.map (·.1) := by
      intro vs ws p
      induction p with
      | nil => intro L e; exact ⟨L, .refl _, e⟩
      | cons x p ih =>
        intro L e
        cases L with
        | nil => simp at e
        | cons y L =>
          simp only [List.map_cons, List.cons.injEq] at e
          obtain ⟨L', q1, q2⟩ := ih e.2
          exact ⟨y :: L', q1.cons y, by rw [e.1, q2]; rfl⟩
      | swap x y l =>
        intro L e
        match L, e with
        | [], e => simp at e
        | [_], e => simp at e
        | b :: c :: L, e =>
          simp only [List.map_cons, List.cons.injEq] at e
          exact ⟨c :: b :: L, .swap b c L, by rw [e.1, e.2.1, e.2.2]; rfl⟩
      | trans p q ih1 ih2 =>
        intro L e
        obtain ⟨L1, a1, a2⟩ := ih2 e
        obtain ⟨L2, b1, b2⟩ := ih1 a2
        exact ⟨L2, b1.trans a1, b2⟩
    exact this pm rfl
  refine wpAny_bind (wpAny_storeSet_of ho hd ?_ (fits_of_scanBound hb1))
  have ho1 := store_at (es' := es1) (t' := t2) ho hd
  have sb1 := Heap.SameBut.update s.heap a (Obj.putSet es1 t2)
  split
  · have pm := relayAll_perm t2 es1 (SetTable.grown es1.size)
    have hf3 := relayAll_fits t2 es1 (SetTable.grown es1.size)
    have hr3 := relayAll_ris t2 es1 (SetTable.grown es1.size)
    have hl3 := relayAll_led t2 es1 (SetTable.grown es1.size)
    generalize relayAll t2 es1 (SetTable.grown es1.size) = Z at pm hf3 hr3 hl3 ⊢
    obtain ⟨es2, t3, gave⟩ := Z
    dsimp only at pm hf3 hr3 hl3 ⊢
    have hsz : es2.size = es1.size := by rw [← Array.length_toList, pm.length_eq, Array.length_toList]
    have hb2 : es2.size < scanBound := by rw [hsz]; exact hb1
    obtain ⟨L', p1, p2⟩ := lay es2 ((pm.map (·.2)).trans m1)
    refine wpAny_bind (hg _ _ _ ?_)
    refine wpAny_bind (wpAny_storeSet_of ho1 rfl ?_ (fits_of_scanBound hb2))
    have ho2 := store_at (es' := es2) (t' := t3) ho1 rfl
    exact wpAny_pure (hR _ L' (sb1.trans (Heap.SameBut.update _ a _)) p1 ⟨_, es2, _, t3, ho2, hex, rfl, fun e he => g1 e (pm.mem_iff.mp he), p2, fun p hp => k1 p (p1.mem_iff.mp hp), hb2, hf3, hr3, hl.imp id fun z => by rw [hl3]; exact z⟩)
  · obtain ⟨L', p1, p2⟩ := lay es1 m1
    exact wpAny_pure (hR _ L' sb1 p1 ⟨_, es1, _, t2, ho1, hex, rfl, g1, p2, fun p hp => k1 p (p1.mem_iff.mp hp), hb1, hf2, hr, hl⟩)
theorem setS_add {v : Value} {k : Key} {Q : Bool → Shared → Prop} (R : SetS P w s.heap a L) (hk : keyIs k v = true) (room : L.length + 1 < scanBound)
    (hQ : ∀ b h' L', Heap.SameBut a s.heap h' → SetS P w h' a L' → (k ∈ L.map (·.2) → L' = L) → (k ∉ L.map (·.2) → L'.Perm ((v, k) :: L)) → Q b { s with heap := h' }) :
    wpAny (model P w) A (setAddHashed a v ((mixKind P w).hash k)) Q E s := by
  obtain ⟨o, es, ep, t, ho, hex, hd, hel, hm, hkeys, hb, hf, hr, hl⟩ := id R
  have hkey : (mixKind P w).is k v = true := hk
  have hsc : v.scannable = true := by
    rcases keyIs_shape hk with ⟨i, t, _, rfl⟩ | ⟨x, t, _, rfl⟩ <;> rfl
  have key_of_entry : ∀ e ∈ es.toList, ∃ p ∈ L, p.1 = e.2 ∧ keyIs p.2 e.2 = true := fun e he => by
    have : e.2 ∈ L.map (·.1) := by rw [← hm]; exact List.mem_map.mpr ⟨e, he, rfl⟩
    obtain ⟨p, hp, q⟩ := List.mem_map.mp this
    exact ⟨p, hp, q, by rw [← q]; exact hkeys p hp⟩
  have isInj : ∀ {x y : Key} {u : Value}, keyIs x u = true → keyIs y u = true → x = y := fun {x y u} h1 h2 => (mixKind P w).inj _ _ _ h1 h2
  unfold setAddHashed setAddHashedIn
  refine wpAny_holding (wpAny_bind (wpAny_setState_of ho hd hf ?_))
  dsimp only
  rw [byScan_of hsc hb hel]
  simp only [↓reduceIte]
  unfold setAddByScan
  refine wpAny_bind ?_
  refine wpAny_bind (wpAny_rule ?_)
  refine wpAny_bind (wpAny_setScan_of hkey ho hd hf hel ?_)
  cases hfi : List.findIdx? (fun e => (mixKind P w).is k e.2) es.toList with
  | some j =>
    dsimp only
    obtain ⟨hj, pj, _⟩ := List.findIdx?_eq_some_iff_getElem.mp hfi
    obtain ⟨p, hp, e1, e2⟩ := key_of_entry es.toList[j] (List.getElem_mem hj)
    have hin : k ∈ L.map (·.2) := List.mem_map.mpr ⟨p, hp, isInj e2 pj⟩
    exact wpAny_pure (wpAny_pure (hQ false s.heap L (Heap.SameBut.refl a s.heap) R (fun _ => rfl) fun z => absurd hin z))
  | none =>
    dsimp only
    have hnk : k ∉ L.map (·.2) := fun z => by
      obtain ⟨p, hp, rfl⟩ := List.mem_map.mp z
      have : p.1 ∈ es.toList.map (·.2) := by rw [hm]; exact List.mem_map.mpr ⟨p, hp, rfl⟩
      obtain ⟨e, he, q⟩ := List.mem_map.mp this
      have c := List.findIdx?_eq_none_iff.mp hfi e he
      have c2 : (mixKind P w).is p.2 e.2 = true := by rw [q]; exact hkeys p hp
      rw [c2] at c
      cases c
    have hgw : ∀ (b : Bool) {s₁ : Shared} {Q' : Unit → Shared → Prop}, Q' () s₁ → wpAny (model P w) A (match b with | true => rule "set.scan.the-table-gave-way" | false => pure ()) Q' E s₁ :=
      fun b s₁ Q' q => by cases b <;> first | exact wpAny_pure q | exact wpAny_rule q
    have pm := layNew_perm t es ((mixKind P w).hash k) v
    have hf1 := layNew_fits t es ((mixKind P w).hash k) v
    have hr1 := layNew_ris t es ((mixKind P w).hash k) v hr
    have hl1 := layNew_led t es ((mixKind P w).hash k) v
    generalize layNew t es ((mixKind P w).hash k) v = Z at pm hf1 hr1 hl1 ⊢
    obtain ⟨es1, t1, wasDummy, gave⟩ := Z
    dsimp only at pm hf1 hr1 hl1 ⊢
    rw [Array.toList_push] at pm
    have pc : es1.toList.Perm (((mixKind P w).hash k, v) :: es.toList) := pm.trans (List.perm_append_singleton _ _)
    have g1 : ElemsOf (mixKind P w) es1.toList := fun e he => by
      rcases List.mem_cons.mp (pc.mem_iff.mp he) with z | z
      · rw [z]; exact ⟨⟨k, hkey, rfl⟩, hsc⟩
      · exact hel e z
    have m1 : (es1.toList.map (·.2)).Perm (((v, k) :: L).map (·.1)) := by
      have := pc.map (·.2)
      rw [List.map_cons, hm] at this
      exact this
    have kk : ∀ p ∈ (v, k) :: L, keyIs p.2 p.1 = true := fun p hp => by
      rcases List.mem_cons.mp hp with rfl | hp
      · exact hk
      · exact hkeys p hp
    have hsz : es1.size = L.length + 1 := by
      have h1 := pc.length_eq
      have h2 := congrArg List.length hm
      rw [List.length_map, List.length_map] at h2
      rw [List.length_cons, h2, Array.length_toList] at h1
      exact h1
    have hb1 : es1.size < scanBound := by rw [hsz]; exact room
    have hled : w.params.followText "set-order" = true ∨ t1.led = true := hl.imp id fun z => by rw [hl1]; exact z
    have fin : ∀ h' L', Heap.SameBut a s.heap h' → L'.Perm ((v, k) :: L) → SetS P w h' a L' → Q true { s with heap := h' } := fun h' L' sb p r => hQ true h' L' sb r (fun z => absurd z hnk) fun _ => p
    refine wpAny_bind (hgw _ ?_)
    split
    · refine wpAny_bind ?_
      rw [hashByValue_scannable 8 hsc]
      refine wpAny_pure ?_
      refine setS_tail ?_ ho hex hd g1 m1 kk hb1 ?_ ?_ ?_ ?_
      · intro b s₁ Q' q; cases b <;> first | exact wpAny_pure q | exact wpAny_rule q
      · first | (split <;> first | exact hf1 | exact SetTable.fits_plain_off hf1) | exact hf1
      · first | (split <;> exact hr1) | exact hr1
      · first | (split <;> exact hled) | exact hled
      · intro h' L' sb p r; dsimp only; exact wpAny_pure (fin h' L' sb p r)
    · refine wpAny_bind (wpAny_pure ?_)
      simp only [↓reduceIte]
      refine setS_tail ?_ ho hex hd g1 m1 kk hb1 hf1 hr1 hled ?_
      · intro b s₁ Q' q; cases b <;> first | exact wpAny_pure q | exact wpAny_rule q
      · intro h' L' sb p r; dsimp only; exact wpAny_pure (fin h' L' sb p r)
/-- the kind -/
theorem kindS {S : Addr} {h0 : Heap} {ks : List (Value × Key)} (hk : ∀ p ∈ ks, keyIs p.2 p.1 = true) (hB : ∀ L : List (Value × Key), (∀ q ∈ L, q ∈ ks) → (L.map (·.2)).Nodup → L.length + 1 < scanBound) :
    SetKind P w A S h0 ks (fun h L => SetS P w h S L) where
  keep := fun h h' L x _ hS _ => x.at hS
  add := fun s L p E Q hp x hsub hnd _ hQ => by
    unfold setAdd
    refine wpAny_holding ?_
    refine wpAny_bind ((mixKind P w).pyHash (hk p hp) ?_)
    exact setS_add (s := { s with toks := s.toks + 1 }) x (hk p hp) (hB L hsub hnd) fun b h' L' sb r c1 c2 => hQ b h' L' _ sb r c1 c2 (Nat.le_succ _)
end
end Cc

end

section
set_option Elab.async false
set_option linter.all false
set_option maxRecDepth 100000
set_option maxHeartbeats 8000000
namespace Cc
open PySem PySem.Spec L2 PySem.Calls
open PyProof.Rows hiding St
open PySem.W (EachIs AllAlike Sortable dataLe)

theorem perm_lift {α β : Type} {f : α → β} {vs ws : List β} (p : vs.Perm ws) : ∀ {L : List α}, ws = L.map f → ∃ L' : List α, L'.Perm L ∧ vs = L'.map f := by
  induction p with
  | nil => intro L e; exact ⟨L, .refl _, e⟩
  | cons x p ih =>
    intro L e
    cases L with
    | nil => simp at e
    | cons y L =>
      simp only [List.map_cons, List.cons.injEq] at e
      obtain ⟨L', q1, q2⟩ := ih e.2
      exact ⟨y :: L', q1.cons y, by rw [e.1, q2]; rfl⟩
  | swap x y l =>
    intro L e
    match L, e with
    | [], e => simp at e
    | [_], e => simp at e
    | b :: c :: L, e =>
      simp only [List.map_cons, List.cons.injEq] at e
      exact ⟨c :: b :: L, .swap b c L, by rw [e.1, e.2.1, e.2.2]; rfl⟩
  | trans p q ih1 ih2 =>
    intro L e
    obtain ⟨L1, a1, a2⟩ := ih2 e
    obtain ⟨L2, b1, b2⟩ := ih1 a2
    exact ⟨L2, b1.trans a1, b2⟩
/-- data in Python's order -/
def srtD (ds : List PyData) : List PyData := ds.mergeSort (dataLe false id)
theorem srtD_map {β : Type} (enc : β → PyData) (L : List β) : (L.mergeSort (dataLe false enc)).map enc = srtD (L.map enc) := by
  unfold srtD
  exact List.map_mergeSort (f := enc) (r := dataLe false enc) (s := dataLe false id) (fun a _ b _ => rfl)
section
variable {X : Cx} {pins : List (Addr × Obj)} {σ : L2.St} {H : Hp} {s : Shared} {Q : VK} {β : Type} {enc : β → PyData} {vV : β → V} {val : β → Value} {a : Addr} {es : Array (Int × Value)} {ep : Nat} {t : SetTable} {L : List β}
theorem each_of {R : Value → β → Prop} : ∀ {L : List β}, (∀ b ∈ L, R (val b) b) → EachIs R (L.map val) L
  | [], _ => .nil
  | b :: L, h => .cons (h b List.mem_cons_self) (each_of fun c hc => h c (List.mem_cons_of_mem _ hc))
theorem dqAll_of {H : Hp} : ∀ {L : List β}, (∀ b ∈ L, Dq H (vV b) (enc b)) → DqAll H (L.map vV) (L.map enc)
  | [], _ => .nil
  | b :: L, h => .cons (h b List.mem_cons_self) (dqAll_of fun c hc => h c (List.mem_cons_of_mem _ hc))
theorem sorted_set_any (I : Inv X pins σ H s) (hc : X.calm = true) (ha : ∃ o, s.heap.get? a = some o ∧ o.ExactSet ∧ o.data = .set es ep t) (hf : t.fits es.size = true) (hsz : es.size < scanBound) (r : Ris t.place.toList)
    (hl : X.w.params.followText "set-order" = true ∨ t.led = true) (hm : es.toList.map (·.2) = L.map val) (he : ∀ b ∈ L, RelV (vV b) (val b) ∧ Dq H (vV b) (enc b)) (hal : AllAlike (L.map enc)) (hk : Sortable (L.map enc))
    (hu : ∀ b ∈ L, X.A.units + 2 + (enc b).depth < cLine) (q : ∀ ds p H', ds.Perm (L.map enc) → Same H H' → Ls H' p (srtD ds) → Q (.ref p) H') :
    wpAny (model X.prog X.w) X.A (call (.builtin "sorted") [.ref a]) (EP X pins σ Q) X.xe s := by
  obtain ⟨o, ho, hex, hd⟩ := ha
  refine Calls.call_function_entry kind_sorted plain_sorted entry_sorted (args_sorted1 _) ?_
  unfold Builtin.«sorted»
  refine wpAny_bind (m := checkCount "sorted" 1 1 _) (wpAny_pure ?_)
  refine wpAny_bind (collect_set (A := X.A.in1) (I.ok.hd hc) ⟨o, ho, hex.1, hd⟩ hf hsz r hl fun s1 vs k1 hz g1 o1 pm => ?_)
  rw [hm] at pm
  obtain ⟨L', p1, rfl⟩ := perm_lift pm rfl
  have I1 : Inv X pins σ H s1 := I.call' (ch := []) o1 (Un.kept k1) (I.hok.kept k1) (by rw [g1]; exact I.bare) (fun _ z => nomatch z)
  have mem : ∀ {b}, b ∈ L' → b ∈ L := fun h => p1.mem_iff.mp h
  have hsz2 : L'.length = es.size := by
    have h1 := congrArg List.length hm
    simp only [List.length_map, Array.length_toList] at h1
    rw [p1.length_eq]; omega
  refine sort_tail (vV := vV) (enc := enc) I1 (each_of fun b hb => ⟨(he b (mem hb)).1, [], (he b (mem hb)).2.reads I1.hok _ _ _ (he b (mem hb)).1, by simp⟩) (fun d hd d' hd' => ?_) ?_ (by rw [hsz2]; exact Nat.le_trans (Nat.le_of_lt hsz) (by unfold scanBound; rw [sizeLine_eq]; decide)) (fun b hb => hu b (mem hb)) fun p hp => ?_
  · obtain ⟨b, hb, rfl⟩ := List.mem_map.mp hd
    obtain ⟨c, hc, rfl⟩ := List.mem_map.mp hd'
    exact hal _ (List.mem_map.mpr ⟨b, mem hb, rfl⟩) _ (List.mem_map.mpr ⟨c, mem hc, rfl⟩)
  · have tr : ∀ d, d ∈ L'.map enc → d ∈ L.map enc := fun d hd => by
      obtain ⟨b, hb, rfl⟩ := List.mem_map.mp hd
      exact List.mem_map.mpr ⟨b, mem hb, rfl⟩
    rcases hk with hk | hk
    · exact .inl fun d hd => hk d (tr d hd)
    · exact .inr fun d hd => hk d (tr d hd)
  · refine q (L'.map enc) p _ (p1.map enc) (Same.new hp) ?_
    refine ⟨_, upd_same, ?_⟩
    rw [← srtD_map]
    exact (dqAll_of fun b hb => (he b (mem (List.mem_mergeSort.mp hb))).2).mono (Tk.new hp)
end

/-! ### sets of ints and texts -/
def SetSO (P : Program) (w : World) (a : Addr) (L : List Key) : HO := .ext fun h => ∃ Lv, SetS P w h a Lv ∧ Lv.map (·.2) = L
theorem setSO_new {P : Program} {w : World} {H : Hp} {h : Heap} {a : Addr} {L : List Key} (R : ∃ Lv, SetS P w h a Lv ∧ Lv.map (·.2) = L) : ObjOk P w H h a (SetSO P w a L) := by
  refine ⟨R, ?_, fun h1 h2 x1 k => ?_⟩
  · obtain ⟨Lv, ⟨o, es, ep, t, e, _⟩, _⟩ := R
    exact ⟨o, e⟩
  · obtain ⟨Lv, h1, h2⟩ := x1
    exact ⟨Lv, h1.at k, h2⟩
theorem keys_zip (P : Program) (w : World) {ks : List Key} : ∀ {us : List Value}, Vals (ks.map kV) us → ∃ Lv : List (Value × Key), us = Lv.map (·.1) ∧ Lv.map (·.2) = ks ∧ ∀ p ∈ Lv, keyIs p.2 p.1 = true := by
  induction ks with
  | nil => intro us r; cases r; exact ⟨[], rfl, rfl, fun p h => nomatch h⟩
  | cons k ks ih =>
    intro us r
    cases r with
    | cons r1 r2 =>
      obtain ⟨Lv, e1, e2, e3⟩ := ih r2
      refine ⟨(_, k) :: Lv, by rw [List.map_cons, e1], by rw [List.map_cons, e2], fun p hp => ?_⟩
      rcases List.mem_cons.mp hp with rfl | hp
      · exact kV_is (P := P) (w := w) r1
      · exact e3 p hp
def rSetOfS (K : PySem.W.Frag) (P : Program) (w : World) : List V → Hp → VK → Prop := fun xs H Q => ∃ (l : Addr) (ks : List Key), xs = [V.ref l] ∧ (SqL K H l (ks.map kV) ∨ SqT K H l (ks.map kV)) ∧
  (∀ L : List Key, L.Nodup → (∀ k ∈ L, k ∈ ks) → L.length + 1 < scanBound) ∧
  ∀ a L, H a = none → L.Nodup → (∀ k ∈ L, k ∈ ks) → (∀ k ∈ ks, k ∈ L) → Q (.ref a) (upd H a (SetSO P w a L))
theorem cr_setOfS {X : Cx} (hc : X.calm = true) : CallR X (.type "set") (rSetOfS X.K X.prog X.w) := by
  intro pins s σ H xs us Q I r h
  obtain ⟨l, ks, rfl, hl, hB, q⟩ := h
  rw [Vals.ref1 r]
  have hn : H s.heap.objs.size = none := I.hok.fresh (Nat.le_refl _)
  have main : ∀ (its : List Value), Vals (ks.map kV) its → ∃ Lv : List (Value × Key), its = Lv.map (·.1) ∧ Lv.map (·.2) = ks ∧ SetKind X.prog X.w X.A.in1.in1.in1 s.heap.objs.size s.heap Lv (fun h L => SetS X.prog X.w h s.heap.objs.size L) ∧
      ∀ (h' : Heap) (tk : Nat) L, SetS X.prog X.w h' s.heap.objs.size L → GotK Lv Lv.length L → (∀ b o, s.heap.get? b = some o → h'.get? b = some o) → EP X pins σ Q (.ref s.heap.objs.size) { s with heap := h', toks := tk } := by
    intro its rv
    obtain ⟨Lv, e1, e2, e3⟩ := keys_zip X.prog X.w rv
    refine ⟨Lv, e1, e2, kindS e3 fun L hs hnd => ?_, fun h' tk L R g k => ?_⟩
    · have := hB (L.map (·.2)) hnd fun k hk => by
        obtain ⟨p, hp, rfl⟩ := List.mem_map.mp hk
        rw [← e2]
        exact List.mem_map.mpr ⟨p, hs p hp, rfl⟩
      rwa [List.length_map] at this
    · refine ⟨.ref s.heap.objs.size, upd H s.heap.objs.size (SetSO X.prog X.w s.heap.objs.size (L.map (·.2))), I.laid (t' := tk) k (Nat.le_refl _) (setSO_new ⟨L, R, rfl⟩), rfl, q _ _ hn g.nd (fun k hk => ?_) fun k hk => ?_⟩
      · obtain ⟨p, hp, rfl⟩ := List.mem_map.mp hk
        rw [← e2]
        exact List.mem_map.mpr ⟨p, List.mem_of_mem_take (g.sub p hp), rfl⟩
      · rw [← e2] at hk
        obtain ⟨p, hp, rfl⟩ := List.mem_map.mp hk
        exact g.all p (by rw [List.take_length]; exact hp)
  rcases hl with hl | hl
  · obtain ⟨its, rv, pl, hz⟩ := I.list hl
    obtain ⟨Lv, e1, e2, K, fin⟩ := main its rv
    exact call_set_list (P := X.prog) (w := X.w) Lv (I.ok.hd hc) pl.isList (by simpa using e1) K (fun h e => setS_fresh e) fin
  · obtain ⟨its, rv, pl, hz⟩ := I.tuple hl
    obtain ⟨Lv, e1, e2, K, fin⟩ := main its rv
    exact call_set_tuple (P := X.prog) (w := X.w) Lv (I.ok.hd hc) (show s.heap.IsTuple l its.toArray from pl) (by simpa using e1) K (fun h e => setS_fresh e) fin
theorem cr_lenS {X : Cx} : CallR X (.builtin "len") (fun xs H Q => ∃ a L, xs = [.ref a] ∧ H a = some (SetSO X.prog X.w a L) ∧ Q (.int (L.length : Int)) H) := by
  intro pins s σ H xs us Q I r q
  obtain ⟨a, L, rfl, hd, q⟩ := q
  rw [Vals.ref1 r]
  obtain ⟨Lv, ⟨o, es, ep, t, ho, hex, hdt, _, hm, _, hsz, hf, _⟩, e⟩ := (I.hok a _ hd).1
  have hl : es.size = L.length := by
    have h1 := congrArg List.length hm
    simp only [List.length_map, Array.length_toList] at h1
    rw [← e, List.length_map]; exact h1
  refine call_len_set ho hex hdt hf (by unfold scanBound at hsz; omega) ⟨.int L.length, H, I.tok _, ⟨_, by rw [hl]⟩, q⟩
def rSortedS (P : Program) (w : World) : List V → Hp → VK → Prop := fun vs H Q => ∃ (a : Addr) (L : List Key), vs = [V.ref a] ∧ H a = some (SetSO P w a L) ∧ AllAlike (L.map fun k => dV (kV k)) ∧
  ∀ ds p H', ds.Perm (L.map fun k => dV (kV k)) → Same H H' → Ls H' p (srtD ds) → Q (.ref p) H'
theorem cr_sortedS {X : Cx} (hu : X.A.units + 64 < cLine) (hc : X.calm = true) : CallR X (.builtin "sorted") (rSortedS X.prog X.w) := by
  intro pins s σ H vs us Q I r h
  obtain ⟨a, L, rfl, ha, hal, q⟩ := h
  rw [Vals.ref1 r]
  obtain ⟨Lv, ⟨o, es, ep, t, ho, hex, hdt, _, hm, hkeys, hsz, hf, hr, hl⟩, rfl⟩ := (I.hok a _ ha).1
  have em : (Lv.map fun p => dV (kV p.2)) = (Lv.map (·.2)).map fun k => dV (kV k) := by rw [List.map_map]; rfl
  refine sorted_set_any (vV := fun p : Value × Key => kV p.2) (enc := fun p => dV (kV p.2)) (val := (·.1)) I hc ⟨o, ho, hex, hdt⟩ hf hsz hr hl hm (fun p hp => ⟨relV_key (hkeys p hp), Dq.flat (by cases p.2 <;> rfl)⟩) (by rw [em]; exact hal) (.inr fun d hd => ?_) (fun p hp => ?_) (by rw [em]; exact q)
  · obtain ⟨p, hp, rfl⟩ := List.mem_map.mp hd
    cases hz : p.2 <;> simp only [hz, kV, dV] <;> exact ⟨(fun z => nomatch z), (fun xs z => nomatch z)⟩
  · have : (dV (kV p.2)).depth = 0 := by cases p.2 <;> rfl
    omega

/-! ### sets of tuples of ints -/
theorem kindT {P : Program} {w : World} {A : Around} {S : Addr} {h0 : Heap} {ks : List (Addr × List Int)} (hk : ∀ p ∈ ks, IsT P w h0 p.2 p.1) (hu : A.units < cLine) (hB : ∀ L : List (List Int), L.Nodup → (∀ q ∈ L, q ∈ ks.map (·.2)) → L.length + 1 < 64) :
    SetKind P w A S h0 (ks.map fun p => (Value.ref p.1, p.2)) (fun h L => ∃ L0 es ep t, L = L0.map (fun p : Addr × List Int => (Value.ref p.1, p.2)) ∧ SetTR P w h S L0 es ep t) where
  keep := fun h h' L x hsub hS hkp => by
    obtain ⟨L0, es, ep, t, rfl, R⟩ := x
    refine ⟨L0, es, ep, t, rfl, R.keep hS fun p hp => ?_⟩
    obtain ⟨q, hq, e⟩ := List.mem_map.mp (hsub _ (List.mem_map.mpr ⟨p, hp, rfl⟩))
    simp only [Prod.mk.injEq, Value.ref.injEq] at e
    have : q = p := Prod.ext e.1 e.2
    subst this
    exact isT_keep (hk q hq) hkp
  add := fun s L p E Q hp x hsub hnd hkp hQ => by
    obtain ⟨L0, es, ep, t, rfl, R⟩ := x
    obtain ⟨q, hq, rfl⟩ := List.mem_map.mp hp
    have hx : IsT P w s.heap q.2 q.1 := isT_keep (hk q hq) hkp
    have e2 : (L0.map fun p : Addr × List Int => ((Value.ref p.1, p.2) : Value × List Int)).map (·.2) = L0.map (·.2) := by rw [List.map_map]; rfl
    rw [e2] at hnd hQ
    have hlen := hB _ hnd fun k hk' => by
      obtain ⟨p, hp', rfl⟩ := List.mem_map.mp hk'
      obtain ⟨q2, hq2, e⟩ := List.mem_map.mp (hsub _ (List.mem_map.mpr ⟨p, hp', rfl⟩))
      simp only [Prod.mk.injEq] at e
      exact List.mem_map.mpr ⟨q2, hq2, e.2⟩
    rw [List.length_map] at hlen
    unfold setAdd
    refine wpAny_holding ?_
    refine wpAny_bind (wpAny_pyHash_tuple hu hx ?_)
    refine add_at (s := { s with toks := s.toks + (q.2.length + 1) }) R hx hu hlen fun b h' L' es' ep' t' hsb hS2 c1 c2 => ?_
    exact hQ b h' _ _ hsb ⟨L', es', ep', t', rfl, hS2⟩ (fun z => by rw [c1 z]) (fun z => (c2 z).map fun p : Addr × List Int => ((Value.ref p.1, p.2) : Value × List Int)) (Nat.le_add_right _ _)
def rSetOfI (K : PySem.W.Frag) (P : Program) (w : World) : List V → Hp → VK → Prop := fun xs H Q => ∃ (l : Addr) (ks : List (Addr × List Int)), xs = [V.ref l] ∧ SqL K H l (ks.map fun p => V.ref p.1) ∧ (∀ p ∈ ks, SqT K H p.1 (p.2.map V.int)) ∧
  (∀ L : List (List Int), L.Nodup → (∀ q ∈ L, q ∈ ks.map (·.2)) → L.length + 1 < 64) ∧
  ∀ a L, H a = none → (L.map (·.2)).Nodup → (∀ p ∈ L, p ∈ ks) → (∀ p ∈ ks, p.2 ∈ L.map (·.2)) → Q (.ref a) (upd H a (SetTO P w a L))
theorem cr_setOfI {X : Cx} (hc : X.calm = true) (hu : X.A.units + 64 < cLine) : CallR X (.type "set") (rSetOfI X.K X.prog X.w) := by
  intro pins s σ H xs us Q I r h
  obtain ⟨l, ks, rfl, hl, hk, hB, q⟩ := h
  rw [Vals.ref1 r]
  obtain ⟨its, rv, pl, hz⟩ := I.list hl
  have hn : H s.heap.objs.size = none := I.hok.fresh (Nat.le_refl _)
  refine call_set_list (P := X.prog) (w := X.w) (ks.map fun p => (Value.ref p.1, p.2)) (I.ok.hd hc) pl.isList (by rw [List.map_map, List.toList_toArray]; exact refs_of_vals rv) (kindT (fun p hp => I.isT (hk p hp)) (by show X.A.units + 1 + 1 + 1 < _; omega) hB) (fun h e => ⟨[], _, _, _, rfl, setTR_fresh e⟩) fun h' tk L R g k => ?_
  obtain ⟨L0, es, ep, t, rfl, R⟩ := R
  refine ⟨.ref s.heap.objs.size, upd H s.heap.objs.size (SetTO X.prog X.w s.heap.objs.size L0), I.laid (t' := tk) k (Nat.le_refl _) (setTO_new R.t0), rfl, q _ L0 hn R.nd (fun p hp => ?_) fun p hp => ?_⟩
  · obtain ⟨q, hq, e⟩ := List.mem_map.mp (List.mem_of_mem_take (g.sub _ (List.mem_map.mpr ⟨p, hp, rfl⟩)))
    simp only [Prod.mk.injEq, Value.ref.injEq] at e
    have e3 : q = p := Prod.ext e.1 e.2
    rw [← e3]
    exact hq
  · have := g.all (Value.ref p.1, p.2) (by rw [List.take_length]; exact List.mem_map.mpr ⟨p, hp, rfl⟩)
    rw [List.map_map] at this
    exact this
def eI (l : List Int) : PyData := .tuple (l.map PyData.int)
theorem eI_eq (l : List Int) : eI l = eL (l.map V.int) := by
  unfold eI eL
  rw [List.map_map]
  rfl
def rSortedI (K : PySem.W.Frag) (P : Program) (w : World) : List V → Hp → VK → Prop := fun vs H Q => ∃ (a : Addr) (L : List (Addr × List Int)), vs = [V.ref a] ∧ H a = some (SetTO P w a L) ∧ (∀ p ∈ L, Tq H p.1 (p.2.map V.int)) ∧
  AllAlike (L.map fun p => eI p.2) ∧ (∀ p ∈ L, p.2 ≠ []) ∧ ∀ ds p H', ds.Perm (L.map fun p => eI p.2) → Same H H' → Ls H' p (srtD ds) → Q (.ref p) H'
theorem cr_sortedI {X : Cx} (hu : X.A.units + 64 < cLine) (hc : X.calm = true) : CallR X (.builtin "sorted") (rSortedI X.K X.prog X.w) := by
  intro pins s σ H vs us Q I r h
  obtain ⟨a, L, rfl, ha, hk, hal, hne, q⟩ := h
  rw [Vals.ref1 r]
  have R0 : SetT0 X.prog X.w s.heap a L := (I.hok a _ ha).1
  obtain ⟨es, ep, t, R⟩ := R0.full fun p hp => I.isT ((hk p hp).seq)
  obtain ⟨o, ho, hex, hd⟩ := R.ob
  refine sorted_set_any (vV := fun p : Addr × List Int => V.ref p.1) (enc := fun p => eI p.2) (val := fun p => Value.ref p.1) I hc ⟨o, ho, hex, hd⟩ R.fits (by rw [R.size]; have := R.few; unfold scanBound; omega) R.tab.ris R.led ?_ (fun p hp => ⟨rfl, ?_⟩) hal (.inl fun d hd => ?_) (fun p hp => ?_) q
  · rw [R.rows]
    unfold rowsOf
    rw [List.map_map]
    rfl
  · show Dq H (.ref p.1) (eI p.2)
    rw [eI_eq]
    exact Dq.eL (hk p hp) (by simp [fl])
  · obtain ⟨p, hp, rfl⟩ := List.mem_map.mp hd
    cases hx : p.2 with
    | nil => exact absurd hx (hne p hp)
    | cons x l => exact ⟨.int x, l.map PyData.int, rfl⟩
  · have := eL_depth (p.2.map V.int)
    rw [← eI_eq] at this
    omega
end Cc

end

section
set_option Elab.async false
set_option linter.all false
set_option maxRecDepth 100000
set_option maxHeartbeats 4000000
namespace Cc
open PySem PySem.Spec L2
open PySem.W (AllAlike Sortable dataLe keyToks keyToksAll)

/-! ### sorting: the order of a list doesn't matter -/
theorem perm_sorted {α : Type} {le : α → α → Prop} : ∀ {m n : List α}, m.Perm n → m.Pairwise le → n.Pairwise le → (∀ a ∈ m, ∀ b ∈ m, le a b → le b a → a = b) → m = n
  | [], n, p, _, _, _ => (List.nil_perm.mp p).symm
  | x :: m, [], p, _, _, _ => by have := p.length_eq; simp at this
  | x :: m, y :: n, p, h1, h2, an => by
    have hx : x ∈ y :: n := p.mem_iff.mp List.mem_cons_self
    have hy : y ∈ x :: m := p.mem_iff.mpr List.mem_cons_self
    have e : x = y := by
      rcases List.mem_cons.mp hx with e | hx'
      · exact e
      · rcases List.mem_cons.mp hy with e | hy'
        · exact e.symm
        · exact an x List.mem_cons_self y hy ((List.pairwise_cons.mp h1).1 y hy') ((List.pairwise_cons.mp h2).1 x hx')
    subst e
    rw [perm_sorted (List.perm_cons x |>.mp p) (List.pairwise_cons.mp h1).2 (List.pairwise_cons.mp h2).2 fun a ha b hb => an a (List.mem_cons_of_mem _ ha) b (List.mem_cons_of_mem _ hb)]
theorem le_anti {β : Type} {k : β → PyData} {a b : β} (h1 : dataLe false k a b = true) (h2 : dataLe false k b a = true) : keyToks (k a) = keyToks (k b) := by
  have h1' : (!PyProof.Rows.lexLt PyProof.Rows.itemOrd (keyToks (k b)) (keyToks (k a))) = true := h1
  have h2' : (!PyProof.Rows.lexLt PyProof.Rows.itemOrd (keyToks (k a)) (keyToks (k b))) = true := h2
  rw [Bool.not_eq_true'] at h1' h2'
  exact PyProof.Rows.lex_total (O := PyProof.Rows.itemOrd) _ _ h2' h1'
theorem le_total {β : Type} (k : β → PyData) : PySem.W.TotalLe (dataLe false k) := PySem.W.sortLe_total _ false _
theorem sort_perm {β : Type} {k : β → PyData} {l m : List β} (p : l.Perm m) (inj : ∀ a ∈ l, ∀ b ∈ l, keyToks (k a) = keyToks (k b) → a = b) : l.mergeSort (dataLe false k) = m.mergeSort (dataLe false k) :=
  perm_sorted (((List.mergeSort_perm l _).trans p).trans (List.mergeSort_perm m _).symm) (PySem.W.sort_pairwise (le_total k) l) (PySem.W.sort_pairwise (le_total k) m)
    fun a ha b hb h1 h2 => inj a (List.mem_mergeSort.mp ha) b (List.mem_mergeSort.mp hb) (le_anti h1 h2)
/-! keys that tell their data -/
theorem toks_flat : ∀ {l m : List V}, (∀ x ∈ l, ∃ s, x = .str s) → (∀ x ∈ m, ∃ s, x = .str s) → keyToksAll (l.map dV) = keyToksAll (m.map dV) → l = m
  | [], [], _, _, _ => rfl
  | [], y :: m, _, _, e => by simp [keyToksAll] at e
  | x :: l, [], _, _, e => by simp [keyToksAll] at e
  | x :: l, y :: m, h1, h2, e => by
    obtain ⟨s, rfl⟩ := h1 x List.mem_cons_self
    obtain ⟨t, rfl⟩ := h2 y List.mem_cons_self
    simp only [List.map_cons, dV, keyToksAll, keyToks, List.cons_append, List.nil_append, List.cons.injEq, true_and, Sum.inr.injEq] at e
    rw [PySem.W.str_of_cps e.1, toks_flat (fun z hz => h1 z (List.mem_cons_of_mem _ hz)) (fun z hz => h2 z (List.mem_cons_of_mem _ hz)) e.2]
theorem toks_ints : ∀ {l m : List Int}, keyToksAll (l.map PyData.int) = keyToksAll (m.map PyData.int) → l = m
  | [], [], _ => rfl
  | [], y :: m, e => by simp [keyToksAll] at e
  | x :: l, [], e => by simp [keyToksAll] at e
  | x :: l, y :: m, e => by
    simp only [List.map_cons, keyToksAll, keyToks, List.cons_append, List.nil_append, List.cons.injEq, true_and, Sum.inl.injEq] at e
    rw [e.1, toks_ints e.2]
theorem toks_eI {l m : List Int} (e : keyToks (eI l) = keyToks (eI m)) : l = m := by
  have e' : keyToksAll (l.map PyData.int) = keyToksAll (m.map PyData.int) := by simpa [eI, keyToks] using e
  exact toks_ints e'
theorem toks_str {x y : Str} (e : keyToks (.str x) = keyToks (.str y)) : x = y := by
  simp only [keyToks, List.cons.injEq, and_true, Sum.inr.injEq] at e
  exact PySem.W.str_of_cps e
theorem srtD_ints {l m : List (List Int)} (p : l.Perm m) : srtD (l.map eI) = srtD (m.map eI) := by
  refine sort_perm (p.map eI) fun a ha b hb e => ?_
  obtain ⟨x, _, rfl⟩ := List.mem_map.mp ha
  obtain ⟨y, _, rfl⟩ := List.mem_map.mp hb
  rw [toks_eI e]
theorem srtD_strs {l m : List Str} (p : l.Perm m) : srtD (l.map PyData.str) = srtD (m.map PyData.str) := by
  refine sort_perm (p.map PyData.str) fun a ha b hb e => ?_
  obtain ⟨x, _, rfl⟩ := List.mem_map.mp ha
  obtain ⟨y, _, rfl⟩ := List.mem_map.mp hb
  rw [toks_str e]
/-- a list of texts in order stays as it is -/
theorem srtD_sorted {ds : List PyData} (h : ds.Pairwise fun a b => dataLe false id a b = true) : srtD ds = ds := List.mergeSort_of_pairwise h

/-! ### rank -/
def rk (v : V) : V := if v = .non then .str "" else v
/-- what stands in a layout: None, or a text that isn't empty -/
def LV (x : V) : Prop := x = .non ∨ ∃ s : Str, x = .str s ∧ s ≠ ""
theorem rk_str {x : V} (h : LV x) : ∃ s, rk x = .str s := by
  rcases h with rfl | ⟨s, rfl, _⟩
  · exact ⟨_, rfl⟩
  · exact ⟨s, rfl⟩
theorem rk_inj {x y : V} (h : LV x) (h' : LV y) (e : rk x = rk y) : x = y := by
  rcases h with rfl | ⟨s, rfl, hs⟩ <;> rcases h' with rfl | ⟨t, rfl, ht⟩
  · rfl
  · exact absurd (by simpa [rk] using e.symm) ht
  · exact absurd (by simpa [rk] using e) hs
  · simpa [rk] using e
theorem rks_inj : ∀ {l m : List V}, (∀ x ∈ l, LV x) → (∀ x ∈ m, LV x) → l.map rk = m.map rk → l = m
  | [], [], _, _, _ => rfl
  | [], y :: m, _, _, e => by simp at e
  | x :: l, [], _, _, e => by simp at e
  | x :: l, y :: m, h1, h2, e => by
    simp only [List.map_cons, List.cons.injEq] at e
    rw [rk_inj (h1 x List.mem_cons_self) (h2 y List.mem_cons_self) e.1, rks_inj (fun z hz => h1 z (List.mem_cons_of_mem _ hz)) (fun z hz => h2 z (List.mem_cons_of_mem _ hz)) e.2]
theorem LV.fl {x : V} (h : LV x) : fl x = true := by rcases h with rfl | ⟨s, rfl, _⟩ <;> rfl
theorem rk_fl {x : V} (h : LV x) : Cc.fl (rk x) = true := by obtain ⟨s, e⟩ := rk_str h; rw [e]; rfl
def srtL (ls : List (List V)) : List (List V) := srtK rk ls
theorem srtL_perm {l m : List (List V)} (p : l.Perm m) (h : ∀ a ∈ l, ∀ x ∈ a, LV x) : srtL l = srtL m := by
  refine sort_perm p fun a ha b hb e => ?_
  have e' : keyToksAll ((a.map rk).map dV) = keyToksAll ((b.map rk).map dV) := by simpa [eL, keyToks] using e
  have sa : ∀ l : List V, (∀ x ∈ l, LV x) → ∀ x ∈ l.map rk, ∃ s, x = .str s := fun l hl x hx => by
    obtain ⟨y, hy, rfl⟩ := List.mem_map.mp hx
    exact rk_str (hl y hy)
  exact rks_inj (h a ha) (h b hb) (toks_flat (sa a (h a ha)) (sa b (h b hb)) e')
theorem srtL_mem {l : List (List V)} {a : List V} : a ∈ srtL l ↔ a ∈ l := List.mem_mergeSort
theorem srtL_len (l : List (List V)) : (srtL l).length = l.length := List.length_mergeSort l
theorem srtL_nd {l : List (List V)} (h : l.Nodup) : (srtL l).Nodup := (List.mergeSort_perm l _).nodup_iff.mpr h

/-! ### the items of a list, each once, in the order of their first places -/
def dk {α : Type} [DecidableEq α] (ls : List α) : List α := ls.foldl (fun acc l => if l ∈ acc then acc else acc ++ [l]) []
section
variable {α : Type} [DecidableEq α]
theorem dk_go : ∀ (ls acc : List α), (∀ x, x ∈ ls.foldl (fun acc l => if l ∈ acc then acc else acc ++ [l]) acc ↔ x ∈ acc ∨ x ∈ ls) ∧ (acc.Nodup → (ls.foldl (fun acc l => if l ∈ acc then acc else acc ++ [l]) acc).Nodup)
  | [], acc => ⟨by simp, id⟩
  | l :: ls, acc => by
    simp only [List.foldl_cons]
    obtain ⟨h1, h2⟩ := dk_go ls (if l ∈ acc then acc else acc ++ [l])
    refine ⟨fun x => ?_, fun hn => h2 ?_⟩
    · rw [h1 x]
      split
      · rename_i h
        simp only [List.mem_cons]
        constructor
        · rintro (h | h) <;> simp [h]
        · rintro (h' | rfl | h') <;> simp [*]
      · simp only [List.mem_append, List.mem_cons, List.not_mem_nil, or_false, or_assoc]
    · split
      · exact hn
      · rename_i h
        refine List.nodup_append.mpr ⟨hn, by simp, fun a ha b hb => ?_⟩
        rintro rfl
        simp at hb
        exact h (hb ▸ ha)
theorem mem_dk {ls : List α} {x : α} : x ∈ dk ls ↔ x ∈ ls := by simpa [dk] using (dk_go ls []).1 x
theorem nd_dk (ls : List α) : (dk ls).Nodup := (dk_go ls []).2 List.nodup_nil
theorem dk_snoc (ls : List α) (x : α) : dk (ls ++ [x]) = if x ∈ dk ls then dk ls else dk ls ++ [x] := by
  unfold dk
  rw [List.foldl_append]
  rfl
theorem dk_nd : ∀ (ls : List α), ls.Nodup → dk ls = ls := by
  intro ls
  have : ∀ (ls acc : List α), (acc ++ ls).Nodup → ls.foldl (fun acc l => if l ∈ acc then acc else acc ++ [l]) acc = acc ++ ls := by
    intro ls
    induction ls with
    | nil => intro acc _; simp
    | cons l ls ih =>
      intro acc h
      have hl : l ∉ acc := fun hl => by
        have := (List.nodup_append.mp h).2.2 l hl l List.mem_cons_self
        exact this rfl
      rw [List.foldl_cons, if_neg hl, ih _ (by simpa using h)]
      simp
  intro h
  simpa [dk] using this ls [] (by simpa using h)
theorem dk_len (ls : List α) : (dk ls).length ≤ ls.length := by
  have : ∀ (ls acc : List α), (ls.foldl (fun acc l => if l ∈ acc then acc else acc ++ [l]) acc).length ≤ acc.length + ls.length := by
    intro ls
    induction ls with
    | nil => intro acc; simp
    | cons l ls ih =>
      intro acc
      rw [List.foldl_cons]
      refine Nat.le_trans (ih _) ?_
      split <;> simp <;> omega
  simpa [dk] using this ls []
theorem nd_perm {l m : List α} (h1 : l.Nodup) (h2 : m.Nodup) (h : ∀ x, x ∈ l ↔ x ∈ m) : l.Perm m := (List.perm_ext_iff_of_nodup h1 h2).mpr h
end
end Cc

end

section
set_option Elab.async false
set_option linter.all false
set_option maxRecDepth 100000
set_option maxHeartbeats 4000000
namespace Cc
open PySem PySem.Spec L2

/-! ### schemes -/
structure Sc where
  ds : List (Int × Int)
  cs : List Str
def edF : Int → List (Int × Int) → List Int
  | _, [] => []
  | k, d :: r => List.replicate d.2.toNat k ++ edF (k + 1) r
def Sc.ed (s : Sc) : List Int := edF 0 s.ds
def Sc.cv (s : Sc) : List V := s.cs.map V.str
def crN : List Str := ["fig", "jam", "kiwi", "lime", "plum"]
structure Sc.Ok (s : Sc) : Prop where
  d1 : 1 ≤ s.ds.length
  d4 : s.ds.length ≤ 4
  dw : ∀ d ∈ s.ds, 1 ≤ d.1 ∧ d.1 ≤ 9 ∧ 1 ≤ d.2 ∧ d.2 ≤ 3
  sz : s.ed.length ≤ 5
  cs : ∃ n, 1 ≤ n ∧ n ≤ 3 ∧ n ≤ s.ed.length ∧ s.cs = crN.take n
theorem edF_mem : ∀ (ds : List (Int × Int)) (k : Int), ∀ e ∈ edF k ds, k ≤ e ∧ e < k + ds.length
  | [], _, e, h => by simp [edF] at h
  | d :: r, k, e, h => by
    rw [edF, List.mem_append] at h
    rcases h with h | h
    · have := (List.mem_replicate.mp h).2
      simp only [List.length_cons]
      omega
    · have := edF_mem r (k + 1) e h
      simp only [List.length_cons]
      omega
theorem Sc.ed_mem {s : Sc} {e : Int} (h : e ∈ s.ed) : 0 ≤ e ∧ e < s.ds.length := by
  have := edF_mem s.ds 0 e h
  omega
theorem edF_len : ∀ (ds : List (Int × Int)) (k : Int), (∀ d ∈ ds, 0 ≤ d.2) → ((edF k ds).length : Int) = (ds.map (·.2)).sum
  | [], _, _ => rfl
  | d :: r, k, h => by
    rw [edF, List.length_append, List.length_replicate, List.map_cons, List.sum_cons, Int.natCast_add, edF_len r (k + 1) fun x hx => h x (List.mem_cons_of_mem _ hx), Int.toNat_of_nonneg (h d List.mem_cons_self)]
theorem crN_facts (n : Nat) (h : n ≤ 3) : (crN.take n).Nodup ∧ (crN.take n).length = n ∧ (∀ c ∈ crN.take n, c ≠ "" ∧ c ≠ "?") := by
  match n, h with
  | 0, _ => decide
  | 1, _ => decide
  | 2, _ => decide
  | 3, _ => decide
section
variable {s : Sc}
theorem Sc.Ok.nd (o : s.Ok) : s.cs.Nodup := by
  obtain ⟨n, h1, h2, h3, e⟩ := o.cs
  rw [e]; exact (crN_facts n h2).1
theorem Sc.Ok.len (o : s.Ok) : 1 ≤ s.cs.length ∧ s.cs.length ≤ 3 ∧ s.cs.length ≤ s.ed.length := by
  obtain ⟨n, h1, h2, h3, e⟩ := o.cs
  rw [e, (crN_facts n h2).2.1]; exact ⟨h1, h2, h3⟩
theorem Sc.Ok.ne (o : s.Ok) {c : Str} (h : c ∈ s.cs) : c ≠ "" ∧ c ≠ "?" := by
  obtain ⟨n, h1, h2, h3, e⟩ := o.cs
  rw [e] at h; exact (crN_facts n h2).2.2 c h
theorem Sc.cv_nd (o : s.Ok) : s.cv.Nodup := by
  have : ∀ l : List Str, l.Nodup → (l.map V.str).Nodup := fun l h => by
    refine List.pairwise_map.mpr (h.imp fun hne e => hne ?_)
    injection e
  exact this _ o.nd
theorem Sc.cv_len : s.cv.length = s.cs.length := List.length_map _
theorem Sc.mem_cv {x : V} : x ∈ s.cv ↔ ∃ c ∈ s.cs, x = .str c := by
  unfold Sc.cv
  rw [List.mem_map]
  exact ⟨fun ⟨c, h, e⟩ => ⟨c, h, e.symm⟩, fun ⟨c, h, e⟩ => ⟨c, h, e.symm⟩⟩
theorem Sc.non_cv : V.non ∉ s.cv := fun h => by
  obtain ⟨c, _, e⟩ := Sc.mem_cv.mp h
  cases e
end

/-! ### layouts -/
def Lay (s : Sc) (l : List V) : Prop := l.Perm (s.cv ++ List.replicate (s.ed.length - s.cs.length) .non)
section
variable {s : Sc} {l : List V}
theorem Lay.len (o : s.Ok) (h : Lay s l) : l.length = s.ed.length := by
  have := o.len
  rw [h.length_eq, List.length_append, List.length_replicate, Sc.cv_len]; omega
theorem Lay.mem (h : Lay s l) {x : V} (hx : x ∈ l) : x = .non ∨ ∃ c ∈ s.cs, x = .str c := by
  rcases List.mem_append.mp (h.mem_iff.mp hx) with h | h
  · exact .inr (Sc.mem_cv.mp h)
  · exact .inl (List.mem_replicate.mp h).2
theorem Lay.lv (o : s.Ok) (h : Lay s l) : ∀ x ∈ l, LV x := fun x hx => by
  rcases h.mem hx with e | ⟨c, hc, e⟩
  · exact .inl e
  · exact .inr ⟨c, e, (o.ne hc).1⟩
theorem Lay.fl (o : s.Ok) (h : Lay s l) : l.all fl = true := List.all_eq_true.mpr fun x hx => (h.lv o x hx).fl
theorem Lay.has (h : Lay s l) {c : Str} (hc : c ∈ s.cs) : V.str c ∈ l := h.mem_iff.mpr (List.mem_append_left _ (Sc.mem_cv.mpr ⟨c, hc, rfl⟩))
theorem Lay.one (o : s.Ok) (h : Lay s l) {c : Str} (hc : c ∈ s.cs) : l.count (.str c) = 1 := by
  have hm : V.str c ∈ s.cv := Sc.mem_cv.mpr ⟨c, hc, rfl⟩
  rw [h.count_eq, List.count_append, List.count_replicate, (Sc.cv_nd o).count, if_pos hm]
  simp
theorem Lay.ne (o : s.Ok) (h : Lay s l) : l ≠ [] := fun e => by
  have := h.len o
  have := o.len
  rw [e] at *
  simp only [List.length_nil] at *
  omega
theorem idx_one : ∀ {l : List V} {x : V} {i : Nat}, l.count x = 1 → l[i]? = some x → i = l.idxOf x
  | [], _, _, h, _ => by simp at h
  | y :: l, x, i, h, e => by
    by_cases hy : y = x
    · subst hy
      rw [List.count_cons_self] at h
      cases i with
      | zero => rw [List.idxOf_cons_self]
      | succ i =>
        rw [List.getElem?_cons_succ] at e
        have := List.count_eq_zero.mp (show l.count y = 0 by omega)
        exact absurd (List.mem_of_getElem? e) this
    · rw [List.count_cons_of_ne hy] at h
      cases i with
      | zero => simp at e; exact absurd e hy
      | succ i =>
        rw [List.getElem?_cons_succ] at e
        rw [List.idxOf_cons, show (y == x) = false from by simpa using hy, idx_one h e]
        rfl
theorem idx_get {l : List V} {x : V} (h : x ∈ l) : l[l.idxOf x]? = some x := by
  have hl := List.idxOf_lt_length_of_mem h
  rw [List.getElem?_eq_getElem hl, List.getElem_idxOf hl]
end
/-- the things at i and j change places -/
def swapL (l : List V) (i j : Nat) : List V := (l.set i (l.getD j .non)).set j (l.getD i .non)
theorem swap_perm {l : List V} {i j : Nat} (hi : i < l.length) (hj : j < l.length) : (swapL l i j).Perm l := by
  unfold swapL
  rw [List.getD_eq_getElem?_getD, List.getD_eq_getElem?_getD, List.getElem?_eq_getElem hi, List.getElem?_eq_getElem hj]
  exact List.set_set_perm hi hj
theorem Lay.swap {s : Sc} {l : List V} (h : Lay s l) {i j : Nat} (hi : i < l.length) (hj : j < l.length) : Lay s (swapL l i j) := (swap_perm hi hj).trans h

/-! ### all layouts -/
def nxt (s : Sc) (row : List V) : List (List V) := (if row.count .non < s.ed.length - s.cs.length then [row ++ [.non]] else []) ++ (s.cv.filter fun x => decide (x ∉ row)).map fun x => row ++ [x]
def laysN (s : Sc) : Nat → List (List V)
  | 0 => [[]]
  | k + 1 => (laysN s k).flatMap (nxt s)
def lays (s : Sc) : List (List V) := laysN s s.ed.length
structure Pre (s : Sc) (k : Nat) (row : List V) : Prop where
  len : row.length = k
  mem : ∀ x ∈ row, x = .non ∨ x ∈ s.cv
  nd : (row.filter fun x => decide (x ≠ .non)).Nodup
  few : row.count .non ≤ s.ed.length - s.cs.length
section
variable {s : Sc} {k : Nat} {row : List V}
theorem nones (row : List V) : (row.filter fun x => decide (x ≠ .non)).length + row.count .non = row.length := by
  induction row with
  | nil => rfl
  | cons x r ih =>
    by_cases h : x = .non
    · subst h
      simp only [List.count_cons_self, List.length_cons]
      rw [List.filter_cons_of_neg (by simp)]
      omega
    · rw [List.filter_cons_of_pos (by simp [h]), List.count_cons_of_ne h]
      simp only [List.length_cons]
      omega
theorem Pre.names (o : s.Ok) (p : Pre s k row) : (s.cv.filter fun x => decide (x ∉ row)).length + (row.filter fun x => decide (x ≠ .non)).length = s.cs.length := by
  have e : (s.cv.filter fun x => decide (x ∈ row)).Perm (row.filter fun x => decide (x ≠ .non)) := by
    refine nd_perm ((Sc.cv_nd o).filter _) p.nd fun x => ?_
    simp only [List.mem_filter, decide_eq_true_eq]
    constructor
    · rintro ⟨h1, h2⟩
      exact ⟨h2, fun z => Sc.non_cv (z ▸ h1)⟩
    · rintro ⟨h1, h2⟩
      exact ⟨(p.mem x h1).resolve_left h2, h1⟩
  rw [← e.length_eq, ← Sc.cv_len]
  have : ∀ (l : List V) (q : V → Bool), (l.filter fun x => !q x).length + (l.filter q).length = l.length := by
    intro l q
    induction l with
    | nil => rfl
    | cons x l ih =>
      cases h : q x
      · rw [List.filter_cons_of_pos (by simp [h]), List.filter_cons_of_neg (by simp [h])]; simp only [List.length_cons]; omega
      · rw [List.filter_cons_of_neg (by simp [h]), List.filter_cons_of_pos h]; simp only [List.length_cons]; omega
  have h2 := this s.cv fun x => decide (x ∈ row)
  simpa using h2
/-- what the program looks at -/
theorem Pre.test (o : s.Ok) (p : Pre s k row) (hk : k ≤ s.ed.length) : (((s.cv.filter fun x => decide (x ∉ row)).length : Int) < (s.ed.length : Int) - (k : Int)) ↔ row.count .non < s.ed.length - s.cs.length := by
  have h1 := p.names o
  have h2 := nones row
  have h3 := p.len
  have h4 := o.len
  omega
theorem Pre.zero : Pre s 0 [] where
  len := rfl
  mem := fun x h => by cases h
  nd := List.nodup_nil
  few := Nat.zero_le _
theorem Pre.next (o : s.Ok) (p : Pre s k row) {r : List V} (h : r ∈ nxt s row) : Pre s (k + 1) r := by
  unfold nxt at h
  rcases List.mem_append.mp h with h | h
  · split at h
    · rename_i hc
      simp only [List.mem_cons, List.not_mem_nil, or_false] at h
      subst h
      refine ⟨by simp [p.len], fun x hx => ?_, ?_, ?_⟩
      · rcases List.mem_append.mp hx with hx | hx
        · exact p.mem x hx
        · exact .inl (by simpa using hx)
      · rw [List.filter_append]
        simpa using p.nd
      · rw [List.count_append]
        simp
        omega
    · simp at h
  · obtain ⟨x, hx, rfl⟩ := List.mem_map.mp h
    obtain ⟨h1, h2⟩ := List.mem_filter.mp hx
    have h2 := of_decide_eq_true h2
    have hn : x ≠ .non := fun z => Sc.non_cv (z ▸ h1)
    refine ⟨by simp [p.len], fun y hy => ?_, ?_, ?_⟩
    · rcases List.mem_append.mp hy with hy | hy
      · exact p.mem y hy
      · exact .inr (by have : y = x := by simpa using hy
                       rw [this]; exact h1)
    · rw [List.filter_append, List.filter_cons_of_pos (by simp [hn])]
      refine List.nodup_append.mpr ⟨p.nd, by simp, fun a ha b hb => ?_⟩
      rintro rfl
      have : a = x := by simpa using hb
      subst this
      exact h2 (List.mem_filter.mp ha).1
    · rw [List.count_append]
      have : ([x] : List V).count .non = 0 := by rw [List.count_eq_zero]; simpa using fun z => hn z.symm
      have := p.few
      omega
theorem laysN_pre (o : s.Ok) : ∀ (k : Nat) (r : List V), r ∈ laysN s k → Pre s k r
  | 0, r, h => by
    have : r = [] := by simpa [laysN] using h
    subst this
    exact Pre.zero
  | k + 1, r, h => by
    obtain ⟨q, hq, hr⟩ := List.mem_flatMap.mp h
    exact (laysN_pre o k q hq).next o hr
theorem Pre.lay (o : s.Ok) (p : Pre s s.ed.length row) : Lay s row := by
  have h1 := p.names o
  have h2 := nones row
  have h3 := p.len
  have h4 := o.len
  have h5 := p.few
  have hc : row.count .non = s.ed.length - s.cs.length := by omega
  have e1 : (row.filter fun x => decide (x ≠ .non)).Perm s.cv := by
    refine nd_perm p.nd (Sc.cv_nd o) fun x => ?_
    simp only [List.mem_filter, decide_eq_true_eq]
    constructor
    · rintro ⟨a, b⟩
      exact (p.mem x a).resolve_left b
    · intro hx
      refine ⟨?_, fun z => Sc.non_cv (z ▸ hx)⟩
      have hz : (s.cv.filter fun x => decide (x ∉ row)).length = 0 := by omega
      have hz := List.length_eq_zero_iff.mp hz
      have := List.filter_eq_nil_iff.mp hz x hx
      simpa using this
  have e2 : row.Perm ((row.filter fun x => decide (x ≠ .non)) ++ List.replicate (row.count .non) .non) := by
    clear p h1 h2 h3 h4 h5 hc e1
    induction row with
    | nil => simp
    | cons x r ih =>
      by_cases h : x = .non
      · subst h
        rw [List.filter_cons_of_neg (by simp), List.count_cons_self, List.replicate_succ]
        exact (ih.cons _).trans List.perm_middle.symm
      · rw [List.filter_cons_of_pos (by simp [h]), List.count_cons_of_ne h]
        exact ih.cons _
  unfold Lay
  rw [hc] at e2
  exact e2.trans (e1.append_right _)
theorem lays_lay (o : s.Ok) {l : List V} (h : l ∈ lays s) : Lay s l := (laysN_pre o _ l h).lay o
theorem nxt_len (o : s.Ok) (row : List V) : (nxt s row).length ≤ 4 := by
  unfold nxt
  have h1 : (s.cv.filter fun x => decide (x ∉ row)).length ≤ s.cs.length := by rw [← Sc.cv_len]; exact List.length_filter_le _ _
  have := o.len
  rw [List.length_append, List.length_map]
  split
  · rw [List.length_singleton]; omega
  · rw [List.length_nil]; omega
theorem flat_len {α β : Type} (f : α → List β) (n : Nat) : ∀ (l : List α), (∀ x ∈ l, (f x).length ≤ n) → (l.flatMap f).length ≤ n * l.length
  | [], _ => by simp
  | x :: l, h => by
    rw [List.flatMap_cons, List.length_append, List.length_cons, Nat.mul_succ]
    have := h x List.mem_cons_self
    have := flat_len f n l fun y hy => h y (List.mem_cons_of_mem _ hy)
    omega
theorem laysN_len (o : s.Ok) : ∀ k, (laysN s k).length ≤ 4 ^ k
  | 0 => by simp [laysN]
  | k + 1 => by
    have := flat_len (nxt s) 4 (laysN s k) fun x _ => nxt_len o x
    have := laysN_len o k
    rw [laysN, Nat.pow_succ]
    omega
theorem laysN_small (o : s.Ok) {k : Nat} (h : k ≤ s.ed.length) : (laysN s k).length ≤ 1024 := by
  have h5 := o.sz
  refine Nat.le_trans (laysN_len o k) (Nat.le_trans (Nat.pow_le_pow_right (by decide) (show k ≤ 5 by omega)) (by decide))
/-- there is a layout -/
theorem laysN_pos (o : s.Ok) : ∀ k, k ≤ s.ed.length → laysN s k ≠ []
  | 0, _ => by simp [laysN]
  | k + 1, hk => by
    have h0 := laysN_pos o k (by omega)
    obtain ⟨r, hr⟩ := List.exists_mem_of_ne_nil _ h0
    have p := laysN_pre o k r hr
    intro e
    rw [laysN] at e
    have e1 := List.flatMap_eq_nil_iff.mp e r hr
    unfold nxt at e1
    obtain ⟨a, b⟩ := List.append_eq_nil_iff.mp e1
    have b := List.map_eq_nil_iff.mp b
    split at a
    · cases a
    · rename_i hc
      have h1 := p.names o
      rw [b] at h1
      have h2 := nones r
      have h3 := p.len
      have h4 := o.len
      simp only [List.length_nil] at h1
      omega
end
end Cc

end

section
set_option Elab.async false
set_option linter.all false
set_option maxRecDepth 100000
set_option maxHeartbeats 4000000
namespace Cc
open PySem PySem.Spec L2
open PySem.W (AllAlike Sortable dataLe keyToks keyToksAll)

/-! ### what is seen behind a door -/
def seenL (s : Sc) (l : List V) (d : Int) : List V := (l.zip s.ed).filterMap fun p => if p.2 = d then some p.1 else none
def okP (x t : V) : Bool := decide (x = t) || (decide (t = .str "?") && !decide (x = .non))
def isSo (s : Sc) (l : List V) (d : Int) (sn : List V) : Bool := ((seenL s l d).zip sn).all fun p => okP p.1 p.2
def plcs (s : Sc) (d : Int) : List Nat := (List.range s.ed.length).filter fun i => decide (s.ed[i]? = some d)
theorem zip_range : ∀ (l : List V) (e : List Int) (d : Int), l.length = e.length → ((l.zip e).filterMap fun p => if p.2 = d then some p.1 else none) = (List.range l.length).filterMap fun i => if e[i]? = some d then l[i]? else none
  | [], e, d, h => by simp
  | x :: l, [], d, h => by simp at h
  | x :: l, k :: e, d, h => by
    rw [List.zip_cons_cons, List.filterMap_cons, List.length_cons, List.range_succ_eq_map, List.filterMap_cons, List.filterMap_map, zip_range l e d (by simpa using h)]
    by_cases hk : k = d
    · simp [hk, Function.comp_def]
    · simp [hk, Function.comp_def]
section
variable {s : Sc} {l sn : List V} {d : Int}
theorem seen_range (h : l.length = s.ed.length) : seenL s l d = (List.range l.length).filterMap fun i => if s.ed[i]? = some d then l[i]? else none := zip_range l s.ed d h
theorem seen_len (h : l.length = s.ed.length) : (seenL s l d).length = (plcs s d).length := by
  rw [seen_range h, h]
  unfold plcs
  have : ∀ (is : List Nat), (∀ i ∈ is, i < l.length) → (is.filterMap fun i => if s.ed[i]? = some d then l[i]? else none).length = (is.filter fun i => decide (s.ed[i]? = some d)).length := by
    intro is
    induction is with
    | nil => intro _; rfl
    | cons i is ih =>
      intro hi
      have hl := hi i List.mem_cons_self
      have ih := ih fun j hj => hi j (List.mem_cons_of_mem _ hj)
      by_cases hc : s.ed[i]? = some d
      · rw [List.filter_cons_of_pos (by simp [hc]), List.filterMap_cons, if_pos hc, List.getElem?_eq_getElem hl]
        simp only [List.length_cons, ih]
      · rw [List.filter_cons_of_neg (by simp [hc]), List.filterMap_cons, if_neg hc]
        exact ih
  exact this _ fun i hi => by rw [h]; exact List.mem_range.mp hi
theorem seen_mem {x : V} (h : x ∈ seenL s l d) : x ∈ l := by
  obtain ⟨p, hp, e⟩ := List.mem_filterMap.mp h
  split at e
  · cases e; exact (List.of_mem_zip hp).1
  · cases e
theorem isSo_of (h1 : ∀ (i : Nat) x t, (seenL s l d)[i]? = some x → sn[i]? = some t → t = x ∨ (t = .str "?" ∧ x ≠ .non)) : isSo s l d sn = true := by
  unfold isSo
  rw [List.all_eq_true]
  intro p hp
  obtain ⟨i, hi⟩ := List.mem_iff_getElem?.mp hp
  obtain ⟨a, b⟩ := List.getElem?_zip_eq_some.mp hi
  unfold okP
  rcases h1 i _ _ a b with e | ⟨e, hn⟩
  · simp [e]
  · simp [e, hn]
theorem okP_false {x t : V} : okP x t = false ↔ x ≠ t ∧ (t ≠ .str "?" ∨ x = .non) := by
  unfold okP
  by_cases h1 : x = t <;> by_cases h2 : t = .str "?" <;> by_cases h3 : x = .non <;> simp [h1, h2, h3]
end

/-! ### moves -/
def dd (a b : Int) : List Int := if a = b then [a] else [a, b]
def edA (s : Sc) (i : Nat) : Int := s.ed.getD i 0
def Mv (s : Sc) (l : List V) (d : List Int) (x : V) (l' : List V) : Prop :=
  ∃ i j, l[i]? = some x ∧ x ≠ .non ∧ l[j]? = some .non ∧ d = dd (edA s i) (edA s j) ∧ l' = swapL l i j
/-- doors that may be told of -/
def DoorsOk (s : Sc) (d : List Int) : Prop := d.Nodup ∧ 1 ≤ d.length ∧ d.length ≤ 2 ∧ ∀ e ∈ d, 0 ≤ e ∧ e < s.ds.length
theorem lt_of_get {α : Type} {l : List α} {i : Nat} {x : α} (h : l[i]? = some x) : i < l.length := (List.getElem?_eq_some_iff.mp h).1
theorem edA_get {s : Sc} {i : Nat} (h : i < s.ed.length) : s.ed[i]? = some (edA s i) := by
  unfold edA
  rw [List.getD_eq_getElem?_getD, List.getElem?_eq_getElem h]
  rfl
theorem edA_ok {s : Sc} {i : Nat} (h : i < s.ed.length) : 0 ≤ edA s i ∧ edA s i < s.ds.length := Sc.ed_mem (List.mem_of_getElem? (edA_get h))
theorem dd_ok {s : Sc} {i j : Nat} (hi : i < s.ed.length) (hj : j < s.ed.length) : DoorsOk s (dd (edA s i) (edA s j)) := by
  have h1 := edA_ok hi
  have h2 := edA_ok hj
  unfold dd
  split
  · exact ⟨by simp, by simp, by simp, by simpa using h1⟩
  · rename_i hne
    refine ⟨by simpa using hne, by simp, by simp, ?_⟩
    intro e he
    simp only [List.mem_cons, List.not_mem_nil, or_false] at he
    rcases he with rfl | rfl
    · exact h1
    · exact h2
section
variable {s : Sc} {l l' : List V} {d : List Int} {x : V}
theorem Mv.lay (o : s.Ok) (L : Lay s l) (m : Mv s l d x l') : Lay s l' := by
  obtain ⟨i, j, h1, _, h2, _, rfl⟩ := m
  exact L.swap (lt_of_get h1) (lt_of_get h2)
theorem Mv.name (L : Lay s l) (m : Mv s l d x l') : ∃ c ∈ s.cs, x = .str c := by
  obtain ⟨i, j, h1, hn, _⟩ := m
  exact (L.mem (List.mem_of_getElem? h1)).resolve_left hn
theorem Mv.doors (o : s.Ok) (L : Lay s l) (m : Mv s l d x l') : DoorsOk s d := by
  obtain ⟨i, j, h1, _, h2, rfl, _⟩ := m
  have := L.len o
  exact dd_ok (by rw [← this]; exact lt_of_get h1) (by rw [← this]; exact lt_of_get h2)
end
/-- the program's steps: from where, to where -/
def stL (l : List V) : List (Nat × Nat) := (List.range l.length).flatMap fun i => if l[i]? = some .non then [] else (List.range l.length).filterMap fun j => if l[j]? = some .non then some (i, j) else none
theorem mem_stL {l : List V} {i j : Nat} : (i, j) ∈ stL l ↔ i < l.length ∧ l[i]? ≠ some .non ∧ l[j]? = some .non := by
  unfold stL
  simp only [List.mem_flatMap, List.mem_range]
  constructor
  · rintro ⟨a, ha, h⟩
    split at h
    · cases h
    · rename_i hn
      obtain ⟨b, hb, e⟩ := List.mem_filterMap.mp h
      split at e
      · rename_i hj
        cases e
        exact ⟨ha, hn, hj⟩
      · cases e
  · rintro ⟨h1, h2, h3⟩
    refine ⟨i, h1, ?_⟩
    rw [if_neg h2]
    exact List.mem_filterMap.mpr ⟨j, List.mem_range.mpr (lt_of_get h3), by rw [if_pos h3]⟩
theorem stL_len (l : List V) : (stL l).length ≤ l.length * l.length := by
  unfold stL
  have := flat_len (fun i => if l[i]? = some V.non then [] else (List.range l.length).filterMap fun j => if l[j]? = some V.non then some (i, j) else none) l.length (List.range l.length) fun x _ => by
    split
    · exact Nat.zero_le _
    · refine Nat.le_trans (List.length_filterMap_le _ _) (by simp)
  simpa using this
/-- the law's -/
def mvs (s : Sc) (l : List V) : List (List Int × V × List V) := s.cs.flatMap fun c => (List.range l.length).filterMap fun k =>
  if l[k]? = some .non then some (dd (edA s (l.idxOf (.str c))) (edA s k), .str c, swapL l (l.idxOf (.str c)) k) else none
theorem mem_mvs {s : Sc} {l : List V} (o : s.Ok) (L : Lay s l) {d : List Int} {x : V} {l' : List V} : (d, x, l') ∈ mvs s l ↔ Mv s l d x l' := by
  unfold mvs
  simp only [List.mem_flatMap]
  constructor
  · rintro ⟨c, hc, h⟩
    obtain ⟨k, hk, e⟩ := List.mem_filterMap.mp h
    split at e
    · rename_i hn
      simp only [Option.some.injEq, Prod.mk.injEq] at e
      obtain ⟨rfl, rfl, rfl⟩ := e
      exact ⟨_, k, idx_get (L.has hc), (by intro z; cases z), hn, rfl, rfl⟩
    · cases e
  · rintro ⟨i, j, h1, hn, h2, rfl, rfl⟩
    obtain ⟨c, hc, rfl⟩ := (L.mem (List.mem_of_getElem? h1)).resolve_left hn
    have e := idx_one (L.one o hc) h1
    refine ⟨c, hc, List.mem_filterMap.mpr ⟨j, List.mem_range.mpr (lt_of_get h2), ?_⟩⟩
    rw [if_pos h2, e]
theorem mvs_len {s : Sc} (o : s.Ok) (l : List V) : (mvs s l).length ≤ l.length * 3 := by
  have := flat_len (fun c : Str => (List.range l.length).filterMap fun k => if l[k]? = some V.non then some (dd (edA s (l.idxOf (.str c))) (edA s k), V.str c, swapL l (l.idxOf (.str c)) k) else none) l.length s.cs fun x _ => by
    refine Nat.le_trans (List.length_filterMap_le _ _) (by simp)
  exact Nat.le_trans this (Nat.mul_le_mul_left _ o.len.2.1)

/-! ### names -/
def nmF (s : Sc) (P : List (List V × V)) (l : List V) : List Str := s.cs.filter fun c => decide ((l, V.str c) ∈ P)
theorem crN_sorted (n : Nat) (h : n ≤ 3) : ((crN.take n).map PyData.str).Pairwise fun a b => dataLe false id a b = true := by
  match n, h with
  | 0, _ => exact .nil
  | 1, _ => decide +kernel
  | 2, _ => decide +kernel
  | 3, _ => decide +kernel
theorem names_sorted {s : Sc} (o : s.Ok) {L : List Str} {p : Str → Bool} (hn : L.Nodup) (h : ∀ c, c ∈ L ↔ c ∈ s.cs ∧ p c = true) : srtD (L.map .str) = (s.cs.filter p).map .str := by
  have pm : L.Perm (s.cs.filter p) := nd_perm hn (o.nd.filter _) fun c => by rw [h c, List.mem_filter]
  rw [srtD_strs pm]
  refine srtD_sorted ?_
  obtain ⟨n, h1, h2, h3, e⟩ := o.cs
  have := crN_sorted n h2
  rw [← e] at this
  exact this.sublist (List.filter_sublist.map _)
theorem names_sorted' {s : Sc} (o : s.Ok) {ds : List PyData} {L : List Str} {p : Str → Bool} (hp : ds.Perm (L.map .str)) (hn : L.Nodup) (h : ∀ c, c ∈ L ↔ c ∈ s.cs ∧ p c = true) : srtD ds = (s.cs.filter p).map .str := by
  obtain ⟨L', p1, rfl⟩ := perm_lift hp rfl
  exact names_sorted o (p1.nodup_iff.mpr hn) fun c => by rw [p1.mem_iff]; exact h c
end Cc

end

section
set_option Elab.async false
set_option linter.all false
set_option maxRecDepth 100000
set_option maxHeartbeats 4000000
namespace Cc
open PySem PySem.Spec PyProof.Rows L2
/-! ### the text by places -/
def top (i : Nat) : Stmt := PySem.Challenge.pw_coldcrates_k71_whole_keepers_by_own_step.main.body.getD i (.Pass ⟨0, 0, 0, 0⟩)
abbrev s_InvalidStore_init : Stmt := inClass (top 2) 0
theorem sc_InvalidStore_init : FnScope ["self", "part"] ["self", "part"] (defScope s_InvalidStore_init) := ⟨rfl, rfl, rfl, by decide +kernel, rfl, by decide +kernel, by decide +kernel⟩
abbrev s_InvalidLog_init : Stmt := inClass (top 5) 0
theorem sc_InvalidLog_init : FnScope ["self", "index"] ["self", "index"] (defScope s_InvalidLog_init) := ⟨rfl, rfl, rfl, by decide +kernel, rfl, by decide +kernel, by decide +kernel⟩
abbrev s_is_number : Stmt := top 16
theorem sc_is_number : FnScope ["value", "smallest", "largest"] ["value", "smallest", "largest"] (defScope s_is_number) := ⟨rfl, rfl, rfl, by decide +kernel, rfl, by decide +kernel, by decide +kernel⟩
abbrev s_is_word : Stmt := top 17
theorem sc_is_word : FnScope ["value", "letter"] ["value"] (defScope s_is_word) := ⟨rfl, rfl, rfl, by decide +kernel, rfl, by decide +kernel, by decide +kernel⟩
abbrev s_is_door : Stmt := top 18
theorem sc_is_door : FnScope ["value"] ["value"] (defScope s_is_door) := ⟨rfl, rfl, rfl, by decide +kernel, rfl, by decide +kernel, by decide +kernel⟩
abbrev s_are_doors : Stmt := top 19
theorem sc_are_doors : FnScope ["row", "door", "warmth", "places"] ["row"] (defScope s_are_doors) := ⟨rfl, rfl, rfl, by decide +kernel, rfl, by decide +kernel, by decide +kernel⟩
abbrev s_are_crates : Stmt := top 20
theorem sc_are_crates : FnScope ["row", "places", "name", "one", "other"] ["row", "places"] (defScope s_are_crates) := ⟨rfl, rfl, rfl, by decide +kernel, rfl, by decide +kernel, by decide +kernel⟩
abbrev s_Store_init : Stmt := inClass (top 21) 1
theorem sc_Store_init : FnScope ["self", "doors", "crates", "warmth", "places", "edges", "door"] ["self", "doors", "crates"] (defScope s_Store_init) := ⟨rfl, rfl, rfl, by decide +kernel, rfl, by decide +kernel, by decide +kernel⟩
abbrev s_Store_doors : Stmt := inClass (top 21) 2
theorem sc_Store_doors : FnScope ["self"] ["self"] (defScope s_Store_doors) := ⟨rfl, rfl, rfl, by decide +kernel, rfl, by decide +kernel, by decide +kernel⟩
abbrev s_Store_crates : Stmt := inClass (top 21) 3
theorem sc_Store_crates : FnScope ["self"] ["self"] (defScope s_Store_crates) := ⟨rfl, rfl, rfl, by decide +kernel, rfl, by decide +kernel, by decide +kernel⟩
abbrev s_Store_size : Stmt := inClass (top 21) 4
theorem sc_Store_size : FnScope ["self"] ["self"] (defScope s_Store_size) := ⟨rfl, rfl, rfl, by decide +kernel, rfl, by decide +kernel, by decide +kernel⟩
abbrev s_Store_len : Stmt := inClass (top 21) 5
theorem sc_Store_len : FnScope ["self"] ["self"] (defScope s_Store_len) := ⟨rfl, rfl, rfl, by decide +kernel, rfl, by decide +kernel, by decide +kernel⟩
abbrev s_Store_eq : Stmt := inClass (top 21) 6
theorem sc_Store_eq : FnScope ["self", "other"] ["self", "other"] (defScope s_Store_eq) := ⟨rfl, rfl, rfl, by decide +kernel, rfl, by decide +kernel, by decide +kernel⟩
abbrev s_Store_door_of : Stmt := inClass (top 21) 7
theorem sc_Store_door_of : FnScope ["self", "place"] ["self", "place"] (defScope s_Store_door_of) := ⟨rfl, rfl, rfl, by decide +kernel, rfl, by decide +kernel, by decide +kernel⟩
abbrev s_Store_places_of : Stmt := inClass (top 21) 8
theorem sc_Store_places_of : FnScope ["self", "door", "place", "edge"] ["self", "door"] (defScope s_Store_places_of) := ⟨rfl, rfl, rfl, by decide +kernel, rfl, by decide +kernel, by decide +kernel⟩
abbrev s_all_layouts : Stmt := top 22
theorem sc_all_layouts : FnScope ["store", "rows", "place", "longer", "row", "left", "name"] ["store"] (defScope s_all_layouts) := ⟨rfl, rfl, rfl, by decide +kernel, rfl, by decide +kernel, by decide +kernel⟩
abbrev s_seen_behind : Stmt := top 23
theorem sc_seen_behind : FnScope ["store", "layout", "door", "name", "edge"] ["store", "layout", "door"] (defScope s_seen_behind) := ⟨rfl, rfl, rfl, by decide +kernel, rfl, by decide +kernel, by decide +kernel⟩
abbrev s_rank : Stmt := top 24
theorem sc_rank : FnScope ["layout", "name"] ["layout"] (defScope s_rank) := ⟨rfl, rfl, rfl, by decide +kernel, rfl, by decide +kernel, by decide +kernel⟩
abbrev s_in_order : Stmt := top 25
theorem sc_in_order : FnScope ["some"] ["some"] (defScope s_in_order) := ⟨rfl, rfl, rfl, by decide +kernel, rfl, by decide +kernel, by decide +kernel⟩
abbrev s_is_crate : Stmt := top 31
theorem sc_is_crate : FnScope ["store", "value"] ["store", "value"] (defScope s_is_crate) := ⟨rfl, rfl, rfl, by decide +kernel, rfl, by decide +kernel, by decide +kernel⟩
abbrev s_is_deed : Stmt := top 32
theorem sc_is_deed : FnScope ["store", "deed", "word", "rest", "name"] ["store", "deed"] (defScope s_is_deed) := ⟨rfl, rfl, rfl, by decide +kernel, rfl, by decide +kernel, by decide +kernel⟩
abbrev s_exchanged : Stmt := top 33
theorem sc_exchanged : FnScope ["layout", "one", "other", "found"] ["layout", "one", "other"] (defScope s_exchanged) := ⟨rfl, rfl, rfl, by decide +kernel, rfl, by decide +kernel, by decide +kernel⟩
abbrev s_put_elsewhere : Stmt := top 34
theorem sc_put_elsewhere : FnScope ["store", "layout", "name", "is_near", "here", "found", "place", "other"] ["store", "layout", "name", "is_near"] (defScope s_put_elsewhere) := ⟨rfl, rfl, rfl, by decide +kernel, rfl, by decide +kernel, by decide +kernel⟩
abbrev s_orders_of : Stmt := top 35
theorem sc_orders_of : FnScope ["things", "found", "place", "thing", "rest", "row"] ["things"] (defScope s_orders_of) := ⟨rfl, rfl, rfl, by decide +kernel, rfl, by decide +kernel, by decide +kernel⟩
abbrev s_shuffled : Stmt := top 36
theorem sc_shuffled : FnScope ["store", "layout", "door", "places", "begin", "end", "row"] ["store", "layout", "door"] (defScope s_shuffled) := ⟨rfl, rfl, rfl, by decide +kernel, rfl, by decide +kernel, by decide +kernel⟩
abbrev s_all_after : Stmt := top 37
theorem sc_all_after : FnScope ["store", "layout", "deed", "word", "rest"] ["store", "layout", "deed"] (defScope s_all_after) := ⟨rfl, rfl, rfl, by decide +kernel, rfl, by decide +kernel, by decide +kernel⟩
abbrev s_is_sighting : Stmt := top 41
theorem sc_is_sighting : FnScope ["store", "value", "name"] ["store", "value"] (defScope s_is_sighting) := ⟨rfl, rfl, rfl, by decide +kernel, rfl, by decide +kernel, by decide +kernel⟩
abbrev s_check_log : Stmt := top 42
theorem sc_check_log : FnScope ["store", "log", "index", "row"] ["store", "log"] (defScope s_check_log) := ⟨rfl, rfl, rfl, by decide +kernel, rfl, by decide +kernel, by decide +kernel⟩
abbrev s_is_so : Stmt := top 43
theorem sc_is_so : FnScope ["store", "layout", "sighting", "word", "door", "seen", "name", "told"] ["store", "layout", "sighting"] (defScope s_is_so) := ⟨rfl, rfl, rfl, by decide +kernel, rfl, by decide +kernel, by decide +kernel⟩
abbrev s_behind_row : Stmt := top 44
theorem sc_behind_row : FnScope ["store", "layout", "row"] ["store", "layout", "row"] (defScope s_behind_row) := ⟨rfl, rfl, rfl, by decide +kernel, rfl, by decide +kernel, by decide +kernel⟩
abbrev s_counts_behind : Stmt := top 45
theorem sc_counts_behind : FnScope ["store", "counts", "log", "row", "later", "layout", "count", "other"] ["store", "counts", "log"] (defScope s_counts_behind) := ⟨rfl, rfl, rfl, by decide +kernel, rfl, by decide +kernel, by decide +kernel⟩
abbrev s_all_now : Stmt := top 46
theorem sc_all_now : FnScope ["store", "log", "layout"] ["store", "log"] (defScope s_all_now) := ⟨rfl, rfl, rfl, by decide +kernel, rfl, by decide +kernel, by decide +kernel⟩
abbrev s_now : Stmt := top 47
theorem sc_now : FnScope ["store", "log"] ["store", "log"] (defScope s_now) := ⟨rfl, rfl, rfl, by decide +kernel, rfl, by decide +kernel, by decide +kernel⟩
abbrev s_need_some : Stmt := top 48
theorem sc_need_some : FnScope ["rows"] ["rows"] (defScope s_need_some) := ⟨rfl, rfl, rfl, by decide +kernel, rfl, by decide +kernel, by decide +kernel⟩
abbrev s_some_now : Stmt := top 49
theorem sc_some_now : FnScope ["store", "log", "rows"] ["store", "log"] (defScope s_some_now) := ⟨rfl, rfl, rfl, by decide +kernel, rfl, by decide +kernel, by decide +kernel⟩
abbrev s_all_steps : Stmt := top 51
theorem sc_all_steps : FnScope ["store", "layout", "found", "here", "name", "place", "other", "doors", "warmth", "door"] ["store", "layout"] (defScope s_all_steps) := ⟨rfl, rfl, rfl, by decide +kernel, rfl, by decide +kernel, by decide +kernel⟩
abbrev s_doors_of : Stmt := top 55
theorem sc_doors_of : FnScope ["store", "layout", "step", "name", "place", "one", "other"] ["store", "layout", "step"] (defScope s_doors_of) := ⟨rfl, rfl, rfl, by decide +kernel, rfl, by decide +kernel, by decide +kernel⟩
abbrev s_Keeper_init : Stmt := inClass (top 56) 0
theorem sc_Keeper_init : FnScope ["self", "store", "log", "layout"] ["self", "store", "log"] (defScope s_Keeper_init) := ⟨rfl, rfl, rfl, by decide +kernel, rfl, by decide +kernel, by decide +kernel⟩
abbrev s_Keeper_layouts_left : Stmt := inClass (top 56) 1
theorem sc_Keeper_layouts_left : FnScope ["self"] ["self"] (defScope s_Keeper_layouts_left) := ⟨rfl, rfl, rfl, by decide +kernel, rfl, by decide +kernel, by decide +kernel⟩
abbrev s_Keeper_seen_so_far : Stmt := inClass (top 56) 2
theorem sc_Keeper_seen_so_far : FnScope ["self"] ["self"] (defScope s_Keeper_seen_so_far) := ⟨rfl, rfl, rfl, by decide +kernel, rfl, by decide +kernel, by decide +kernel⟩
abbrev s_Keeper_narrow : Stmt := inClass (top 56) 3
theorem sc_Keeper_narrow : FnScope ["self", "call", "movers"] ["self", "call", "movers"] (defScope s_Keeper_narrow) := ⟨rfl, rfl, rfl, by decide +kernel, rfl, by decide +kernel, by decide +kernel⟩
abbrev s_Keeper_check_doors : Stmt := inClass (top 56) 4
theorem sc_Keeper_check_doors : FnScope ["self", "seen", "is_good", "door"] ["self", "seen"] (defScope s_Keeper_check_doors) := ⟨rfl, rfl, rfl, by decide +kernel, rfl, by decide +kernel, by decide +kernel⟩
abbrev s_Keeper_saw : Stmt := inClass (top 56) 5
theorem sc_Keeper_saw : FnScope ["self", "seen", "found", "layout", "step", "warmth", "other"] ["self", "seen"] (defScope s_Keeper_saw) := ⟨rfl, rfl, rfl, by decide +kernel, rfl, by decide +kernel, by decide +kernel⟩
abbrev s_Keeper_inspected : Stmt := inClass (top 56) 6
theorem sc_Keeper_inspected : FnScope ["self", "door", "seen", "row", "found", "layout", "names"] ["self", "door", "seen"] (defScope s_Keeper_inspected) := ⟨rfl, rfl, rfl, by decide +kernel, rfl, by decide +kernel, by decide +kernel⟩
abbrev s_Keeper_could_have_moved : Stmt := inClass (top 56) 7
theorem sc_Keeper_could_have_moved : FnScope ["self", "found", "names", "name"] ["self"] (defScope s_Keeper_could_have_moved) := ⟨rfl, rfl, rfl, by decide +kernel, rfl, by decide +kernel, by decide +kernel⟩
abbrev s_Keeper_next_doors : Stmt := inClass (top 56) 8
theorem sc_Keeper_next_doors : FnScope ["self", "found", "layout", "steps", "step", "warmth", "other"] ["self"] (defScope s_Keeper_next_doors) := ⟨rfl, rfl, rfl, by decide +kernel, rfl, by decide +kernel, by decide +kernel⟩
abbrev s_law_taken : Stmt := top 58
theorem sc_law_taken : FnScope ["_law_row", "_law_many", "_law_found", "_law_cell"] ["_law_row", "_law_many"] (defScope s_law_taken) := ⟨rfl, rfl, rfl, by decide +kernel, rfl, by decide +kernel, by decide +kernel⟩
abbrev s_law_pick : Stmt := top 59
theorem sc_law_pick : FnScope ["_law_row", "_law_some"] ["_law_row", "_law_some"] (defScope s_law_pick) := ⟨rfl, rfl, rfl, by decide +kernel, rfl, by decide +kernel, by decide +kernel⟩
abbrev s_law_scheme : Stmt := top 60
theorem sc_law_scheme : FnScope ["_law_row", "_law_most", "_law_crates", "_law_found", "_law_left", "_law_count", "_law_size", "_law_door"] ["_law_row", "_law_most", "_law_crates"] (defScope s_law_scheme) := ⟨rfl, rfl, rfl, by decide +kernel, rfl, by decide +kernel, by decide +kernel⟩
abbrev s_law_store : Stmt := top 61
theorem sc_law_store : FnScope ["_law_s"] ["_law_s"] (defScope s_law_store) := ⟨rfl, rfl, rfl, by decide +kernel, rfl, by decide +kernel, by decide +kernel⟩
abbrev s_law_edges : Stmt := top 62
theorem sc_law_edges : FnScope ["_law_s", "_law_found", "_law_k"] ["_law_s"] (defScope s_law_edges) := ⟨rfl, rfl, rfl, by decide +kernel, rfl, by decide +kernel, by decide +kernel⟩
abbrev s_law_rank : Stmt := top 63
theorem sc_law_rank : FnScope ["_law_layout", "_law_name"] ["_law_layout"] (defScope s_law_rank) := ⟨rfl, rfl, rfl, by decide +kernel, rfl, by decide +kernel, by decide +kernel⟩
abbrev s_law_layouts : Stmt := top 64
theorem sc_law_layouts : FnScope ["_law_s", "_law_size", "_law_found", "_law_turn", "_law_longer", "_law_some", "_law_left", "_law_name", "_law_free", "_law_one"] ["_law_s"] (defScope s_law_layouts) := ⟨rfl, rfl, rfl, by decide +kernel, rfl, by decide +kernel, by decide +kernel⟩
abbrev s_law_seen : Stmt := top 65
theorem sc_law_seen : FnScope ["_law_s", "_law_layout", "_law_door", "_law_edges_here", "_law_k"] ["_law_s", "_law_layout", "_law_door"] (defScope s_law_seen) := ⟨rfl, rfl, rfl, by decide +kernel, rfl, by decide +kernel, by decide +kernel⟩
abbrev s_law_turned : Stmt := top 66
theorem sc_law_turned : FnScope ["_law_layout", "_law_one", "_law_other", "_law_found"] ["_law_layout", "_law_one", "_law_other"] (defScope s_law_turned) := ⟨rfl, rfl, rfl, by decide +kernel, rfl, by decide +kernel, by decide +kernel⟩
abbrev s_law_after : Stmt := top 67
theorem sc_law_after : FnScope ["_law_s", "_law_layout", "_law_deed", "_law_some", "_law_other", "_law_alike", "_law_k", "_law_here", "_law_found"] ["_law_s", "_law_layout", "_law_deed"] (defScope s_law_after) := ⟨rfl, rfl, rfl, by decide +kernel, rfl, by decide +kernel, by decide +kernel⟩
abbrev s_law_is_so : Stmt := top 68
theorem sc_law_is_so : FnScope ["_law_s", "_law_layout", "_law_row", "_law_here", "_law_wrong", "_law_k"] ["_law_s", "_law_layout", "_law_row"] (defScope s_law_is_so) := ⟨rfl, rfl, rfl, by decide +kernel, rfl, by decide +kernel, by decide +kernel⟩
abbrev s_law_counts : Stmt := top 69
theorem sc_law_counts : FnScope ["_law_s", "_law_counts_here", "_law_log", "_law_row", "_law_later", "_law_layout", "_law_some", "_law_other"] ["_law_s", "_law_counts_here", "_law_log"] (defScope s_law_counts) := ⟨rfl, rfl, rfl, by decide +kernel, rfl, by decide +kernel, by decide +kernel⟩
abbrev s_law_now : Stmt := top 70
theorem sc_law_now : FnScope ["_law_s", "_law_log", "_law_one"] ["_law_s", "_law_log"] (defScope s_law_now) := ⟨rfl, rfl, rfl, by decide +kernel, rfl, by decide +kernel, by decide +kernel⟩
abbrev s_law_firsts : Stmt := top 71
theorem sc_law_firsts : FnScope ["_law_pairs", "_law_found", "_law_pair"] ["_law_pairs"] (defScope s_law_firsts) := ⟨rfl, rfl, rfl, by decide +kernel, rfl, by decide +kernel, by decide +kernel⟩
abbrev s_law_moves : Stmt := top 72
theorem sc_law_moves : FnScope ["_law_s", "_law_layout", "_law_edges_here", "_law_found", "_law_name", "_law_here", "_law_k", "_law_doors"] ["_law_s", "_law_layout"] (defScope s_law_moves) := ⟨rfl, rfl, rfl, by decide +kernel, rfl, by decide +kernel, by decide +kernel⟩
abbrev s_law_tells : Stmt := top 73
theorem sc_law_tells : FnScope ["_law_s", "_law_keeper", "_law_pairs", "_law_rows", "_law_pair", "_law_doors", "_law_some", "_law_step"] ["_law_s", "_law_keeper", "_law_pairs", "_law_rows"] (defScope s_law_tells) := ⟨rfl, rfl, rfl, by decide +kernel, rfl, by decide +kernel, by decide +kernel⟩
abbrev s_law : Stmt := top 74
theorem sc_law : FnScope ["_law_script", "_law_row", "_law_s", "_law_layout", "_law_door", "_law_log", "_law_keeper", "_law_told", "_law_pairs", "_law_some", "_law_turn", "_law_steps", "_law_doors", "_law_name", "_law_later", "_law_opened", "_law_one", "_law_other", "_law_call", "_law_count", "_law_seen_here", "_law_pair", "_law_rows"] ["_law_script"] (defScope s_law) := ⟨rfl, rfl, rfl, by decide +kernel, rfl, by decide +kernel, by decide +kernel⟩
end Cc

end

section
set_option Elab.async false
set_option linter.all false
set_option maxRecDepth 100000
set_option maxHeartbeats 4000000
namespace Cc
open PySem PySem.Spec L2

/-! ### the text's objects -/
structure Ad where
  f_is_number : Addr
  d_is_number : FuncData
  f_is_word : Addr
  d_is_word : FuncData
  f_is_door : Addr
  d_is_door : FuncData
  f_are_doors : Addr
  d_are_doors : FuncData
  f_are_crates : Addr
  d_are_crates : FuncData
  f_Store_init : Addr
  d_Store_init : FuncData
  f_Store_doors : Addr
  d_Store_doors : FuncData
  f_Store_crates : Addr
  d_Store_crates : FuncData
  f_Store_size : Addr
  d_Store_size : FuncData
  f_Store_len : Addr
  d_Store_len : FuncData
  f_Store_door_of : Addr
  d_Store_door_of : FuncData
  f_Store_places_of : Addr
  d_Store_places_of : FuncData
  f_all_layouts : Addr
  d_all_layouts : FuncData
  f_seen_behind : Addr
  d_seen_behind : FuncData
  f_rank : Addr
  d_rank : FuncData
  f_in_order : Addr
  d_in_order : FuncData
  f_is_crate : Addr
  d_is_crate : FuncData
  f_exchanged : Addr
  d_exchanged : FuncData
  f_is_sighting : Addr
  d_is_sighting : FuncData
  f_check_log : Addr
  d_check_log : FuncData
  f_is_so : Addr
  d_is_so : FuncData
  f_behind_row : Addr
  d_behind_row : FuncData
  f_counts_behind : Addr
  d_counts_behind : FuncData
  f_all_now : Addr
  d_all_now : FuncData
  f_now : Addr
  d_now : FuncData
  f_need_some : Addr
  d_need_some : FuncData
  f_some_now : Addr
  d_some_now : FuncData
  f_all_steps : Addr
  d_all_steps : FuncData
  f_doors_of : Addr
  d_doors_of : FuncData
  f_Keeper_init : Addr
  d_Keeper_init : FuncData
  f_Keeper_layouts_left : Addr
  d_Keeper_layouts_left : FuncData
  f_Keeper_seen_so_far : Addr
  d_Keeper_seen_so_far : FuncData
  f_Keeper_narrow : Addr
  d_Keeper_narrow : FuncData
  f_Keeper_check_doors : Addr
  d_Keeper_check_doors : FuncData
  f_Keeper_saw : Addr
  d_Keeper_saw : FuncData
  f_Keeper_inspected : Addr
  d_Keeper_inspected : FuncData
  f_Keeper_could_have_moved : Addr
  d_Keeper_could_have_moved : FuncData
  f_Keeper_next_doors : Addr
  d_Keeper_next_doors : FuncData
  f_law_taken : Addr
  d_law_taken : FuncData
  f_law_pick : Addr
  d_law_pick : FuncData
  f_law_scheme : Addr
  d_law_scheme : FuncData
  f_law_store : Addr
  d_law_store : FuncData
  f_law_edges : Addr
  d_law_edges : FuncData
  f_law_rank : Addr
  d_law_rank : FuncData
  f_law_layouts : Addr
  d_law_layouts : FuncData
  f_law_seen : Addr
  d_law_seen : FuncData
  f_law_turned : Addr
  d_law_turned : FuncData
  f_law_is_so : Addr
  d_law_is_so : FuncData
  f_law_counts : Addr
  d_law_counts : FuncData
  f_law_now : Addr
  d_law_now : FuncData
  f_law_firsts : Addr
  d_law_firsts : FuncData
  f_law_moves : Addr
  d_law_moves : FuncData
  f_law_tells : Addr
  d_law_tells : FuncData
  f_law : Addr
  d_law : FuncData
  CS : Addr
  CK : Addr
  pE : Addr
  pP : Addr
  iE : Nat
  iP : Nat
  q_Store_doors : Addr
  q_Store_crates : Addr
  q_Store_size : Addr
  q_Keeper_layouts_left : Addr
  q_Keeper_seen_so_far : Addr
structure Txt (K : PySem.W.Frag) (mg : Str → Option Value) (a : Ad) : Prop where
  F_is_number : Fun K "is_number" "is_number" s_is_number a.f_is_number a.d_is_number
  F_is_word : Fun K "is_word" "is_word" s_is_word a.f_is_word a.d_is_word
  F_is_door : Fun K "is_door" "is_door" s_is_door a.f_is_door a.d_is_door
  F_are_doors : Fun K "are_doors" "are_doors" s_are_doors a.f_are_doors a.d_are_doors
  F_are_crates : Fun K "are_crates" "are_crates" s_are_crates a.f_are_crates a.d_are_crates
  F_Store_init : Fun K "__init__" "Store.__init__" s_Store_init a.f_Store_init a.d_Store_init
  F_Store_doors : Fun K "doors" "Store.doors" s_Store_doors a.f_Store_doors a.d_Store_doors
  F_Store_crates : Fun K "crates" "Store.crates" s_Store_crates a.f_Store_crates a.d_Store_crates
  F_Store_size : Fun K "size" "Store.size" s_Store_size a.f_Store_size a.d_Store_size
  F_Store_len : Fun K "__len__" "Store.__len__" s_Store_len a.f_Store_len a.d_Store_len
  F_Store_door_of : Fun K "door_of" "Store.door_of" s_Store_door_of a.f_Store_door_of a.d_Store_door_of
  F_Store_places_of : Fun K "places_of" "Store.places_of" s_Store_places_of a.f_Store_places_of a.d_Store_places_of
  F_all_layouts : Fun K "all_layouts" "all_layouts" s_all_layouts a.f_all_layouts a.d_all_layouts
  F_seen_behind : Fun K "seen_behind" "seen_behind" s_seen_behind a.f_seen_behind a.d_seen_behind
  F_rank : Fun K "rank" "rank" s_rank a.f_rank a.d_rank
  F_in_order : Fun K "in_order" "in_order" s_in_order a.f_in_order a.d_in_order
  F_is_crate : Fun K "is_crate" "is_crate" s_is_crate a.f_is_crate a.d_is_crate
  F_exchanged : Fun K "exchanged" "exchanged" s_exchanged a.f_exchanged a.d_exchanged
  F_is_sighting : Fun K "is_sighting" "is_sighting" s_is_sighting a.f_is_sighting a.d_is_sighting
  F_check_log : Fun K "check_log" "check_log" s_check_log a.f_check_log a.d_check_log
  F_is_so : Fun K "is_so" "is_so" s_is_so a.f_is_so a.d_is_so
  F_behind_row : Fun K "behind_row" "behind_row" s_behind_row a.f_behind_row a.d_behind_row
  F_counts_behind : Fun K "counts_behind" "counts_behind" s_counts_behind a.f_counts_behind a.d_counts_behind
  F_all_now : Fun K "all_now" "all_now" s_all_now a.f_all_now a.d_all_now
  F_now : Fun K "now" "now" s_now a.f_now a.d_now
  F_need_some : Fun K "need_some" "need_some" s_need_some a.f_need_some a.d_need_some
  F_some_now : Fun K "some_now" "some_now" s_some_now a.f_some_now a.d_some_now
  F_all_steps : Fun K "all_steps" "all_steps" s_all_steps a.f_all_steps a.d_all_steps
  F_doors_of : Fun K "doors_of" "doors_of" s_doors_of a.f_doors_of a.d_doors_of
  F_Keeper_init : Fun K "__init__" "Keeper.__init__" s_Keeper_init a.f_Keeper_init a.d_Keeper_init
  F_Keeper_layouts_left : Fun K "layouts_left" "Keeper.layouts_left" s_Keeper_layouts_left a.f_Keeper_layouts_left a.d_Keeper_layouts_left
  F_Keeper_seen_so_far : Fun K "seen_so_far" "Keeper.seen_so_far" s_Keeper_seen_so_far a.f_Keeper_seen_so_far a.d_Keeper_seen_so_far
  F_Keeper_narrow : Fun K "narrow" "Keeper.narrow" s_Keeper_narrow a.f_Keeper_narrow a.d_Keeper_narrow
  F_Keeper_check_doors : Fun K "check_doors" "Keeper.check_doors" s_Keeper_check_doors a.f_Keeper_check_doors a.d_Keeper_check_doors
  F_Keeper_saw : Fun K "saw" "Keeper.saw" s_Keeper_saw a.f_Keeper_saw a.d_Keeper_saw
  F_Keeper_inspected : Fun K "inspected" "Keeper.inspected" s_Keeper_inspected a.f_Keeper_inspected a.d_Keeper_inspected
  F_Keeper_could_have_moved : Fun K "could_have_moved" "Keeper.could_have_moved" s_Keeper_could_have_moved a.f_Keeper_could_have_moved a.d_Keeper_could_have_moved
  F_Keeper_next_doors : Fun K "next_doors" "Keeper.next_doors" s_Keeper_next_doors a.f_Keeper_next_doors a.d_Keeper_next_doors
  F_law_taken : Fun K "_law_taken" "_law_taken" s_law_taken a.f_law_taken a.d_law_taken
  F_law_pick : Fun K "_law_pick" "_law_pick" s_law_pick a.f_law_pick a.d_law_pick
  F_law_scheme : Fun K "_law_scheme" "_law_scheme" s_law_scheme a.f_law_scheme a.d_law_scheme
  F_law_store : Fun K "_law_store" "_law_store" s_law_store a.f_law_store a.d_law_store
  F_law_edges : Fun K "_law_edges" "_law_edges" s_law_edges a.f_law_edges a.d_law_edges
  F_law_rank : Fun K "_law_rank" "_law_rank" s_law_rank a.f_law_rank a.d_law_rank
  F_law_layouts : Fun K "_law_layouts" "_law_layouts" s_law_layouts a.f_law_layouts a.d_law_layouts
  F_law_seen : Fun K "_law_seen" "_law_seen" s_law_seen a.f_law_seen a.d_law_seen
  F_law_turned : Fun K "_law_turned" "_law_turned" s_law_turned a.f_law_turned a.d_law_turned
  F_law_is_so : Fun K "_law_is_so" "_law_is_so" s_law_is_so a.f_law_is_so a.d_law_is_so
  F_law_counts : Fun K "_law_counts" "_law_counts" s_law_counts a.f_law_counts a.d_law_counts
  F_law_now : Fun K "_law_now" "_law_now" s_law_now a.f_law_now a.d_law_now
  F_law_firsts : Fun K "_law_firsts" "_law_firsts" s_law_firsts a.f_law_firsts a.d_law_firsts
  F_law_moves : Fun K "_law_moves" "_law_moves" s_law_moves a.f_law_moves a.d_law_moves
  F_law_tells : Fun K "_law_tells" "_law_tells" s_law_tells a.f_law_tells a.d_law_tells
  F_law : Fun K "law" "law" s_law a.f_law a.d_law
  m_is_number : mg "is_number" = some (.ref a.f_is_number)
  m_is_word : mg "is_word" = some (.ref a.f_is_word)
  m_is_door : mg "is_door" = some (.ref a.f_is_door)
  m_are_doors : mg "are_doors" = some (.ref a.f_are_doors)
  m_are_crates : mg "are_crates" = some (.ref a.f_are_crates)
  m_all_layouts : mg "all_layouts" = some (.ref a.f_all_layouts)
  m_seen_behind : mg "seen_behind" = some (.ref a.f_seen_behind)
  m_rank : mg "rank" = some (.ref a.f_rank)
  m_in_order : mg "in_order" = some (.ref a.f_in_order)
  m_is_crate : mg "is_crate" = some (.ref a.f_is_crate)
  m_exchanged : mg "exchanged" = some (.ref a.f_exchanged)
  m_is_sighting : mg "is_sighting" = some (.ref a.f_is_sighting)
  m_check_log : mg "check_log" = some (.ref a.f_check_log)
  m_is_so : mg "is_so" = some (.ref a.f_is_so)
  m_behind_row : mg "behind_row" = some (.ref a.f_behind_row)
  m_counts_behind : mg "counts_behind" = some (.ref a.f_counts_behind)
  m_all_now : mg "all_now" = some (.ref a.f_all_now)
  m_now : mg "now" = some (.ref a.f_now)
  m_need_some : mg "need_some" = some (.ref a.f_need_some)
  m_some_now : mg "some_now" = some (.ref a.f_some_now)
  m_all_steps : mg "all_steps" = some (.ref a.f_all_steps)
  m_doors_of : mg "doors_of" = some (.ref a.f_doors_of)
  m_law_taken : mg "_law_taken" = some (.ref a.f_law_taken)
  m_law_pick : mg "_law_pick" = some (.ref a.f_law_pick)
  m_law_scheme : mg "_law_scheme" = some (.ref a.f_law_scheme)
  m_law_store : mg "_law_store" = some (.ref a.f_law_store)
  m_law_edges : mg "_law_edges" = some (.ref a.f_law_edges)
  m_law_rank : mg "_law_rank" = some (.ref a.f_law_rank)
  m_law_layouts : mg "_law_layouts" = some (.ref a.f_law_layouts)
  m_law_seen : mg "_law_seen" = some (.ref a.f_law_seen)
  m_law_turned : mg "_law_turned" = some (.ref a.f_law_turned)
  m_law_is_so : mg "_law_is_so" = some (.ref a.f_law_is_so)
  m_law_counts : mg "_law_counts" = some (.ref a.f_law_counts)
  m_law_now : mg "_law_now" = some (.ref a.f_law_now)
  m_law_firsts : mg "_law_firsts" = some (.ref a.f_law_firsts)
  m_law_moves : mg "_law_moves" = some (.ref a.f_law_moves)
  m_law_tells : mg "_law_tells" = some (.ref a.f_law_tells)
  m_law : mg "law" = some (.ref a.f_law)
  c_LETTERS : ∃ u, mg "LETTERS" = some u ∧ RelV (.str "abcdefghijklmnopqrstuvwxyz") u
  c_MAX_LETTERS : ∃ u, mg "MAX_LETTERS" = some u ∧ RelV (.int 8) u
  c_MAX_DOORS : ∃ u, mg "MAX_DOORS" = some u ∧ RelV (.int 4) u
  c_MAX_WARMTH : ∃ u, mg "MAX_WARMTH" = some u ∧ RelV (.int 99) u
  c_MAX_BEHIND : ∃ u, mg "MAX_BEHIND" = some u ∧ RelV (.int 4) u
  c_MAX_PLACES : ∃ u, mg "MAX_PLACES" = some u ∧ RelV (.int 6) u
  c_MAX_CRATES : ∃ u, mg "MAX_CRATES" = some u ∧ RelV (.int 5) u
  c_OPEN : ∃ u, mg "OPEN" = some u ∧ RelV (.str "open") u
  c_FROSTED : ∃ u, mg "FROSTED" = some u ∧ RelV (.str "?") u
  c_SAW : ∃ u, mg "SAW" = some u ∧ RelV (.str "saw") u
  c_INSPECTED : ∃ u, mg "INSPECTED" = some u ∧ RelV (.str "inspected") u
  z_len : mg "len" = none
  z_isinstance : mg "isinstance" = none
  z_all : mg "all" = none
  z_sum : mg "sum" = none
  z_min : mg "min" = none
  z_tuple : mg "tuple" = none
  z_zip : mg "zip" = none
  z_enumerate : mg "enumerate" = none
  z_range : mg "range" = none
  z_sorted : mg "sorted" = none
  z_list : mg "list" = none
  z_dict : mg "dict" = none
  z_set : mg "set" = none
  z_int : mg "int" = none
  z_str : mg "str" = none
  z_bool : mg "bool" = none
  mS : mg "Store" = some (.ref a.CS)
  mK : mg "Keeper" = some (.ref a.CK)
  clS : SlX.SCls K a.CS
  slE : SlX.Slot1 K a.CS "edges" a.pE a.iE
  slP : SlX.Slot1 K a.CS "parts" a.pP a.iP
  ixE : a.iE = 0
  ixP : a.iP = 1
  mkS : Mk K a.CS a.f_Store_init
  mkK : Mk K a.CK a.f_Keeper_init
  clK : Cls K a.CK
  lenS : PySem.W.findIn K (.ref a.CS) "__len__" = some (some (.ref a.f_Store_len))
  lenF : PySem.W.isFn K (.ref a.f_Store_len) = true
  t_Store_door_of : Meth K a.CS "door_of" a.f_Store_door_of
  t_Store_places_of : Meth K a.CS "places_of" a.f_Store_places_of
  t_Keeper_narrow : Meth K a.CK "narrow" a.f_Keeper_narrow
  t_Keeper_check_doors : Meth K a.CK "check_doors" a.f_Keeper_check_doors
  t_Keeper_saw : Meth K a.CK "saw" a.f_Keeper_saw
  t_Keeper_inspected : Meth K a.CK "inspected" a.f_Keeper_inspected
  t_Keeper_could_have_moved : Meth K a.CK "could_have_moved" a.f_Keeper_could_have_moved
  t_Keeper_next_doors : Meth K a.CK "next_doors" a.f_Keeper_next_doors
  p_Store_doors : PropOf K a.CS "doors" a.q_Store_doors a.f_Store_doors
  p_Store_crates : PropOf K a.CS "crates" a.q_Store_crates a.f_Store_crates
  p_Store_size : PropOf K a.CS "size" a.q_Store_size a.f_Store_size
  p_Keeper_layouts_left : PropOf K a.CK "layouts_left" a.q_Keeper_layouts_left a.f_Keeper_layouts_left
  p_Keeper_seen_so_far : PropOf K a.CK "seen_so_far" a.q_Keeper_seen_so_far a.f_Keeper_seen_so_far
  n_base : NoAttr K a.CK "base"
  n_movers : NoAttr K a.CK "movers"
  n_accepted : NoAttr K a.CK "accepted"
section
variable {K : PySem.W.Frag} {mg : Str → Option Value} {a : Ad}
theorem Txt.b_is_number (T : Txt K mg a) : Binds K a.d_is_number ["value", "smallest", "largest"] [] := T.F_is_number.binds fun _ _ _ _ _ _ us hl => match us, hl with | [_, _, _], _ => rfl
theorem Txt.b_is_word (T : Txt K mg a) : Binds K a.d_is_word ["value"] [] := T.F_is_word.binds fun _ _ _ _ _ _ us hl => match us, hl with | [_], _ => rfl
theorem Txt.b_is_door (T : Txt K mg a) : Binds K a.d_is_door ["value"] [] := T.F_is_door.binds fun _ _ _ _ _ _ us hl => match us, hl with | [_], _ => rfl
theorem Txt.b_are_doors (T : Txt K mg a) : Binds K a.d_are_doors ["row"] [] := T.F_are_doors.binds fun _ _ _ _ _ _ us hl => match us, hl with | [_], _ => rfl
theorem Txt.b_are_crates (T : Txt K mg a) : Binds K a.d_are_crates ["row", "places"] [] := T.F_are_crates.binds fun _ _ _ _ _ _ us hl => match us, hl with | [_, _], _ => rfl
theorem Txt.b_Store_init (T : Txt K mg a) : Binds K a.d_Store_init ["self", "doors", "crates"] [] := T.F_Store_init.binds fun _ _ _ _ _ _ us hl => match us, hl with | [_, _, _], _ => rfl
theorem Txt.b_Store_doors (T : Txt K mg a) : Binds K a.d_Store_doors ["self"] [] := T.F_Store_doors.binds fun _ _ _ _ _ _ us hl => match us, hl with | [_], _ => rfl
theorem Txt.b_Store_crates (T : Txt K mg a) : Binds K a.d_Store_crates ["self"] [] := T.F_Store_crates.binds fun _ _ _ _ _ _ us hl => match us, hl with | [_], _ => rfl
theorem Txt.b_Store_size (T : Txt K mg a) : Binds K a.d_Store_size ["self"] [] := T.F_Store_size.binds fun _ _ _ _ _ _ us hl => match us, hl with | [_], _ => rfl
theorem Txt.b_Store_len (T : Txt K mg a) : Binds K a.d_Store_len ["self"] [] := T.F_Store_len.binds fun _ _ _ _ _ _ us hl => match us, hl with | [_], _ => rfl
theorem Txt.b_Store_door_of (T : Txt K mg a) : Binds K a.d_Store_door_of ["self", "place"] [] := T.F_Store_door_of.binds fun _ _ _ _ _ _ us hl => match us, hl with | [_, _], _ => rfl
theorem Txt.b_Store_places_of (T : Txt K mg a) : Binds K a.d_Store_places_of ["self", "door"] [] := T.F_Store_places_of.binds fun _ _ _ _ _ _ us hl => match us, hl with | [_, _], _ => rfl
theorem Txt.b_all_layouts (T : Txt K mg a) : Binds K a.d_all_layouts ["store"] [] := T.F_all_layouts.binds fun _ _ _ _ _ _ us hl => match us, hl with | [_], _ => rfl
theorem Txt.b_seen_behind (T : Txt K mg a) : Binds K a.d_seen_behind ["store", "layout", "door"] [] := T.F_seen_behind.binds fun _ _ _ _ _ _ us hl => match us, hl with | [_, _, _], _ => rfl
theorem Txt.b_rank (T : Txt K mg a) : Binds K a.d_rank ["layout"] [] := T.F_rank.binds fun _ _ _ _ _ _ us hl => match us, hl with | [_], _ => rfl
theorem Txt.b_in_order (T : Txt K mg a) : Binds K a.d_in_order ["some"] [] := T.F_in_order.binds fun _ _ _ _ _ _ us hl => match us, hl with | [_], _ => rfl
theorem Txt.b_is_crate (T : Txt K mg a) : Binds K a.d_is_crate ["store", "value"] [] := T.F_is_crate.binds fun _ _ _ _ _ _ us hl => match us, hl with | [_, _], _ => rfl
theorem Txt.b_exchanged (T : Txt K mg a) : Binds K a.d_exchanged ["layout", "one", "other"] [] := T.F_exchanged.binds fun _ _ _ _ _ _ us hl => match us, hl with | [_, _, _], _ => rfl
theorem Txt.b_is_sighting (T : Txt K mg a) : Binds K a.d_is_sighting ["store", "value"] [] := T.F_is_sighting.binds fun _ _ _ _ _ _ us hl => match us, hl with | [_, _], _ => rfl
theorem Txt.b_check_log (T : Txt K mg a) : Binds K a.d_check_log ["store", "log"] [] := T.F_check_log.binds fun _ _ _ _ _ _ us hl => match us, hl with | [_, _], _ => rfl
theorem Txt.b_is_so (T : Txt K mg a) : Binds K a.d_is_so ["store", "layout", "sighting"] [] := T.F_is_so.binds fun _ _ _ _ _ _ us hl => match us, hl with | [_, _, _], _ => rfl
theorem Txt.b_behind_row (T : Txt K mg a) : Binds K a.d_behind_row ["store", "layout", "row"] [] := T.F_behind_row.binds fun _ _ _ _ _ _ us hl => match us, hl with | [_, _, _], _ => rfl
theorem Txt.b_counts_behind (T : Txt K mg a) : Binds K a.d_counts_behind ["store", "counts", "log"] [] := T.F_counts_behind.binds fun _ _ _ _ _ _ us hl => match us, hl with | [_, _, _], _ => rfl
theorem Txt.b_all_now (T : Txt K mg a) : Binds K a.d_all_now ["store", "log"] [] := T.F_all_now.binds fun _ _ _ _ _ _ us hl => match us, hl with | [_, _], _ => rfl
theorem Txt.b_now (T : Txt K mg a) : Binds K a.d_now ["store", "log"] [] := T.F_now.binds fun _ _ _ _ _ _ us hl => match us, hl with | [_, _], _ => rfl
theorem Txt.b_need_some (T : Txt K mg a) : Binds K a.d_need_some ["rows"] [] := T.F_need_some.binds fun _ _ _ _ _ _ us hl => match us, hl with | [_], _ => rfl
theorem Txt.b_some_now (T : Txt K mg a) : Binds K a.d_some_now ["store", "log"] [] := T.F_some_now.binds fun _ _ _ _ _ _ us hl => match us, hl with | [_, _], _ => rfl
theorem Txt.b_all_steps (T : Txt K mg a) : Binds K a.d_all_steps ["store", "layout"] [] := T.F_all_steps.binds fun _ _ _ _ _ _ us hl => match us, hl with | [_, _], _ => rfl
theorem Txt.b_doors_of (T : Txt K mg a) : Binds K a.d_doors_of ["store", "layout", "step"] [] := T.F_doors_of.binds fun _ _ _ _ _ _ us hl => match us, hl with | [_, _, _], _ => rfl
theorem Txt.b_Keeper_init (T : Txt K mg a) : Binds K a.d_Keeper_init ["self", "store", "log"] [] := T.F_Keeper_init.binds fun _ _ _ _ _ _ us hl => match us, hl with | [_, _, _], _ => rfl
theorem Txt.b_Keeper_layouts_left (T : Txt K mg a) : Binds K a.d_Keeper_layouts_left ["self"] [] := T.F_Keeper_layouts_left.binds fun _ _ _ _ _ _ us hl => match us, hl with | [_], _ => rfl
theorem Txt.b_Keeper_seen_so_far (T : Txt K mg a) : Binds K a.d_Keeper_seen_so_far ["self"] [] := T.F_Keeper_seen_so_far.binds fun _ _ _ _ _ _ us hl => match us, hl with | [_], _ => rfl
theorem Txt.b_Keeper_narrow (T : Txt K mg a) : Binds K a.d_Keeper_narrow ["self", "call", "movers"] [] := T.F_Keeper_narrow.binds fun _ _ _ _ _ _ us hl => match us, hl with | [_, _, _], _ => rfl
theorem Txt.b_Keeper_check_doors (T : Txt K mg a) : Binds K a.d_Keeper_check_doors ["self", "seen"] [] := T.F_Keeper_check_doors.binds fun _ _ _ _ _ _ us hl => match us, hl with | [_, _], _ => rfl
theorem Txt.b_Keeper_saw (T : Txt K mg a) : Binds K a.d_Keeper_saw ["self", "seen"] [] := T.F_Keeper_saw.binds fun _ _ _ _ _ _ us hl => match us, hl with | [_, _], _ => rfl
theorem Txt.b_Keeper_inspected (T : Txt K mg a) : Binds K a.d_Keeper_inspected ["self", "door", "seen"] [] := T.F_Keeper_inspected.binds fun _ _ _ _ _ _ us hl => match us, hl with | [_, _, _], _ => rfl
theorem Txt.b_Keeper_could_have_moved (T : Txt K mg a) : Binds K a.d_Keeper_could_have_moved ["self"] [] := T.F_Keeper_could_have_moved.binds fun _ _ _ _ _ _ us hl => match us, hl with | [_], _ => rfl
theorem Txt.b_Keeper_next_doors (T : Txt K mg a) : Binds K a.d_Keeper_next_doors ["self"] [] := T.F_Keeper_next_doors.binds fun _ _ _ _ _ _ us hl => match us, hl with | [_], _ => rfl
theorem Txt.b_law_taken (T : Txt K mg a) : Binds K a.d_law_taken ["_law_row", "_law_many"] [] := T.F_law_taken.binds fun _ _ _ _ _ _ us hl => match us, hl with | [_, _], _ => rfl
theorem Txt.b_law_pick (T : Txt K mg a) : Binds K a.d_law_pick ["_law_row", "_law_some"] [] := T.F_law_pick.binds fun _ _ _ _ _ _ us hl => match us, hl with | [_, _], _ => rfl
theorem Txt.b_law_scheme (T : Txt K mg a) : Binds K a.d_law_scheme ["_law_row", "_law_most", "_law_crates"] [] := T.F_law_scheme.binds fun _ _ _ _ _ _ us hl => match us, hl with | [_, _, _], _ => rfl
theorem Txt.b_law_store (T : Txt K mg a) : Binds K a.d_law_store ["_law_s"] [] := T.F_law_store.binds fun _ _ _ _ _ _ us hl => match us, hl with | [_], _ => rfl
theorem Txt.b_law_edges (T : Txt K mg a) : Binds K a.d_law_edges ["_law_s"] [] := T.F_law_edges.binds fun _ _ _ _ _ _ us hl => match us, hl with | [_], _ => rfl
theorem Txt.b_law_rank (T : Txt K mg a) : Binds K a.d_law_rank ["_law_layout"] [] := T.F_law_rank.binds fun _ _ _ _ _ _ us hl => match us, hl with | [_], _ => rfl
theorem Txt.b_law_layouts (T : Txt K mg a) : Binds K a.d_law_layouts ["_law_s"] [] := T.F_law_layouts.binds fun _ _ _ _ _ _ us hl => match us, hl with | [_], _ => rfl
theorem Txt.b_law_seen (T : Txt K mg a) : Binds K a.d_law_seen ["_law_s", "_law_layout", "_law_door"] [] := T.F_law_seen.binds fun _ _ _ _ _ _ us hl => match us, hl with | [_, _, _], _ => rfl
theorem Txt.b_law_turned (T : Txt K mg a) : Binds K a.d_law_turned ["_law_layout", "_law_one", "_law_other"] [] := T.F_law_turned.binds fun _ _ _ _ _ _ us hl => match us, hl with | [_, _, _], _ => rfl
theorem Txt.b_law_is_so (T : Txt K mg a) : Binds K a.d_law_is_so ["_law_s", "_law_layout", "_law_row"] [] := T.F_law_is_so.binds fun _ _ _ _ _ _ us hl => match us, hl with | [_, _, _], _ => rfl
theorem Txt.b_law_counts (T : Txt K mg a) : Binds K a.d_law_counts ["_law_s", "_law_counts_here", "_law_log"] [] := T.F_law_counts.binds fun _ _ _ _ _ _ us hl => match us, hl with | [_, _, _], _ => rfl
theorem Txt.b_law_now (T : Txt K mg a) : Binds K a.d_law_now ["_law_s", "_law_log"] [] := T.F_law_now.binds fun _ _ _ _ _ _ us hl => match us, hl with | [_, _], _ => rfl
theorem Txt.b_law_firsts (T : Txt K mg a) : Binds K a.d_law_firsts ["_law_pairs"] [] := T.F_law_firsts.binds fun _ _ _ _ _ _ us hl => match us, hl with | [_], _ => rfl
theorem Txt.b_law_moves (T : Txt K mg a) : Binds K a.d_law_moves ["_law_s", "_law_layout"] [] := T.F_law_moves.binds fun _ _ _ _ _ _ us hl => match us, hl with | [_, _], _ => rfl
theorem Txt.b_law_tells (T : Txt K mg a) : Binds K a.d_law_tells ["_law_s", "_law_keeper", "_law_pairs", "_law_rows"] [] := T.F_law_tells.binds fun _ _ _ _ _ _ us hl => match us, hl with | [_, _, _, _], _ => rfl
theorem Txt.b_law (T : Txt K mg a) : Binds K a.d_law ["_law_script"] [] := T.F_law.binds fun _ _ _ _ _ _ us hl => match us, hl with | [_], _ => rfl
end
end Cc

end

section
set_option Elab.async false
set_option linter.all false
set_option maxRecDepth 100000
set_option maxHeartbeats 4000000
namespace Cc
open PySem PySem.Spec L2

/-! ### enumerate(tuple) -/
theorem new_enumT (l : Addr) (items : Array Value) :
    Meets (Builtin.«enumerate.__new__» ⟨[.type "enumerate", .ref l], []⟩) (fun _ R s => s.heap.IsTuple l items ∧
      R (.ok (.ret (.ref (s.heap.push { cls := .type "tuple_iterator", data := .fields #[.ref l, .int 0 0] }).objs.size)))
        { s with heap := (s.heap.push { cls := .type "tuple_iterator", data := .fields #[.ref l, .int 0 0] }).push { cls := .type "enumerate", data := .fields #[.none, .bool false, .ref s.heap.objs.size, rawInt 0, .none, .none] } }) :=
  .of_wp fun prog w A R s h => by
    obtain ⟨hp, g, d, tk, os⟩ := s; obtain ⟨h1, h⟩ := h
    have hsub := sub_enumerate
    have q1 : ∀ {A' : Around} {E : Value → Shared → Prop} {Q : Value → Shared → Prop}, Q (.ref hp.objs.size) ⟨hp.push { cls := .type "tuple_iterator", data := .fields #[.ref l, .int 0 0] }, g, d, tk, os⟩ → wpAny (model prog w) A' (pyIter (.ref l)) Q E ⟨hp, g, d, tk, os⟩ :=
      fun q => (begins_tuple l items).iter prog w _ _ ⟨hp, g, d, tk, os⟩ _ h1 q
    wp_walk using q1
    refine wpAny_stack_any fun st => wpAny_pure ?_
    split
    · rename_i c _ _ _ _ _
      cases (c == Value.type "enumerate")
      · wp_walk using q1
        exact ⟨_, rfl, h⟩
      · wp_walk using q1
        exact ⟨_, rfl, h⟩
    · wp_walk using q1
      exact ⟨_, rfl, h⟩
theorem call_enumT {prog : Program} {w : World} {A : Around} {E : Value → Shared → Prop} {s : Shared} {l : Addr} {items : Array Value} {Q : Value → Shared → Prop} (hL : s.heap.IsTuple l items)
    (h : ∀ h', IsEnum h' (s.heap.objs.size + 1) s.heap.objs.size 0 .none → h'.IsTupleIter s.heap.objs.size l 0 → h'.objs.size = s.heap.objs.size + 2 →
      (∀ b o, s.heap.get? b = some o → h'.get? b = some o) → Q (.ref (s.heap.objs.size + 1)) { s with heap := h' }) :
    wpAny (model prog w) A (call (.type "enumerate") [.ref l]) Q E s := by
  refine callType_new F.called_enumerate (by decide) (F.typeCall_enumerate_1 _) (F.newCall_enumerate_1 _) (fun obj => F.args_object_init_2 obj _) F.entry_enumerate_new
    (new_enumT l items) ⟨hL, ?_⟩
  have hz : (s.heap.push { cls := .type "tuple_iterator", data := .fields #[.ref l, .int 0 0] }).objs.size = s.heap.objs.size + 1 := Heap.size_push ..
  show _ ∧ _
  rw [hz]
  have he : IsEnum ((s.heap.push { cls := .type "tuple_iterator", data := .fields #[.ref l, .int 0 0] }).push
      { cls := .type "enumerate", data := .fields #[.none, .bool false, .ref s.heap.objs.size, rawInt 0, .none, .none] }) (s.heap.objs.size + 1) s.heap.objs.size 0 .none := by
    have := Heap.get?_push_size (s.heap.push { cls := .type "tuple_iterator", data := .fields #[.ref l, .int 0 0] })
      (o := { cls := .type "enumerate", data := .fields #[.none, .bool false, .ref s.heap.objs.size, rawInt 0, .none, .none] }) rfl
    rw [hz] at this; exact this
  refine ⟨⟨_, he, rfl⟩, h _ he ⟨_, Heap.get?_push_of_some _ (Heap.get?_push_size _ rfl), rfl, rfl⟩ (by rw [Heap.size_push, hz]) fun b o x => Heap.get?_push_of_some _ (Heap.get?_push_of_some _ x)⟩
/-- the tuple at a as it stands at each turn, each item in a new pair -/
def IteT (K : PySem.W.Frag) (a : Addr) : It :=
  ⟨fun i H => ∃ (xs : List V) (x : V), SqT K H a xs ∧ xs[i]? = some x, fun i H v H' => ∃ T x, v = .ref T ∧ H T = none ∧ H' = upd H T (.tup [.int (i : Nat), x]) ∧ ∀ xs, SqT K H a xs → xs[i]? = some x, fun i H => ∃ xs : List V, SqT K H a xs ∧ xs.length ≤ i⟩
theorem tupIter_ne {h : Heap} {it a : Addr} {i : Nat} {items : Array Value} (h1 : h.IsTupleIter it a i) (h2 : h.IsTuple a items) : a ≠ it := fun z => by
  obtain ⟨o, e1, c1, _⟩ := h1
  obtain ⟨o', e2, c2, _⟩ := h2
  rw [z, e1] at e2
  cases e2
  rw [c1] at c2
  injection c2 with c2
  revert c2
  decide
theorem turn_enumT {P : Program} {w : World} {K : PySem.W.Frag} {elts : List Expr} {kk : Nat} {tpos : Pos} (a e it : Addr) :
    Turn P w K (.Tuple elts kk tpos) (IteT K a) [e, it] e (fun i h => (∃ old, IsEnum h e it ((i : Nat) : Int) old) ∧ h.IsTupleIter it a i ∧ e ≠ it) where
  mem := by simp
  obj := fun i h st b hb => by
    obtain ⟨⟨old, he⟩, ⟨o, ho, hc, hd⟩, _⟩ := st
    have e' : b = e ∨ b = it := by simpa using hb
    rcases e' with z | z
    · rw [z]; exact ⟨_, he, fun v q => nomatch q⟩
    · rw [z]; exact ⟨o, ho, fun v q => by rw [hd] at q; cases q⟩
  keep := fun i h h' st k => let ⟨⟨old, he⟩, hi, hne⟩ := st; ⟨⟨old, k e (by simp) _ he⟩, hi.at fun o q => k it (by simp) o q, hne⟩
  item := by
    intro X hP hw hK hc i pins s σ H E I hf st hg
    subst hP hw hK
    obtain ⟨⟨old, he⟩, hit, hne⟩ := st
    obtain ⟨xs, x, hq, hx⟩ := hg
    obtain ⟨its, rv, p, hz⟩ := I.tuple hq
    obtain ⟨u, hu, ru⟩ := rv.get hx
    have pT : s.heap.IsTuple a its.toArray := p
    have hai : a ≠ it := tupIter_ne hit pT
    have hel : e < s.heap.objs.size := Heap.lt_size he
    have hil : it < s.heap.objs.size := by obtain ⟨_, q, _⟩ := hit; exact Heap.lt_size q
    have hea : e ∉ [it, a] := by
      intro z
      rcases (by simpa using z : e = it ∨ e = a) with z | z
      · exact hne z
      · obtain ⟨o, e1, c1, _⟩ := pT
        rw [← z, he] at e1
        cases e1
        injection c1 with c1
        revert c1
        decide
    refine wpAny_pyNext_enum_itemC (Draws.tuple (A := X.A.in1) (I.ok.hd hc) it a hai its.toArray) he ⟨hit, pT⟩ (by have := rv.length; have := (List.getElem?_eq_some_iff.mp hx).1; rw [List.size_toArray]; omega) hne hea fun x' h' tk hP ho hst' hT hsz hk => ?_
    obtain rfl : x' = u := by
      rw [List.getElem?_toArray, hu] at hP
      exact (Option.some.inj hP).symm
    refine ⟨_, rfl, wpAny_letOwnedTupleGo_enum (s := { s with heap := h', toks := tk + 1 }) ho fun h'' he' sb => ?_⟩
    have hT2 : h''.get? s.heap.objs.size = some { cls := .type "tuple", data := .seq #[.int i tk, x'] } := (sb.2 _ (Nat.ne_of_gt hel)).trans hT
    have new : ObjOk X.prog X.w (upd H s.heap.objs.size (.tup [.int (i : Nat), x])) h'' s.heap.objs.size (.tup [.int (i : Nat), x]) :=
      ⟨by show 2 ≤ sizeLine; decide, [.int i tk, x'], .cons ⟨_, rfl⟩ (.cons ru .nil), ⟨_, hT2, rfl, _, rfl⟩⟩
    have I1 : Inv X pins σ (upd H s.heap.objs.size (.tup [.int (i : Nat), x])) { s with heap := h'', toks := tk + 1 } :=
      I.turnedNew (ch := [e, it]) (fun b ob hb q => (sb.2 b (fun z => hb (by simp [z]))).trans (hk b ob (fun z => hb (by simp [z])) (fun z => hb (by simp [z])) q)) hf (Nat.le_refl _) new
    refine ⟨.ref s.heap.objs.size, _, I1, rfl, ⟨_, x, rfl, I.hok.fresh (Nat.le_refl _), rfl, fun ys hy => by rw [I.tuple_inj hy hq]; exact hx⟩, ⟨⟨x', ?_⟩, hst'.1.at fun o q => (sb.2 it (Ne.symm hne)).trans q, hne⟩, fun b hb => ?_⟩
    · have e1 : ((i + 1 : Nat) : Int) = (i : Int) + 1 := by omega
      rw [e1]; exact he'
    · have hb' : b < s.heap.objs.size := by
        have e' : b = e ∨ b = it := by simpa using hb
        rcases e' with z | z
        · rw [z]; exact hel
        · rw [z]; exact hil
      rw [upd_ne (Nat.ne_of_lt hb')]
      exact (hf b hb).1
  done := by
    intro X hP hw hK hc i pins s σ H E I hf st hg
    subst hP hw hK
    obtain ⟨⟨old, he⟩, hit, hne⟩ := st
    obtain ⟨xs, hq, hx⟩ := hg
    obtain ⟨its, rv, p, hz⟩ := I.tuple hq
    have pT : s.heap.IsTuple a its.toArray := p
    obtain ⟨f0, f1, f2, f3, f4, f5⟩ := hf it (by simp)
    have hl := rv.length
    have hT : s.TypeIs (.ref e) "enumerate" := ⟨_, he, rfl⟩
    unfold pyNext
    refine wpAny_bind (wpAny_attempt (wpAny_callSpecial?_slot (name := Str.ofString "__next__") hT F.slot_enumerate_next
      (wpAny_call_entry F.slot_enumerate_next hT F.entry_enumerate_next ?_ (F.args_enumerate_next_1 _))))
    show wpAny _ _ (field (.ref e) 2 >>= _) _ _ _
    refine wpAny_bind (wpAny_field he rfl (x := .ref it) rfl ?_)
    refine wpAny_bind (wpAny_nextOf_tuple_end (A := X.A.in1) (I.ok.hd hc) hit pT (by simp; omega) fun h' x he' hx' => ?_)
    obtain ⟨o, ho, hc'⟩ := hx'
    refine wpAny_bind (wpAny_isInstance (T := "StopIteration") (b := true) ⟨o, ho, hc'⟩ isSubtype_stop ?_)
    exact wpAny_pure ⟨rfl, I.turned (t' := s.toks) (fun b o hb q => he' b o hb q) f0 f1 f3 f4 f5⟩
  self := fun A i s Q E st h => let ⟨⟨_, he⟩, _⟩ := st; wpAny_pyIter_enum he h
def iEnumT (K : PySem.W.Frag) (ta : TA) : TI := fun σ H R => ta σ H fun vs H1 => ∃ a xs, vs = [.ref a] ∧ SqT K H1 a xs ∧ R (IteT K a) H1
theorem pi_enumT {X : Cx} {e : Expr} {ta : TA} {p pos tpos : Pos} {elts : List Expr} {kk : Nat} (hg : Gl X "enumerate") (hm : X.mg "enumerate" = none) (ha : PA X [e] ta) (hs : starEach [e] X.env = [(false, eval e X.env)] := by rfl) :
    PI X (.Tuple elts kk tpos) (.Call (.Name "enumerate" p) [e] [] pos) (iEnumT X.K ta) := by
  refine ⟨fun pins s σ H R I h => ?_⟩
  refine PyProof.Rows.Call_ (ld_blt I hg hm PyProof.Rows.boot_enumerate (PyProof.Rows.callWith_type1 (thn (ha.run pos pins s σ H _ I h) fun us s1 ⟨vs, H1, I1, r1, q1⟩ => ?_) hs rfl))
  obtain ⟨a, xs, ex, hq, q⟩ := q1
  subst ex
  cases r1 with
  | cons r rr =>
    cases rr
    cases r
    obtain ⟨its, rv, p', hz⟩ := I1.tuple hq
    refine call_enumT (show s1.heap.IsTuple a its.toArray from p') fun h' he hit hsz hk => wpAny_pyIter_enum he ?_
    have I2 : Inv X pins σ H1 { s1 with heap := h' } := I1.kept (t' := s1.toks) hk
    refine ⟨s1.heap.objs.size + 1, [s1.heap.objs.size + 1, s1.heap.objs.size], _, _, H1, rfl, I2, turn_enumT a (s1.heap.objs.size + 1) s1.heap.objs.size, ⟨⟨.none, he⟩, hit, Nat.succ_ne_self _⟩, fun b hb => ?_, q⟩
    have e' : b = s1.heap.objs.size + 1 ∨ b = s1.heap.objs.size := by simpa using hb
    have hle : s1.heap.objs.size ≤ b := by
      rcases e' with z | z
      · rw [z]; exact Nat.le_add_right _ _
      · rw [z]; exact Nat.le_refl _
    exact I1.fpOk hle (I1.hok.fresh hle)
section
variable {K : PySem.W.Frag} {a b : Addr} {xs ys : List V}
theorem walk_enumT : Walk (IteT K a) xs.length (fun H => SqT K H a xs) (YPair (fun i => some (.int (i : Nat))) (fun i => xs[i]?)) := by
  refine ⟨fun i _ hi q => ⟨xs, xs[i], q, by simp [hi]⟩, fun _ q => ⟨xs, q, Nat.le_refl _⟩, fun i H v H' _ q y => ?_⟩
  obtain ⟨T, x, h1, h2, h3, h4⟩ := y
  exact ⟨T, .int (i : Nat), x, h1, h2, h3, rfl, h4 xs q⟩
theorem walk_zipT {n : Nat} (hn : n = min xs.length ys.length) : Walk (RZ.ItzT K a b) n (fun H => SqT K H a xs ∧ SqT K H b ys) (YPair (fun i => xs[i]?) (fun i => ys[i]?)) := by
  subst hn
  refine ⟨fun i _ hi q => ?_, fun _ q => ⟨xs, ys, q.1, q.2, by omega⟩, fun i H v H' _ q y => ?_⟩
  · have h1 : i < xs.length := by omega
    have h2 : i < ys.length := by omega
    exact ⟨xs, ys, xs[i], ys[i], q.1, q.2, by simp [h1], by simp [h2]⟩
  · obtain ⟨T, x, z, h1, h2, h3, h4, h5⟩ := y
    exact ⟨T, x, z, h1, h2, h3, h4 xs q.1, h5 ys q.2⟩
end

/-! ### tuples made: their objects have no dict -/
theorem tq_new {P : Program} {w : World} {H : Hp} {h : Heap} {xs : List V} {its : List Value} (hz : xs.length ≤ sizeLine) (r : Vals xs its) :
    ObjOk P w H (h.push { cls := .type "tuple", data := .seq its.toArray }) h.objs.size (.frz { cls := .type "tuple", data := .seq its.toArray } (.tup xs)) :=
  ⟨Heap.get?_push_size _ rfl, hz, its, r, ⟨_, Heap.get?_push_size _ rfl, rfl, _, rfl⟩⟩
/-- a new tuple at p -/
def NewT (H : Hp) (xs : List V) (Q : VK) : Prop := ∀ p H', H p = none → Same H H' → Tq H' p xs → Q (.ref p) H'
theorem NewT.mk {X : Cx} {pins : List (Addr × Obj)} {σ : L2.St} {H : Hp} {s : Shared} {xs : List V} {its : List Value} {Q : VK} (I : Inv X pins σ H s) (hz : xs.length ≤ sizeLine) (r : Vals xs its) (q : NewT H xs Q) :
    EP X pins σ Q (.ref s.heap.objs.size) { s with heap := s.heap.push { cls := .type "tuple", data := .seq its.toArray } } := by
  have hn : H s.heap.objs.size = none := I.hok.fresh (Nat.le_refl _)
  exact ⟨.ref s.heap.objs.size, _, I.laid (t' := s.toks) (fun b u e => Heap.get?_push_of_some _ e) (Nat.le_refl _) (tq_new hz r), rfl, q _ _ hn (Same.new hn) ⟨_, rfl, upd_same⟩⟩
section
variable {X : Cx} {es : List Expr} {t : TA} {pos : Pos}
def tTupX (t : TA) : TE := fun σ H Q => t σ H fun xs H1 => xs.length ≤ 1000000 ∧ NewT H1 xs Q
theorem pe_tupX {x1} (h : PA X es t) : PE X (.Tuple es x1 pos) (tTupX t) := by
  refine ⟨fun pins s σ H Q I hq => ?_⟩
  refine wpAny_Tuple_spliced (thn (h.run pos pins s σ H _ I hq) fun us s1 ⟨xs, H1, I1, r, z, q⟩ => ⟨by rw [← r.length]; exact sz_ok z, ?_⟩)
  exact NewT.mk I1 (sz_ok z) r q
/-- tuple(xs) of a list -/
def rTupL (K : PySem.W.Frag) : List V → Hp → VK → Prop := fun xs H Q => ∃ p ys, xs = [.ref p] ∧ SqL K H p ys ∧ NewT H ys Q
theorem cr_tupL : CallR X (.type "tuple") (rTupL X.K) := by
  intro pins s σ H xs us Q I r h
  obtain ⟨p, ys, rfl, hq, q⟩ := h
  obtain ⟨u, rfl, rx⟩ := vals1 r
  cases rx
  obtain ⟨its, r', pl, hz⟩ := I.list hq
  have hlen := r'.length
  refine call_tuple_list pl.isList (fun h' kp => ?_) (by simp only [List.size_toArray] <;> omega)
  have I1 : Inv X pins σ H { s with heap := h' } := I.kept (t' := s.toks) kp
  exact NewT.mk I1 hz r' q
def rTupT (K : PySem.W.Frag) : List V → Hp → VK → Prop := fun xs H Q => ∃ a ys, xs = [.ref a] ∧ SqT K H a ys ∧ Q (.ref a) H
/-- t + u, both not empty -/
def rCatX (K : PySem.W.Frag) : R2 := fun x y H Q => ∃ a b xs ys, x = .ref a ∧ y = .ref b ∧ SqT K H a xs ∧ SqT K H b ys ∧ xs.length + ys.length ≤ 1000000 ∧ ys ≠ [] ∧ (xs = [] → Q (.ref b) H) ∧ (xs ≠ [] → NewT H (xs ++ ys) Q)
theorem op_catX : OpR X (binaryOp .Add) (rCatX X.K) := by
  intro pins s σ H x y v u Q I rx ry h
  obtain ⟨a, b, xs, ys, rfl, rfl, ha, hb, hz, hy, q0, q⟩ := h
  cases rx
  cases ry
  obtain ⟨its, r1, p1, _⟩ := I.tuple ha
  obtain ⟨its2, r2, p2, _⟩ := I.tuple hb
  by_cases hx : xs = []
  · subst hx
    cases r1
    exact cat_tup0 p1 p2 ⟨.ref b, H, I, rfl, q0 rfl⟩
  · refine HT.cat_tup p1 p2 (fun z => hx (r1.nil_iff.mp z)) (fun z => absurd (r2.nil_iff.mp z) hy) (fun z => ?_) (by rw [← r1.length, ← r2.length]; exact sz_ok hz)
    exact NewT.mk (its := its ++ its2) I (by rw [List.length_append]; exact sz_ok hz) (r1.append r2) (q hx)
/-- t[lo:hi] -/
def rSlX (K : PySem.W.Frag) : V → Option Int → Option Int → Hp → VK → Prop := fun x lo hi H Q => ∃ a xs, x = .ref a ∧ SqT K H a xs ∧
  (HT.sIx xs.length 0 lo = 0 ∧ HT.sIx xs.length xs.length hi = xs.length → Q (.ref a) H) ∧ (¬ (HT.sIx xs.length 0 lo = 0 ∧ HT.sIx xs.length xs.length hi = xs.length) → NewT H (cutV xs lo hi) Q)
theorem sl_tupX : SlR X (rSlX X.K) := by
  intro pins s σ H x v vl vu lo hi sl Q I rx hs pl pu h
  obtain ⟨a, xs, rfl, hx, q1, q2⟩ := h
  cases rx
  obtain ⟨its, r, ht, hz⟩ := I.tuple hx
  have hlen : its.toArray.size = xs.length := by rw [List.size_toArray]; exact r.length.symm
  refine ⟨"tuple", _, PyProof.Rows.slot_tuple_getitem.lookup, ht.typeIs, ?_⟩
  by_cases hw : HT.sIx xs.length 0 lo = 0 ∧ HT.sIx xs.length xs.length hi = xs.length
  · exact getItem_tuple_whole ht hs pl pu (by rw [hlen]; exact hw) ⟨.ref a, H, I, rfl, q1 hw⟩
  · refine HT.getItem_tuple_cut ht hs pl pu (by rw [hlen]; exact hw) ?_ (by rw [hlen]; exact hz)
    rw [hlen]
    exact NewT.mk I (Nat.le_trans (cutV_length xs lo hi) hz) ((r.drop (HT.sIx xs.length 0 lo)).take (HT.sIx xs.length xs.length hi - HT.sIx xs.length 0 lo)) (q2 hw)
end

/-! ### methods of tuples: index, count -/
def tBT (r : V → List V → Hp → VK → Prop) (to : TE) (t : TA) : TE := fun σ H Q => to σ H fun x H1 => (∃ a xs, x = .ref a ∧ Tq H1 a xs) ∧ t σ H1 fun vs H2 => r x vs H2 Q
section
variable {X : Cx} {o e : Expr} {es : List Expr} {to : TE} {t : TA} {name : Str} {apos cpos : Pos} {id : String} {r : V → List V → Hp → VK → Prop}
theorem pe_bt (slot : Slot "tuple" name id) (hty : typeOf (.builtin id) = pure (.type "method_descriptor")) (hm : MtR X id r) (ho : PE X o to) (ha : PA X (e :: es) t)
    (hbase : attributeBase o name X.env (eval o X.env) = eval o X.env := by rfl)
    (hfew : ((backTo cpos (starEach (e :: es) X.env)).all (fun x => !x.1) && (backToKw cpos (keywordEach [] X.env)).all (fun x => x.1.isSome)
      && decide ((e :: es).length + ([] : List Keyword).length + (if ([] : List Keyword).isEmpty then 0 else 1) < 30)) = true := by rfl)
    (hline : (apos.endLine == cpos.line) = true := by rfl) (hs : starEach (e :: es) X.env = (false, eval e X.env) :: starEach es X.env := by rfl) (hplain : (backTo cpos (starEach es X.env)).any (·.1) = false := by rfl) :
    PE X (.Call (.Attribute o name apos) (e :: es) [] cpos) (tBT r to t) := by
  refine ⟨fun pins s σ H Q I h => ?_⟩
  refine wpAny_Call_method_late hbase hfew hline rfl (thn (ho.run pins s σ H _ I h) fun v s1 ⟨x, H1, I1, r1, ty, q1⟩ => ?_)
  have hz : s1.TypeIs v "tuple" ∧ ∀ a, v = .ref a → ∃ ob, s1.heap.get? a = some ob ∧ ob.dict = none := by
    obtain ⟨a, xs, rfl, ob, hd, ha⟩ := ty
    cases r1
    obtain ⟨e0, _, its, rv, o2, e1, e2, n, e3⟩ := I1.hok a _ ha
    rw [e0] at e1
    cases e1
    exact ⟨⟨ob, e0, e2⟩, fun b hb => by cases hb; exact ⟨ob, e0, hd⟩⟩
  refine ⟨"tuple", id, PySem.F.plainAttrs_tuple, slot, hty, hz.1, hz.2, ?_⟩
  have hA := ha.run cpos pins s1 σ H1 _ I1 q1
  rw [hs] at hA ⊢
  refine Calls.callWith_builtin (by show (false || (backTo cpos (starEach es X.env)).any (·.1)) = false; rw [hplain] <;> rfl) (Calls.evalArgs_plain ?_)
  exact thn hA fun us s2 ⟨vs, H2, I2, r2, q2⟩ => hm pins s2 σ H2 x vs v us Q I2 r1 r2 q2
theorem eqV_dec {x y : V} (hx : fl x = true) (hy : fl y = true) : eqV x y = decide (x = y) := by
  cases x <;> first | cases hx | skip
  all_goals cases y <;> first | cases hy | skip
  all_goals first | rfl | (rw [Bool.eq_iff_iff]; simp [eqV])
theorem fl_flat {x : V} (h : fl x = true) : flatV x = true := by cases x <;> first | rfl | cases h
theorem fl_flats {xs : List V} (h : xs.all fl = true) : xs.all flatV = true := List.all_eq_true.mpr fun x hx => fl_flat (List.all_eq_true.mp h x hx)
/-- t.index(x), x in t -/
def rIdx (K : PySem.W.Frag) : V → List V → Hp → VK → Prop := fun x vs H Q => ∃ (p : Addr) (xs : List V) (y : V), x = .ref p ∧ vs = [y] ∧ SqT K H p xs ∧ xs.all fl = true ∧ fl y = true ∧ y ∈ xs ∧ Q (.int ((xs.idxOf y : Nat) : Int)) H
theorem mt_idx : MtR X "tuple.index" (rIdx X.K) := by
  intro pins s σ H x vs v us Q I rx rs h
  obtain ⟨p, xs, y, rfl, rfl, hq, fx, fy, hm, q⟩ := h
  cases rx
  obtain ⟨u, rfl, ru⟩ := vals1 rs
  obtain ⟨its, r, pl, hz⟩ := I.tuple hq
  obtain ⟨⟨cls, dd, dt, sl⟩, ho, hc, n, hd⟩ := pl
  simp only at hc hd
  subst hc
  subst hd
  have hl : its.toArray.size = xs.length := by rw [List.size_toArray, ← r.length]
  have hlt := List.idxOf_lt_length_of_mem hm
  have at' : ∀ (m : Nat) (hm : m < its.toArray.size), eqU y its.toArray[m] = decide (xs[m]'(by omega) = y) := fun m hm => by
    have hm' : m < xs.length := by omega
    obtain ⟨w, hw, rw'⟩ := r.get (i := m) (List.getElem?_eq_getElem hm')
    have e := (List.getElem?_eq_some_iff.mp hw).2
    have fm : fl xs[m] = true := List.all_eq_true.mp fx _ (List.getElem_mem hm')
    have e2 : its.toArray[m] = w := by simpa using e
    rw [e2, eqU_of rw' (fl_flat fm), eqV_dec fm fy]
  refine call_meets PySem.F.slot_tuple_index ⟨_, ho, rfl⟩ PySem.F.entry_tuple_index (PySem.F.args_tuple_index_2 _ _) (TI.tuple_indexAt p its.toArray n dd sl u (eqU y) (xs.idxOf y) (by omega) ?_ ?_)
    ⟨ho, fun w hw => mem_eqAt ru (fl_flat fy) r (fl_flats fx) w (by simpa using hw), ⟨.int ((xs.idxOf y : Nat) : Int), H, I.tok _, ⟨_, rfl⟩, q⟩⟩
  · rw [at']
    exact decide_eq_true (List.getElem_idxOf hlt)
  · intro m hm hmj
    rw [at' m hm]
    refine decide_eq_false fun e => ?_
    have := List.not_of_lt_findIdx hmj
    simp at this
    exact this e
/-- t.count(x) -/
def rCnt (K : PySem.W.Frag) : V → List V → Hp → VK → Prop := fun x vs H Q => ∃ (p : Addr) (xs : List V) (y : V), x = .ref p ∧ vs = [y] ∧ SqT K H p xs ∧ xs.all fl = true ∧ fl y = true ∧ Q (.int ((xs.count y : Nat) : Int)) H
theorem cnt_eqU {y : V} (fy : fl y = true) : ∀ {xs : List V} {us : List Value}, Vals xs us → xs.all fl = true → us.countP (eqU y) = xs.count y
  | _, _, .nil, _ => rfl
  | x :: xs, u :: us, .cons r t, h => by
    simp only [List.all_cons, Bool.and_eq_true] at h
    rw [List.countP_cons, List.count_cons, cnt_eqU fy t h.2, eqU_of r (fl_flat h.1), eqV_dec h.1 fy]
    by_cases e : x = y <;> simp [e]
theorem mt_cnt : MtR X "tuple.count" (rCnt X.K) := by
  intro pins s σ H x vs v us Q I rx rs h
  obtain ⟨p, xs, y, rfl, rfl, hq, fx, fy, q⟩ := h
  cases rx
  obtain ⟨u, rfl, ru⟩ := vals1 rs
  obtain ⟨its, r, pl, hz⟩ := I.tuple hq
  obtain ⟨⟨cls, dd, dt, sl⟩, ho, hc, n, hd⟩ := pl
  simp only at hc hd
  subst hc
  subst hd
  refine call_meets PySem.F.slot_tuple_count ⟨_, ho, rfl⟩ PySem.F.entry_tuple_count (PySem.F.args_tuple_count_2 _ _) (PySem.SeqAt.tuple_countAt p its.toArray n dd sl u (eqU y))
    ⟨ho, fun w hw => mem_eqAt ru (fl_flat fy) r (fl_flats fx) w (by simpa using hw), ⟨.int ((xs.count y : Nat) : Int), H, I.tok _, ⟨_, by rw [show its.toArray.toList = its by simp, cnt_eqU fy r fx]⟩, q⟩⟩
end
end Cc

end

section
set_option Elab.async false
set_option linter.all false
set_option maxRecDepth 100000
set_option maxHeartbeats 4000000
namespace Cc
open PySem PySem.Spec L2

/-! ### len(x), x an instance with slots and an own def for it -/
theorem len_own {prog : Program} {w : World} {A : Around} {E : Value → Shared → Prop} {s : Shared} {K : PySem.W.Frag} {x C f : Addr} {ox : Obj} {od : Option Obj} {Q : Value → Shared → Prop} (X : K.In s.heap) (I : PySem.W.InstAt s.heap x ox C od)
    (hs : PySem.W.findIn K (.ref C) "__len__" = some (some (.ref f))) (hf : PySem.W.isFn K (.ref f) = true)
    (h : wpAny (model prog w) A.in1 (call (.ref f) [.ref x]) (fun r s₁ => ∃ (n : Nat) (u : Tok), r = Value.int (n : Int) u ∧ n < 1000000 ∧ Q (.int (n : Int) s₁.toks) { s₁ with toks := s₁.toks + 1 }) E s) : wpAny (model prog w) A (call (.builtin "len") [.ref x]) Q E s := by
  refine Calls.call_function_entry kind_len plain_len entry_len (args_len1 _) ?_
  unfold Builtin.«len»
  refine wpAny_bind (m := oneArg "len" _) (wpAny_pure ?_)
  refine wpAny_bind (m := callSpecial? (.ref x) (PySem.Str.ofString "__len__")) (PySem.W.special_fn X I hs (beq_iff_eq.mp hf) (wpAny_mono h (fun r s' hr => ?_) fun _ _ y => y))
  obtain ⟨n, u, rfl, hn, hq⟩ := hr
  refine wpAny_bind (wpAny_holding (wpAny_pure ?_))
  refine wpAny_bind (wpAny_letGo ?_)
  show wpAny _ _ (if ((n : Nat) : Int) < 0 then _ else _) _ _ _
  rw [if_neg (by omega)]
  show wpAny _ _ (if ((n : Nat) : Int) ≥ 2 ^ 63 then _ else _) _ _ _
  rw [if_neg (by omega)]
  exact wpAny_bind (wpAny_mkInt (wpAny_pure ⟨_, rfl, hq⟩))
def rLenOwn (C : Addr) (sp : Sp) (E : XK) : List V → Hp → VK → Prop := fun xs H Q => ∃ a dx vs, xs = [V.ref a] ∧ SlX.Slt H a C dx vs ∧ sp [.ref a] H (fun z H' => ∃ n : Nat, z = .int (n : Int) ∧ n < 1000000 ∧ Q z H') E
theorem cr_lenOwn {X : Cx} {CX : CXT} {n : Nat} {C g : Addr} {sp : Sp} {E : XK} (hs : PySem.W.findIn X.K (.ref C) "__len__" = some (some (.ref g))) (hf : PySem.W.isFn X.K (.ref g) = true) (F : FnR X.prog X.w X.K X.mg X.base CX n g sp) (hr : Room (n + 1) X.A)
    (hx : Passes CX X E) : CallR X (.builtin "len") (rLenOwn C sp E) := by
  intro pins s σ H xs us Q I r h
  obtain ⟨a, dx, vs, rfl, hsl, q⟩ := h
  obtain ⟨u, rfl, ru⟩ := vals1 r
  cases (show u = Value.ref a from ru)
  obtain ⟨sl, od, _, J, _⟩ := SlX.slt_inst I hsl
  refine len_own I.kIn J hs hf (wpAny_mono (wpAny_call (SlX.run_at (us := [.ref a]) (ws := [.ref a]) F hr.in1 I.env0.in1 hx I (.cons rfl .nil) q)) (fun w s' z => ?_) fun _ _ x => x)
  obtain ⟨z', H', I', rz, i, ei, hi, qz⟩ := z
  subst ei
  obtain ⟨t, e⟩ := (show ∃ t, w = Value.int i t from rz)
  cases e
  exact ⟨i, t, rfl, hi, .int i, H', I'.tok _, ⟨_, rfl⟩, qz⟩

/-! ### d == {} of a dict with entries -/
def rEqDD0 (P : Program) (w : World) : R2 := fun x y H Q => ∃ a b kvs, x = .ref a ∧ y = .ref b ∧ Rd H a (DD P w a kvs) ∧ Rd H b (DD P w b []) ∧ kvs ≠ [] ∧ Q (.bl false) H
theorem op_eqDD0 {X : Cx} (hu : X.A.units + 64 < cLine) : OpR X (compareOp .Eq) (rEqDD0 X.prog X.w) := by
  intro pins s σ H x y v u Q I rx ry h
  obtain ⟨a, b, kvs, rfl, rfl, ha, hb, hne, q⟩ := h
  cases rx
  cases ry
  obtain ⟨a1, _, es, ep, r1, z1, _⟩ := dd_raw I.hok ha
  obtain ⟨b1, _, es', ep', r2, z2, _⟩ := dd_raw I.hok hb
  refine raw_eq_len a1 b1 r1 r2 (by omega) (fun z => hne ?_) ⟨.bl false, H, I, rfl, q⟩
  have : kvs.length = 0 := by rw [← z1, z, z2]; rfl
  exact List.length_eq_zero_iff.mp this

/-! ### short ways -/
section
variable {X : Cx} {k : Nat} {f C p g : Addr} {fd : FuncData} {ps : List Str} {sp : Sp} {x m : Str} {e o : Expr} {es : List Expr} {pos ppos apos : Pos} {t : TA} {ta : TE} {v : V}
theorem pe_g (h : ∃ u, X.mg x = some u ∧ RelV v u) (hg : Gl X x := by rfl) (hd : (x == ("__debug__" : Str)) = false := by decide) : PE X (.Name x pos) (tC v) := by
  obtain ⟨u, h1, h2⟩ := h
  exact pe_glob hg h1 h2 hd
theorem pe_ty (n : String) (hm : X.mg x = none) (hv : bootBuiltins x = some (.type n)) (hn : x ≠ "__name__" := by decide) (hd : (x == ("__debug__" : Str)) = false := by decide) (hg : Gl X x := by rfl) : PE X (.Name x pos) (tC (.ty n)) := pe_bltn hg hm hv rfl hn hd
/-- a method without arguments, with, a property of a class with slots -/
theorem pe_mS0 {pl : Sem Bool} (he : PE X o ta) (c : SlX.SCls X.K C) (hm : Meth X.K C m f) (F : FnOk X.prog X.w X.K X.mg X.base CX0 k f fd ps sp) (hb : Binds X.K fd ps []) (hr : Room k X.A)
    (ht : eval (.Call (.Attribute o m apos) [] [] pos) X.env = (do
      let ov ← eval o X.env
      standAt apos.atName
      let (f, first) ← holding [ov] (getMethod ov m pl)
      callWith pos f first (backTo pos (starEach [] X.env)) (backToKw pos (keywordEach [] X.env))) := by rfl) :
    PE X (.Call (.Attribute o m apos) [] [] pos) (SlX.tMethSl C (fun vs H Q E => sp (vs ++ []) H Q E) E0 ta tNil) := SlX.pe_methSl0 he c hm (F.raw hb .nil) hr pass0 ht
theorem pe_pS (he : PE X e ta) (c : SlX.SCls X.K C) (hp : PropOf X.K C m p g) (F : FnOk X.prog X.w X.K X.mg X.base CX0 k g fd ps sp) (hb : Binds X.K fd ps []) (hr : Room (k + 1) X.A) (hab : attributeBase e m X.env (eval e X.env) = eval e X.env := by rfl) :
    PE X (.Attribute e m pos) (SlX.tPropSl C (fun vs H Q E => sp (vs ++ []) H Q E) E0 ta) :=
  SlX.pe_propSl he c hp.at_ hp.get hp.tak hp.rec_ (F.raw hb .nil) hr (fun _ _ _ _ h => h) hab
end
end Cc

end

section
set_option Elab.async false
set_option linter.all false
set_option maxRecDepth 100000
set_option maxHeartbeats 4000000
namespace Cc
open PySem PySem.Spec L2

theorem r_not {t : TT} {σ : St} {H : Hp} {Q : Bool → Hp → Prop} (h : t σ H fun c H1 => Q (!c) H1) : tNot t σ H Q := h
theorem r_tb {t : TE} {σ : St} {H : Hp} {Q : Bool → Hp → Prop} (h : t σ H fun x H1 => ∃ c, x = .bl c ∧ Q c H1) : tB t σ H Q := h
theorem r_tt {t : TE} {σ : St} {H : Hp} {Q : Bool → Hp → Prop} (h : t σ H fun x H1 => ∃ c, x = .bl c ∧ Q c H1) : tTest t σ H Q := h
theorem r_next {t : TS} {D : Ends} {σ : St} {H : Hp} (h : t D σ H) : tNext { D with nx := t D } σ H := h
/-! ### what data says of the values -/
theorem dqs_flat {H : Hp} {vs : List V} {xs : List V} (hf : xs.all fl = true) (h : DqAll H vs (xs.map dV)) : vs = xs := DqAll.flat_inv hf h
theorem dqs_ints {H : Hp} : ∀ {ns : List Int} {vs : List V}, DqAll H vs (ns.map PyData.int) → vs = ns.map V.int
  | [], _, h => h.nil_inv
  | n :: ns, _, h => by
    obtain ⟨v, ws, rfl, h1, h2⟩ := h.cons_inv
    rw [h1.int_inv, dqs_ints h2]; rfl
theorem dqs_bools {H : Hp} : ∀ {ns : List Bool} {vs : List V}, DqAll H vs (ns.map PyData.bool) → vs = ns.map V.bl
  | [], _, h => h.nil_inv
  | n :: ns, _, h => by
    obtain ⟨v, ws, rfl, h1, h2⟩ := h.cons_inv
    rw [h1.bl_inv, dqs_bools h2]; rfl
theorem dqs_strs {H : Hp} : ∀ {ns : List Str} {vs : List V}, DqAll H vs (ns.map PyData.str) → vs = ns.map V.str
  | [], _, h => h.nil_inv
  | n :: ns, _, h => by
    obtain ⟨v, ws, rfl, h1, h2⟩ := h.cons_inv
    rw [h1.str_inv, dqs_strs h2]; rfl
theorem Ls.ints {H : Hp} {l : Addr} {ns : List Int} (h : Ls H l (ns.map PyData.int)) : H l = some (.lst (ns.map V.int)) := by
  obtain ⟨vs, h1, h2⟩ := h
  rw [h1, dqs_ints h2]
theorem Ls.bools {H : Hp} {l : Addr} {ns : List Bool} (h : Ls H l (ns.map PyData.bool)) : H l = some (.lst (ns.map V.bl)) := by
  obtain ⟨vs, h1, h2⟩ := h
  rw [h1, dqs_bools h2]
theorem Ls.strs {H : Hp} {l : Addr} {ns : List Str} (h : Ls H l (ns.map PyData.str)) : H l = some (.lst (ns.map V.str)) := by
  obtain ⟨vs, h1, h2⟩ := h
  rw [h1, dqs_strs h2]
theorem Ls.flat {H : Hp} {l : Addr} {xs : List V} (hf : xs.all fl = true) (h : Ls H l (xs.map dV)) : H l = some (.lst xs) := by
  obtain ⟨vs, h1, h2⟩ := h
  rw [h1, dqs_flat hf h2]
theorem Ls.of_flat {H : Hp} {l : Addr} {xs : List V} (hf : xs.all fl = true) (h : H l = some (.lst xs)) : Ls H l (xs.map dV) := ⟨xs, h, DqAll.flat hf⟩
theorem Dq.eI_inv {H : Hp} {v : V} {l : List Int} (h : Dq H v (eI l)) : ∃ a, v = .ref a ∧ Tq H a (l.map V.int) := by
  rw [eI_eq] at h
  exact Dq.eL_inv (by simp [Cc.fl]) h
theorem Dq.eI {H : Hp} {a : Addr} {l : List Int} (h : Tq H a (l.map V.int)) : Dq H (.ref a) (Cc.eI l) := by
  rw [eI_eq]
  exact Dq.eL h (by simp [Cc.fl])
theorem Dq.pair {H : Hp} {a : Addr} {u v : V} {d e : PyData} (h : Tq H a [u, v]) (h1 : Dq H u d) (h2 : Dq H v e) : Dq H (.ref a) (.tuple [d, e]) := .tup h (.cons h1 (.cons h2 .nil))
theorem Dq.pair_inv {H : Hp} {x : V} {d e : PyData} (h : Dq H x (.tuple [d, e])) : ∃ a u v, x = .ref a ∧ Tq H a [u, v] ∧ Dq H u d ∧ Dq H v e := by
  obtain ⟨a, xs, rfl, h1, h2⟩ := h.tup_inv
  obtain ⟨u, ws, rfl, q1, h3⟩ := h2.cons_inv
  obtain ⟨v, ws, rfl, q2, h4⟩ := h3.cons_inv
  obtain rfl := h4.nil_inv
  exact ⟨a, u, v, rfl, h1, q1, q2⟩
theorem Dq.trip_inv {H : Hp} {x : V} {d e f : PyData} (h : Dq H x (.tuple [d, e, f])) : ∃ a u v w, x = .ref a ∧ Tq H a [u, v, w] ∧ Dq H u d ∧ Dq H v e ∧ Dq H w f := by
  obtain ⟨a, xs, rfl, h1, h2⟩ := h.tup_inv
  obtain ⟨u, ws, rfl, q1, h3⟩ := h2.cons_inv
  obtain ⟨v, ws, rfl, q2, h4⟩ := h3.cons_inv
  obtain ⟨w, ws, rfl, q3, h5⟩ := h4.cons_inv
  obtain rfl := h5.nil_inv
  exact ⟨a, u, v, w, rfl, h1, q1, q2, q3⟩
theorem Dq.same {H H' : Hp} {v : V} {d : PyData} (h : Dq H v d) (e : Same H H') : Dq H' v d := h.mono (Tk.of e)
theorem DqAll.same {H H' : Hp} {v : List V} {d : List PyData} (h : DqAll H v d) (e : Same H H') : DqAll H' v d := h.mono (Tk.of e)
/-- a thing put at a list's end -/
theorem Ls.push {H : Hp} {l : Addr} {ds : List PyData} {vs : List V} {v : V} {d : PyData} (h : H l = some (.lst vs)) (h2 : DqAll H vs ds) (q : Dq H v d) : Ls (upd H l (.lst (vs ++ [v]))) l (ds ++ [d]) :=
  ⟨_, upd_same, (h2.append (.one q)).mono (Tk.lst h)⟩

/-! ### comprehensions over texts, pairs of two tuples, enumerated tuples -/
section
variable {K : PySem.W.Frag} {g : TG} {tt : TT} {te tl : TE} {ta : TA} {vs : List Nat} {σ : St} {H : Hp} {Q : VK}
theorem lcS {z : Str} (r : Nat → Option PyData) (hsz : z.cps.size ≤ 1000000) (hl : ∀ R : VK, (∀ H1, Same H H1 → R (.str z) H1) → tl σ H R)
    (turn : ∀ (c : Nat) H1, c ∈ z.cps.toList → Same H H1 → TurnOk g tt te vs σ (.str ⟨#[c]⟩) H1 (r c)) (done : ∀ D H1, Same H H1 → Ls H1 D (z.cps.toList.filterMap r) → Q (.ref D) H1) : tLc (iStr tl) g tt te vs σ H Q := by
  refine hl _ fun H1 s1 => ⟨z, rfl, fun D hD => ?_⟩
  exact lc_run (walk_str (z := z)) z.cps.toList (fun c v _ => v = .str ⟨#[c]⟩) r (by simp) hsz hD (fun H2 s2 => trivial)
    (fun i H2 x H3 hi s2 y => by obtain ⟨rfl, c, e, rfl⟩ := y; exact ⟨Same.refl _, c, by simpa using e, rfl⟩) (fun i c v H2 e s2 q => by subst q; exact turn c H2 (List.mem_of_getElem? e) (s1.trans s2)) (fun H2 s2 q => done D H2 (s1.trans s2) q)
theorem lcZ {a : Addr} {xs ys : List V} (r : V × V → Option PyData) (hsz : xs.length ≤ 1000000)
    (hl : ∀ R : List V → Hp → Prop, (∀ b H1, Same H H1 → Tq H1 b ys → R [.ref a, .ref b] H1) → ta σ H R) (hx : SqT K H a xs)
    (turn : ∀ (i : Nat) u v T H1, xs[i]? = some u → ys[i]? = some v → Same H H1 → SqT K H1 T [u, v] → TurnOk g tt te vs σ (.ref T) H1 (r (u, v))) (done : ∀ D H1, Same H H1 → Ls H1 D ((xs.zip ys).filterMap r) → Q (.ref D) H1) : tLc (RZ.iZipA K ta) g tt te vs σ H Q := by
  have sq : ∀ {H1}, Same H H1 → SqT K H1 a xs := fun s1 => by
    rcases hx with h | h
    · rcases h with h | ⟨o, h⟩
      · exact .inl (.inl (s1 _ _ h))
      · exact .inl (.inr ⟨o, s1 _ _ h⟩)
    · exact .inr h
  refine hl _ fun b H1 s1 hy => ⟨a, b, xs, ys, rfl, .inr ⟨sq s1, hy.seq, fun D hD => ?_⟩⟩
  refine lc_run (walk_zipT (K := K) (a := a) (b := b) (xs := xs) (ys := ys) rfl) (xs.zip ys) (fun p x H => ∃ T, x = .ref T ∧ SqT K H T [p.1, p.2]) r (by simp) (by omega) hD (fun H2 s2 => ⟨sq (s1.trans s2), (hy.same s2).seq⟩)
    (fun i H2 x H3 hi s2 y => ?_) (fun i p x H2 e s2 q => ?_) (fun H2 s2 q => done D H2 (s1.trans s2) q)
  · obtain ⟨T, u, v, rfl, hT, rfl, e1, e2⟩ := y
    exact ⟨Same.new hT, (u, v), List.getElem?_zip_eq_some.mpr ⟨e1, e2⟩, T, rfl, SqT.of upd_same⟩
  · obtain ⟨T, rfl, hT⟩ := q
    obtain ⟨e1, e2⟩ := List.getElem?_zip_eq_some.mp e
    exact turn i p.1 p.2 T H2 e1 e2 (s1.trans s2) hT
theorem lcE {a : Addr} {xs : List V} (r : Nat → Option PyData) (hsz : xs.length ≤ 1000000)
    (hl : ∀ R : List V → Hp → Prop, (∀ H1, Same H H1 → Tq H1 a xs → R [.ref a] H1) → ta σ H R)
    (turn : ∀ (i : Nat) v T H1, xs[i]? = some v → Same H H1 → SqT K H1 T [.int (i : Nat), v] → TurnOk g tt te vs σ (.ref T) H1 (r i)) (done : ∀ D H1, Same H H1 → Ls H1 D ((List.range xs.length).filterMap r) → Q (.ref D) H1) : tLc (iEnumT K ta) g tt te vs σ H Q := by
  refine hl _ fun H1 s1 hx => ⟨a, xs, rfl, hx.seq, fun D hD => ?_⟩
  refine lc_run (walk_enumT (K := K) (a := a) (xs := xs)) (List.range xs.length) (fun i x H => ∃ T v, x = .ref T ∧ xs[i]? = some v ∧ SqT K H T [.int ((i : Nat) : Int), v]) r (by simp) hsz hD (fun H2 s2 => (hx.same s2).seq)
    (fun i H2 x H3 hi s2 y => ?_) (fun i p x H2 e s2 q => ?_) (fun H2 s2 q => done D H2 (s1.trans s2) q)
  · obtain ⟨T, u, v, rfl, hT, rfl, e1, e2⟩ := y
    cases e1
    exact ⟨Same.new hT, i, by simp [hi], T, v, rfl, e2, SqT.of upd_same⟩
  · obtain ⟨T, v, rfl, e2, hT⟩ := q
    have : i = p := by
      have := (List.getElem?_eq_some_iff.mp e).2
      simpa using this
    subst this
    exact turn i v T H2 e2 (s1.trans s2) hT
end
/-! ### turns whose target is a pair -/
section
variable {K : PySem.W.Frag} {tt : TT} {te : TE} {vs : List Nat} {σ : St} {T : Addr} {H1 : Hp} {d : PyData} {o : Option PyData} {u v : V}
theorem turn_p {i j : Nat} (hT : SqT K H1 T [u, v]) (h : ∀ N : VK, (∀ v H2, Same H1 H2 → Dq H2 v d → N v H2) → te (((wipe σ vs).set i (some u)).set j (some v)) H1 N)
    (hw : wipe (((wipe σ vs).set i (some u)).set j (some v)) vs = wipe σ vs := by rfl) : TurnOk (gTup K 2 (gCons (gName i) (gCons (gName j) gNil))) tYes te vs σ (.ref T) H1 (some d) := fun N h0 h1 =>
  ⟨T, [u, v], rfl, hT, rfl, u, [v], rfl, v, [], rfl, rfl, hw, iteT (B := N none H1) (h (fun y H4 => N (some y) H4) fun v H2 s q => h1 v H2 d s rfl q)⟩
theorem turn_pt {i j : Nat} {b : Bool} (hT : SqT K H1 T [u, v]) (ht : ∀ R : Bool → Hp → Prop, (∀ H2, Same H1 H2 → R b H2) → tt (((wipe σ vs).set i (some u)).set j (some v)) H1 R) (h0 : b = false → o = none)
    (h1 : b = true → ∃ d, o = some d ∧ ∀ H2, Same H1 H2 → ∀ N : VK, (∀ v H3, Same H2 H3 → Dq H3 v d → N v H3) → te (((wipe σ vs).set i (some u)).set j (some v)) H2 N)
    (hw : wipe (((wipe σ vs).set i (some u)).set j (some v)) vs = wipe σ vs := by rfl) : TurnOk (gTup K 2 (gCons (gName i) (gCons (gName j) gNil))) tt te vs σ (.ref T) H1 o := fun N k0 k1 =>
  ⟨T, [u, v], rfl, hT, rfl, u, [v], rfl, v, [], rfl, rfl, hw, ht _ fun H2 s2 => by
    cases b with
    | true =>
      obtain ⟨d, e, q⟩ := h1 rfl
      exact iteT (q H2 s2 _ fun v H3 s3 q3 => k1 v H3 d (s2.trans s3) e q3)
    | false => exact iteF (k0 H2 s2 (h0 rfl))⟩
end
end Cc

end

section
set_option Elab.async false
set_option linter.all false
set_option maxRecDepth 100000
set_option maxHeartbeats 4000000
namespace Cc
open PySem PySem.Spec L2

/-! ### the rules whose readings name the written part, with its name given (within comprehensions) -/
def rLenQ (K : PySem.W.Frag) : List V → Hp → VK → Prop := fun xs H Q => ∃ p ys, xs = [.ref p] ∧ (SqL K H p ys ∨ SqT K H p ys) ∧ Q (.int ys.length) H
def rListQ (K : PySem.W.Frag) : List V → Hp → VK → Prop := fun xs H Q => ∃ p ys, xs = [.ref p] ∧ (SqL K H p ys ∨ SqT K H p ys) ∧ ∀ l, H l = none → Q (.ref l) (upd H l (.lst ys))
section
variable {X : Cx} (K : PySem.W.Frag) {e o : Expr} {es : List Expr} {te ta to : TE} {t : TA} {f name : Str} {p pos apos cpos : Pos} {id T : String} {r : V → List V → Hp → VK → Prop}
theorem op_in_seqK (hK : X.K = K := by rfl) : OpR X (compareOp .In) (rIn K false) := by subst hK; exact op_in_seq
theorem op_notIn_seqK (hK : X.K = K := by rfl) : OpR X (compareOp .NotIn) (rIn K true) := by subst hK; exact op_notIn_seq
theorem op_eqDK (hu : X.A.units + 64 < cLine) (hK : X.K = K := by rfl) : OpR X (compareOp .Eq) (rEqD K) := by subst hK; exact op_eqD hu
theorem op_neDK (hu : X.A.units + 64 < cLine) (hK : X.K = K := by rfl) : OpR X (compareOp .NotEq) (rNeD K) := by subst hK; exact op_neD hu
theorem ix_tupK (hK : X.K = K := by rfl) : IxR X (rIxT K) := by subst hK; exact ix_tup
theorem ix_listK (hK : X.K = K := by rfl) : IxR X (rIxL K) := by subst hK; exact ix_list
theorem pe_slK (he : PE X e ta) (hK : X.K = K := by rfl) (hb : attributeBase e f X.env (eval e X.env) = eval e X.env := by rfl) : PE X (.Attribute e f pos) (SlX.tSl K ta f) := by subst hK; exact SlX.pe_sl he hb
theorem pe_fldK (he : PE X e ta) (hK : X.K = K := by rfl) (hb : attributeBase e f X.env (eval e X.env) = eval e X.env := by rfl) : PE X (.Attribute e f pos) (tFld K ta f) := by subst hK; exact pe_fld he hb
theorem pa_starK (he : PE X e te) (hr : PA X es t) (hK : X.K = K := by rfl) (hs : starEach (.Starred e p :: es) X.env = (true, eval e X.env) :: starEach es X.env := by rfl) : PA X (.Starred e p :: es) (StX.tStar K te t) := by subst hK; exact StX.pa_star he hr hs
theorem call_len_seqK (hK : X.K = K := by rfl) : CallR X (.builtin "len") (rLenQ K) := by subst hK; exact call_len_seq
theorem call_list_ofK (hK : X.K = K := by rfl) : CallR X (.type "list") (rListQ K) := by subst hK; exact call_list_of
theorem cr_sumK (hc : X.calm = true) (hK : X.K = K := by rfl) : CallR X (.builtin "sum") (rSum K) := by subst hK; exact cr_sum hc
theorem cr_allK (hc : X.calm = true) (hK : X.K = K := by rfl) : CallR X (.builtin "all") (rAll K) := by subst hK; exact cr_all hc
theorem cr_tupLK (hK : X.K = K := by rfl) : CallR X (.type "tuple") (rTupL K) := by subst hK; exact cr_tupL
theorem call_isiK (hK : X.K = K := by rfl) : CallR X (.builtin "isinstance") (rIsi K) := by subst hK; exact call_isi
theorem sl_tupXK (hK : X.K = K := by rfl) : SlR X (rSlX K) := by subst hK; exact sl_tupX
theorem sl_listK (hK : X.K = K := by rfl) : SlR X (rSlL K) := by subst hK; exact sl_list
theorem op_catXK (hK : X.K = K := by rfl) : OpR X (binaryOp .Add) (rCatX K) := by subst hK; exact op_catX
theorem mt_idxK (hK : X.K = K := by rfl) : MtR X "tuple.index" (rIdx K) := by subst hK; exact mt_idx
theorem mt_cntK (hK : X.K = K := by rfl) : MtR X "tuple.count" (rCnt K) := by subst hK; exact mt_cnt
theorem pe_andTK {a b : Expr} {tb : TE} {rest : List Expr} (ha : PE X a ta) (hb : PE X (.BoolOp .And (b :: rest) pos) tb) (hK : X.K = K := by rfl) : PE X (.BoolOp .And (a :: b :: rest) pos) (tAndT K ta tb) := by subst hK; exact pe_andT ha hb
end
theorem r_nameSI {i : Nat} {v : V} {tt : TT} {t u w : TS} {D : Ends} {σ : St} {H : Hp} (h : tIfS tt t u { D with nx := w D } (σ.set i (some v)) H) : gName i v σ H (tSeq (tIfS tt t u) w D) := h
theorem r_nameS {i : Nat} {v : V} {t u : TS} {D : Ends} {σ : St} {H : Hp} (h : tSeq t u D (σ.set i (some v)) H) : gName i v σ H (tSeq t u D) := h
theorem r_nameI {i : Nat} {v : V} {tt : TT} {t u : TS} {D : Ends} {σ : St} {H : Hp} (h : tIfS tt t u D (σ.set i (some v)) H) : gName i v σ H (tIfS tt t u D) := h
theorem r_nameR {i : Nat} {v : V} {te : TE} {D : Ends} {σ : St} {H : Hp} (h : tRet te D (σ.set i (some v)) H) : gName i v σ H (tRet te D) := h
/-- what comes behind an if, once -/
theorem r_ifw {tt : TT} {t u : TS} {D : Ends} {σ : St} {H : Hp} (Pm : Hp → Prop) (h1 : ∀ H7, Pm H7 → D.nx σ H7) (h2 : (∀ H7, Pm H7 → D.nx σ H7) → tIfS tt t u D σ H) : tIfS tt t u D σ H := h2 h1
/-- a def as a value -/
theorem pe_fn {X : Cx} {x : Str} {pos : Pos} {f : Addr} (hm : X.mg x = some (.ref f)) (hg : Gl X x := by rfl) (hd : (x == ("__debug__" : Str)) = false := by decide) : PE X (.Name x pos) (tC (.ref f)) := pe_glob hg hm rfl hd
/-! ### comprehensions over a tuple that an expression gives -/
section
variable {K : PySem.W.Frag} {g : TG} {tt : TT} {te tl : TE} {vs : List Nat} {σ : St} {H : Hp} {Q : VK} {α : Type}
theorem lcTx {xs : List V} (r : V → Option PyData) (hsz : xs.length ≤ 1000000)
    (hl : ∀ R : VK, (∀ a H1, Same H H1 → Tq H1 a xs → R (.ref a) H1) → tl σ H R)
    (turn : ∀ (i : Nat) x H1, xs[i]? = some x → Same H H1 → TurnOk g tt te vs σ x H1 (r x)) (done : ∀ D H1, H D = none → Same H H1 → Ls H1 D (xs.filterMap r) → Q (.ref D) H1) : tLc (iTup K tl) g tt te vs σ H Q := by
  refine hl _ fun a H1 s1 hx => ⟨a, rfl, ⟨xs, hx.seq⟩, fun D hD => ?_⟩
  exact lc_run (walk_tup (K := K) (a := a) (xs := xs)) xs (fun x v _ => v = x) r rfl hsz hD (fun H2 s2 => (hx.same s2).seq)
    (fun i H2 x H3 hi s2 y => by obtain ⟨rfl, e⟩ := y; exact ⟨Same.refl _, x, e, rfl⟩) (fun i x v H2 e s2 q => by subst q; exact turn i v H2 e (s1.trans s2)) (fun H2 s2 q => done D H2 (Same.free s1 hD) (s1.trans s2) q)
theorem lcTd (as : List α) (enc : α → PyData) (r : α → Option PyData) (hsz : as.length ≤ 1000000)
    (hl : ∀ R : VK, (∀ x H1, Same H H1 → Dq H1 x (.tuple (as.map enc)) → R x H1) → tl σ H R)
    (turn : ∀ (i : Nat) b x H1, as[i]? = some b → Same H H1 → Dq H1 x (enc b) → TurnOk g tt te vs σ x H1 (r b)) (done : ∀ D H1, Same H H1 → Ls H1 D (as.filterMap r) → Q (.ref D) H1) : tLc (iTup K tl) g tt te vs σ H Q := by
  refine hl _ fun x H1 s1 hx => ?_
  obtain ⟨a, xs, rfl, hT, hq⟩ := hx.tup_inv
  have hl2 : xs.length = as.length := by rw [hq.length, List.length_map]
  refine ⟨a, rfl, ⟨xs, hT.seq⟩, fun D hD => ?_⟩
  refine lc_run (walk_tup (K := K) (a := a) (xs := xs)) as (fun b v H => Dq H v (enc b)) r hl2.symm (by omega) hD (fun H2 s2 => (hT.same s2).seq)
    (fun i H2 x H3 hi s2 y => ?_) (fun i b x H2 e s2 q => turn i b x H2 e (s1.trans s2) q) (fun H2 s2 q => done D H2 (s1.trans s2) q)
  obtain ⟨rfl, e⟩ := y
  obtain ⟨d, e1, q⟩ := hq.get e
  rw [List.getElem?_map] at e1
  obtain ⟨b, hb, rfl⟩ := Option.map_eq_some_iff.mp e1
  exact ⟨Same.refl _, b, hb, q.mono (Tk.of s2)⟩
end
end Cc

end

section
set_option Elab.async false
set_option linter.all false
set_option maxRecDepth 100000
set_option maxHeartbeats 4000000
namespace Cc
open PySem PySem.Spec L2

/-! ### what stands for a scheme, a store -/
def Sc.dD (s : Sc) : PyData := .tuple (s.ds.map fun d => eI [d.1, d.2])
def Sc.cD (s : Sc) : PyData := eL s.cv
structure StoreAt (a : Ad) (H : Hp) (p : Addr) (s : Sc) : Prop where
  ex : ∃ dx e q d c, SlX.Slt H p a.CS dx [some (.ref e), some (.ref q)] ∧ Tq H e (s.ed.map V.int) ∧ Tq H q [.ref d, .ref c] ∧ Dq H (.ref d) s.dD ∧ Tq H c s.cv
theorem slt_same {H H' : Hp} {p C dx : Addr} {vs : List (Option V)} (h : SlX.Slt H p C dx vs) (e : Same H H') : SlX.Slt H' p C dx vs := by
  rcases h with ⟨h1, h2⟩ | ⟨h1, h2⟩
  · exact .inl ⟨e _ _ h1, h2⟩
  · exact .inr ⟨e _ _ h1, e _ _ h2⟩
theorem StoreAt.mono {a : Ad} {H H' : Hp} {p : Addr} {s : Sc} (h : StoreAt a H p s) (e : Same H H') : StoreAt a H' p s := by
  obtain ⟨dx, e', q, d, c, h1, h2, h3, h4, h5⟩ := h
  exact ⟨dx, e', q, d, c, slt_same h1 e, h2.same e, h3.same e, h4.mono (Tk.of e), h5.same e⟩
/-- a new tuple of flat things, a new list of data -/
def NewL (H : Hp) (l : List V) (Q : VK) : Prop := ∀ p H', Same H H' → Tq H' p l → Q (.ref p) H'
def NewLs (H : Hp) (ds : List PyData) (Q : VK) : Prop := ∀ p H', Same H H' → Ls H' p ds → Q (.ref p) H'
theorem iteD {p A B : Prop} [Decidable p] (h : p) (k : A) : if decide p = true then A else B := by rw [if_pos (decide_eq_true h)]; exact k
theorem iteDn {p A B : Prop} [Decidable p] (h : ¬ p) (k : B) : if decide p = true then A else B := by rw [if_neg (by simp [h])]; exact k
theorem iteN {p A B : Prop} [Decidable p] (h : p) (k : B) : if (!decide p) = true then A else B := by rw [if_neg (by simp [h])]; exact k
theorem iteB {b : Bool} {A B : Prop} (h : b = true) (k : A) : if b = true then A else B := by rw [if_pos h]; exact k
theorem iteBf {b : Bool} {A B : Prop} (h : b = false) (k : B) : if b = true then A else B := by rw [if_neg (by simp [h])]; exact k

/-! ### the small defs -/
def sp_is_number (a : Ad) : Sp := fun vs H Q _ => ∃ i lo hi : Int, vs = [.int i, .int lo, .int hi] ∧ Q (.bl (decide (lo ≤ i ∧ i ≤ hi))) H
def sp_is_word (a : Ad) : Sp := fun vs H Q _ => ∃ c : Str, vs = [.str c] ∧ c ∈ crN ∧ ∀ H', Same H H' → Q (.bl true) H'
def sp_is_door (a : Ad) : Sp := fun vs H Q _ => ∃ (p : Addr) (x y : Int), vs = [.ref p] ∧ Tq H p [.int x, .int y] ∧ (1 ≤ x ∧ x ≤ 99 ∧ 1 ≤ y ∧ y ≤ 4) ∧ ∀ H', Same H H' → Q (.bl true) H'
def sp_are_doors (a : Ad) : Sp := fun vs H Q _ => ∃ (v : V) (s : Sc), vs = [v] ∧ Dq H v s.dD ∧ s.Ok ∧ ∀ H', Same H H' → Q (.bl true) H'
def sp_are_crates (a : Ad) : Sp := fun vs H Q _ => ∃ (p : Addr) (s : Sc), vs = [.ref p, .int (s.ed.length : Int)] ∧ Tq H p s.cv ∧ s.Ok ∧ ∀ H', Same H H' → Q (.bl true) H'
theorem crN_word : ∀ c ∈ crN, 1 ≤ c.length ∧ c.length ≤ 8 ∧ c.cps.size ≤ 1000000 ∧ c.length ≤ sizeLine ∧ ∀ x ∈ c.cps.toList, x ∈ ("abcdefghijklmnopqrstuvwxyz" : Str).cps.toList := by
  decide +kernel
section
variable {P : Program} {w : World} {K : PySem.W.Frag} {mg : Str → Option Value} {base : Heap} {a : Ad}
theorem ok_is_number (T : Txt K mg a) : FnOk P w K mg base CX0 1 a.f_is_number a.d_is_number ["value", "smallest", "largest"] (sp_is_number a) := by
  refine T.F_is_number.ok sc_is_number (fun vs H Q E h => ?_) (fun cdv A outer s H vs Q E hr h => ?_)
  · obtain ⟨i, lo, hi, rfl, k⟩ := h; rfl
  · obtain ⟨i, lo, hi, rfl, k⟩ := h
    have hu := hr.units
    refine ⟨_, (pss_one (ps_ret (pe_and (pe_callB (call_isiK K) (by rfl) T.z_isinstance (by decide +kernel) (pa_cons (pv 0) (pa_cons (pe_ty "int" T.z_int (by decide +kernel)) pa_nil))) (pe_and (pe_not (pe_callB (call_isiK K) (by rfl) T.z_isinstance (by decide +kernel) (pa_cons (pv 0) (pa_cons (pe_ty "bool" T.z_bool (by decide +kernel)) pa_nil)))) (pe_one (pe_chain op_le op_le (pv 1) (pv 0) (pv 2))))))), ?_⟩
    refine ⟨_, rfl, _, _, _, _, _, rfl, ClsV.ty _, TyX.base (TyOf.int _), kit_ty (by decide +kernel), true, rfl, iteT ?_⟩
    refine ⟨_, rfl, _, _, _, _, _, rfl, ClsV.ty _, TyX.base (TyOf.int _), kit_ty (by decide +kernel), false, rfl, true, rfl, iteT ?_⟩
    refine ⟨_, rfl, _, rfl, _, _, rfl, rfl, _, rfl, ?_⟩
    refine ite2 (fun e => ?_) (fun e => ?_)
    · have e := of_decide_eq_true e
      refine ⟨_, rfl, _, _, rfl, rfl, ?_⟩
      have : decide (lo ≤ i ∧ i ≤ hi) = decide (i ≤ hi) := by simp [e]
      rw [this] at k; exact k
    · have e : ¬ lo ≤ i := fun z => e (decide_eq_true z)
      have : decide (lo ≤ i ∧ i ≤ hi) = false := by simp [e]
      rw [this] at k; exact k
theorem ok_is_word (T : Txt K mg a) : FnOk P w K mg base CX0 1 a.f_is_word a.d_is_word ["value"] (sp_is_word a) := by
  refine T.F_is_word.ok sc_is_word (fun vs H Q E h => ?_) (fun cdv A outer s H vs Q E hr h => ?_)
  · obtain ⟨c, rfl, hc, k⟩ := h; rfl
  · obtain ⟨c, rfl, hc, k⟩ := h
    have hu := hr.units
    refine ⟨_, (pss_cons (ps_if (pw_or (pt_not (pt_val (pe_callB (call_isiK K) (by rfl) T.z_isinstance (by decide +kernel) (pa_cons (pv 0) (pa_cons (pe_ty "str" T.z_str (by decide +kernel)) pa_nil))))) (pw_or1 (pt_not (pt_chain op_le op_le pe_int (pe_callB call_len_str (by rfl) T.z_len (by decide +kernel) (pa_cons (pv 0) pa_nil)) (pe_g T.c_MAX_LETTERS))))).pt (pss_one (ps_ret pe_bl)) pss_nil)
       (pss_one (ps_ret (pe_callB (cr_allK K rfl) (by rfl) T.z_all (by decide +kernel) (pa_cons (pe_lc (own := [("letter", 1)]) (g := (gName 1)) rfl sc_is_word.nd (pi_str (pv 0)) (blkOk_by (own := [("letter", 1)]) (N := ["value", "letter"]) (sc := defScope s_is_word) (by decide +kernel))
       (fun _ _ _ _ _ => (pg_name (i := 1) sc_is_word.nd rfl (Or.inl rfl))) (fun _ _ _ _ _ => pts_nil) (fun _ _ _ _ _ => (pe_cmpR op_in_sign (pv 1) (pe_g T.c_LETTERS) (by with_unfolding_all rfl)))) pa_nil))))), ?_⟩
    obtain ⟨h1, h8, hz, hzl, hin⟩ := crN_word c hc
    refine ⟨_, rfl, _, _, _, _, _, rfl, ClsV.ty _, TyX.base (TyOf.str _), kit_ty (by decide +kernel), true, rfl, iteF ?_⟩
    refine ⟨_, rfl, _, rfl, hzl, _, _, rfl, rfl, _, rfl, iteD (by omega) ?_⟩
    refine ⟨_, _, rfl, rfl, _, rfl, iteN (by omega) ?_⟩
    refine r_next (r_ret (r_cb1 (lcS (z := c) (fun _ => some (.bool true)) hz (fun R h => ⟨_, rfl, h H (Same.refl H)⟩) (fun x H1 hx s1 => ?_) (fun D H1 s1 hl => ?_))))
    · refine turn_1 fun N h1 => ⟨_, rfl, _, _, rfl, rfl, ?_⟩
      rw [decide_eq_true (hin x hx)]
      exact h1 _ _ (Same.refl _) (.bl true)
    · have e : c.cps.toList.filterMap (fun _ => some (PyData.bool true)) = (c.cps.toList.map fun _ => true).map PyData.bool := by simp
      rw [e] at hl
      refine ⟨_, _, rfl, SqL.of hl.bools, ?_⟩
      have : (c.cps.toList.map fun _ => true).all id = true := by simp
      rw [this]
      exact k _ s1
theorem ok_is_door (T : Txt K mg a) : FnOk P w K mg base CX0 2 a.f_is_door a.d_is_door ["value"] (sp_is_door a) := by
  refine T.F_is_door.ok sc_is_door (fun vs H Q E h => ?_) (fun cdv A outer s H vs Q E hr h => ?_)
  · obtain ⟨p, x, y, rfl, hp, hb, k⟩ := h; rfl
  · obtain ⟨p, x, y, rfl, hp, hb, k⟩ := h
    have hu := hr.units
    refine ⟨_, (pss_cons (ps_if (pw_or (pt_not (pt_val (pe_callB (call_isiK K) (by rfl) T.z_isinstance (by decide +kernel) (pa_cons (pv 0) (pa_cons (pe_ty "tuple" T.z_tuple (by decide +kernel)) pa_nil))))) (pw_or1 (pt_cmpR op_ne (pe_callB (call_len_seqK K) (by rfl) T.z_len (by decide +kernel) (pa_cons (pv 0) pa_nil)) pe_int (nomark _)))).pt (pss_one (ps_ret pe_bl)) pss_nil)
       (pss_one (ps_ret (pe_and (pe_call (ok_is_number T) (hr.mono (by decide)) (by rfl) T.m_is_number T.F_is_number.kp T.b_is_number .nil pass0 (pa_cons (pe_ix (ix_tupK K) (pv 0) pe_int (by intro _ _; rfl)) (pa_cons pe_int (pa_cons (pe_g T.c_MAX_WARMTH) pa_nil)))) (pe_one (pe_call (ok_is_number T) (hr.mono (by decide)) (by rfl) T.m_is_number T.F_is_number.kp T.b_is_number .nil pass0 (pa_cons (pe_ix (ix_tupK K) (pv 0) pe_int (by intro _ _; rfl)) (pa_cons pe_int (pa_cons (pe_g T.c_MAX_BEHIND) pa_nil))))))))), ?_⟩
    refine ⟨_, rfl, _, _, _, _, _, rfl, ClsV.ty _, (by obtain ⟨o, _, e⟩ := hp; exact TyX.fTuple e), kit_ty (by decide +kernel), true, rfl, iteF ?_⟩
    refine ⟨_, rfl, _, _, rfl, .inr hp.seq, rfl, _, rfl, iteN rfl ?_⟩
    refine r_next ?_
    refine ⟨_, rfl, _, _, _, _, rfl, rfl, hp.seq, rfl, _, _, _, rfl, ?_⟩
    rw [decide_eq_true (show (1 : Int) ≤ x ∧ x ≤ 99 by omega)]
    refine ⟨_, rfl, iteT ?_⟩
    refine ⟨_, rfl, _, _, _, _, rfl, rfl, hp.seq, rfl, _, _, _, rfl, ?_⟩
    rw [decide_eq_true (show (1 : Int) ≤ y ∧ y ≤ 4 by omega)]
    exact k H (Same.refl H)
end
end Cc

end

section
set_option Elab.async false
set_option linter.all false
set_option maxRecDepth 100000
set_option maxHeartbeats 4000000
namespace Cc
open PySem PySem.Spec L2

theorem crN_lt (n : Nat) (h : n ≤ 3) : (crN.take n).Pairwise fun x y => x.cps.toList < y.cps.toList := by
  match n, h with
  | 0, _ => exact .nil
  | 1, _ => decide +kernel
  | 2, _ => decide +kernel
  | 3, _ => decide +kernel
theorem Sc.Ok.cr {s : Sc} (o : s.Ok) {c : Str} (h : c ∈ s.cs) : c ∈ crN := by
  obtain ⟨n, _, _, _, e⟩ := o.cs
  rw [e] at h
  exact List.mem_of_mem_take h
theorem Sc.Ok.lt {s : Sc} (o : s.Ok) {i : Nat} {c d : Str} (h1 : s.cs[i]? = some c) (h2 : s.cs[i + 1]? = some d) : c.cps.toList < d.cps.toList := by
  obtain ⟨n, _, h3, _, e⟩ := o.cs
  rw [e] at h1 h2
  have l1 := lt_of_get h1
  have l2 := lt_of_get h2
  have := List.pairwise_iff_getElem.mp (crN_lt n h3) i (i + 1) l1 l2 (Nat.lt_succ_self i)
  rw [(List.getElem?_eq_some_iff.mp h1).2, (List.getElem?_eq_some_iff.mp h2).2] at this
  exact this
theorem Sc.Ok.sum {s : Sc} (o : s.Ok) : (s.ds.map (·.2)).sum = (s.ed.length : Int) := (edF_len s.ds 0 fun d hd => by have := o.dw d hd; omega).symm
theorem bools_all {α : Type} (l : List α) : (l.map fun _ => true).all id = true := by simp
theorem bools_fm {α : Type} (l : List α) : l.filterMap (fun _ => some (PyData.bool true)) = (l.map fun _ => true).map PyData.bool := by simp
theorem cutV_tail (xs : List V) (h : 1 ≤ xs.length) : cutV xs (some 1) none = xs.drop 1 := by
  unfold cutV
  rw [show HT.sIx xs.length 0 (some 1) = min 1 xs.length from HT.sIx_nat _ _ 1, HT.sIx_none, Nat.min_eq_left h]
  exact List.take_of_length_le (by simp)
theorem edF_snoc : ∀ (ds : List (Int × Int)) (k : Int) (i : Nat) (d : Int × Int), ds[i]? = some d → edF k (ds.take (i + 1)) = edF k (ds.take i) ++ List.replicate d.2.toNat (k + i)
  | [], _, _, _, h => by simp at h
  | x :: ds, k, 0, d, h => by
    simp at h
    subst h
    simp [edF]
  | x :: ds, k, i + 1, d, h => by
    have := edF_snoc ds (k + 1) i d (by simpa using h)
    rw [List.take_succ_cons, List.take_succ_cons, edF, edF, this, List.append_assoc]
    congr 3
    omega

section
variable {P : Program} {w : World} {K : PySem.W.Frag} {mg : Str → Option Value} {base : Heap} {a : Ad}
theorem ok_are_doors (T : Txt K mg a) : FnOk P w K mg base CX0 3 a.f_are_doors a.d_are_doors ["row"] (sp_are_doors a) := by
  refine T.F_are_doors.ok sc_are_doors (fun vs H Q E h => ?_) (fun cdv A outer s H vs Q E hr h => ?_)
  · obtain ⟨v, s, rfl, hv, o, k⟩ := h; rfl
  · obtain ⟨v, s, rfl, hv, o, k⟩ := h
    have hu := hr.units
    refine ⟨_, (pss_cons (ps_if (pw_or (pt_not (pt_chain op_le op_le pe_int (pe_callB (call_len_seqK K) (by rfl) T.z_len (by decide +kernel) (pa_cons (pv 0) pa_nil)) (pe_g T.c_MAX_DOORS))) (pw_or1 (pt_not (pt_val (pe_callB (cr_allK K rfl) (by rfl) T.z_all (by decide +kernel) (pa_cons (pe_lc (own := [("door", 1)]) (g := (gName 1)) rfl sc_are_doors.nd (pi_tup (pv 0)) (blkOk_by (own := [("door", 1)]) (N := ["row", "door", "warmth", "places"]) (sc := defScope s_are_doors) (by decide +kernel))
       (fun _ _ _ _ _ => (pg_name (i := 1) sc_are_doors.nd rfl (Or.inl rfl))) (fun _ _ _ _ _ => pts_nil) (fun _ _ _ _ _ => (pe_call (ok_is_door T) (hr.mono (by decide)) (by rfl) T.m_is_door T.F_is_door.kp T.b_is_door .nil pass0 (pa_cons (pv 1) pa_nil)))) pa_nil)))))).pt (pss_one (ps_ret pe_bl)) pss_nil)
       (pss_one (ps_ret (pe_cmpR op_le (pe_callB (cr_sumK K rfl) (by rfl) T.z_sum (by decide +kernel) (pa_cons (pe_lc (own := [("warmth", 2), ("places", 3)]) (g := (gTup K 2 (gCons (gName 2) (gCons (gName 3) gNil)))) rfl sc_are_doors.nd (pi_tup (pv 0)) (blkOk_by (own := [("warmth", 2), ("places", 3)]) (N := ["row", "door", "warmth", "places"]) (sc := defScope s_are_doors) (by decide +kernel))
       (fun _ _ _ _ _ => (pg_tup rfl (pgs_cons (pg_name (i := 2) sc_are_doors.nd rfl (Or.inl rfl)) (pgs_cons (pg_name (i := 3) sc_are_doors.nd rfl (Or.inl rfl)) pgs_nil)))) (fun _ _ _ _ _ => pts_nil) (fun _ _ _ _ _ => (pv 3))) pa_nil)) (pe_g T.c_MAX_PLACES) (nomark _))))), ?_⟩
    obtain ⟨p, xs, rfl, hp, hq⟩ := hv.tup_inv
    have hl : xs.length = s.ds.length := by rw [hq.length, List.length_map]
    have h1 := o.d1
    have h4 := o.d4
    refine ⟨_, rfl, _, _, rfl, .inr hp.seq, _, _, rfl, rfl, _, rfl, iteD (by omega) ?_⟩
    refine ⟨_, _, rfl, rfl, _, rfl, iteN (by omega) ?_⟩
    refine r_not (r_tb (r_cb1 (lcT s.ds (fun d => eI [d.1, d.2]) (fun _ => some (.bool true)) (by omega) (fun R h => ⟨_, rfl, h H (Same.refl H)⟩) hp hq (fun i d x H1 hi s1 hx => ?_) (fun D H1 s1 hl => ?_))))
    · refine turn_1 fun N h1 => ⟨_, rfl, ?_⟩
      obtain ⟨t, rfl, ht⟩ := hx.eI_inv
      have hb := o.dw d (List.mem_of_getElem? hi)
      exact ⟨t, d.1, d.2, rfl, ht, by omega, fun H2 s2 => h1 _ _ s2 (.bl true)⟩
    rw [bools_fm] at hl
    refine ⟨_, _, rfl, SqL.of hl.bools, ?_⟩
    rw [bools_all]
    refine ⟨_, rfl, iteF ?_⟩
    refine r_next (r_ret (r_op (r_cb1 (lcT s.ds (fun d => eI [d.1, d.2]) (fun d => some (.int d.2)) (by omega) (fun R h => ⟨_, rfl, h H1 (Same.refl H1)⟩) (hp.same s1) (hq.same s1) (fun i d x H2 hi s2 hx => ?_) (fun D2 H2 s2 hl2 => ?_)))))
    · obtain ⟨t, rfl, ht⟩ := hx.eI_inv
      exact turn_p ht.seq fun N h1 => ⟨_, rfl, h1 _ _ (Same.refl _) (.int _)⟩
    have e : s.ds.filterMap (fun d => some (PyData.int d.2)) = (s.ds.map (·.2)).map PyData.int := by simp
    rw [e] at hl2
    refine ⟨_, _, rfl, SqL.of hl2.ints, ?_⟩
    refine ⟨_, _, rfl, rfl, ?_⟩
    have hs := o.sz
    have hs2 := o.sum
    show Q (V.bl (decide ((s.ds.map (·.2)).sum ≤ 6))) H2
    rw [decide_eq_true (show (s.ds.map (·.2)).sum ≤ 6 by omega)]
    exact k H2 (s1.trans s2)
theorem ok_are_crates (T : Txt K mg a) : FnOk P w K mg base CX0 3 a.f_are_crates a.d_are_crates ["row", "places"] (sp_are_crates a) := by
  refine T.F_are_crates.ok sc_are_crates (fun vs H Q E h => ?_) (fun cdv A outer s H vs Q E hr h => ?_)
  · obtain ⟨p, s, rfl, hp, o, k⟩ := h; rfl
  · obtain ⟨p, s, rfl, hp, o, k⟩ := h
    have hu := hr.units
    refine ⟨_, (pss_cons (ps_if (pw_or (pt_not (pt_chain op_le op_le pe_int (pe_callB (call_len_seqK K) (by rfl) T.z_len (by decide +kernel) (pa_cons (pv 0) pa_nil)) (pe_callB (call_min2 rfl) (by rfl) T.z_min (by decide +kernel) (pa_cons (pe_g T.c_MAX_CRATES) (pa_cons (pv 1) pa_nil))))) (pw_or1 (pt_not (pt_val (pe_callB (cr_allK K rfl) (by rfl) T.z_all (by decide +kernel) (pa_cons (pe_lc (own := [("name", 2)]) (g := (gName 2)) rfl sc_are_crates.nd (pi_tup (pv 0)) (blkOk_by (own := [("name", 2)]) (N := ["row", "places", "name", "one", "other"]) (sc := defScope s_are_crates) (by decide +kernel))
       (fun _ _ _ _ _ => (pg_name (i := 2) sc_are_crates.nd rfl (Or.inl rfl))) (fun _ _ _ _ _ => pts_nil) (fun _ _ _ _ _ => (pe_call (ok_is_word T) (hr.mono (by decide)) (by rfl) T.m_is_word T.F_is_word.kp T.b_is_word .nil pass0 (pa_cons (pv 2) pa_nil)))) pa_nil)))))).pt (pss_one (ps_ret pe_bl)) pss_nil)
       (pss_one (ps_ret (pe_callB (cr_allK K rfl) (by rfl) T.z_all (by decide +kernel) (pa_cons (pe_lc (own := [("one", 3), ("other", 4)]) (g := (gTup K 2 (gCons (gName 3) (gCons (gName 4) gNil)))) rfl sc_are_crates.nd (RZ.pi_zipA (by rfl) T.z_zip (pa_cons (pv 0) (pa_cons (pe_slice (sl_tupXK K) (pv 0) (po_some pe_int) po_none) pa_nil))) (blkOk_by (own := [("one", 3), ("other", 4)]) (N := ["row", "places", "name", "one", "other"]) (sc := defScope s_are_crates) (by decide +kernel))
       (fun _ _ _ _ _ => (pg_tup rfl (pgs_cons (pg_name (i := 3) sc_are_crates.nd rfl (Or.inl rfl)) (pgs_cons (pg_name (i := 4) sc_are_crates.nd rfl (Or.inl rfl)) pgs_nil)))) (fun _ _ _ _ _ => pts_nil) (fun _ _ _ _ _ => (pe_cmpR op_lt_str (pv 3) (pv 4) (nomark _)))) pa_nil))))), ?_⟩
    have ⟨l1, l3, l5⟩ := o.len
    have hs := o.sz
    have hl : s.cv.length = s.cs.length := Sc.cv_len
    refine ⟨_, rfl, _, _, rfl, .inr hp.seq, _, _, rfl, rfl, _, rfl, iteD (by omega) ?_⟩
    refine ⟨_, rfl, _, _, rfl, _, _, rfl, rfl, _, rfl, iteN ?_ ?_⟩
    · split <;> omega
    refine r_not (r_tb (r_cb1 (lcTf (fun _ => some (.bool true)) (by omega) (fun R h => ⟨_, rfl, h H (Same.refl H)⟩) hp (fun i x H1 hi s1 => ?_) (fun D H1 s1 hl => ?_))))
    · obtain ⟨c, hc, rfl⟩ := Sc.mem_cv.mp (List.mem_of_getElem? hi)
      exact turn_1 fun N h1 => ⟨_, rfl, c, rfl, o.cr hc, fun H2 s2 => h1 _ _ s2 (.bl true)⟩
    rw [bools_fm] at hl
    refine ⟨_, _, rfl, SqL.of hl.bools, ?_⟩
    rw [bools_all]
    refine ⟨_, rfl, iteF ?_⟩
    refine r_next (r_ret (r_cb1 (lcZ (a := p) (xs := s.cv) (ys := s.cv.drop 1) (fun _ => some (.bool true)) (by omega) (fun R h => ⟨_, rfl, _, rfl, _, rfl, p, s.cv, rfl, (hp.same s1).seq, fun z => ?_, fun _ q H2 hq s2 ht => h q H2 s2 (by rw [cutV_tail _ (by omega)] at ht; exact ht)⟩) (hp.same s1).seq (fun i u v T' H2 h1 h2 s2 hT => ?_) (fun D2 H2 s2 hl2 => ?_))))
    · have := z.1
      rw [show HT.sIx s.cv.length 0 (some 1) = min 1 s.cv.length from HT.sIx_nat _ _ 1] at this
      omega
    · rw [List.getElem?_drop] at h2
      unfold Sc.cv at h1 h2
      rw [List.getElem?_map] at h1 h2
      obtain ⟨c, hc, rfl⟩ := Option.map_eq_some_iff.mp h1
      obtain ⟨d, hd, rfl⟩ := Option.map_eq_some_iff.mp h2
      refine turn_p hT fun N h1 => ⟨_, rfl, _, rfl, _, _, rfl, rfl, ?_⟩
      rw [decide_eq_true (o.lt hc (by rw [Nat.add_comm]; exact hd))]
      exact h1 _ _ (Same.refl _) (.bl true)
    rw [bools_fm] at hl2
    refine ⟨_, _, rfl, SqL.of hl2.bools, ?_⟩
    rw [bools_all]
    exact k H2 (s1.trans s2)
end
end Cc

end

section
set_option Elab.async false
set_option linter.all false
set_option maxRecDepth 100000
set_option maxHeartbeats 4000000
namespace Cc
open PySem PySem.Spec L2

theorem Tq.ne {H : Hp} {b p : Addr} {xs : List V} {o : HO} (h : Tq H b xs) (hp : H p = some o) (hn : ∀ ob ys, o ≠ .frz ob (.tup ys)) : b ≠ p := fun z => by
  obtain ⟨ob, _, e⟩ := h
  rw [z, hp] at e
  exact hn _ _ (Option.some.inj e)
/-- all but what stands at the addresses xs stays -/
def Sx (xs : List Addr) (H H' : Hp) : Prop := ∀ b u, b ∉ xs → H b = some u → H' b = some u
theorem Sx.tk {xs : List Addr} {H H' : Hp} (e : Sx xs H H') (hn : ∀ p ∈ xs, ∀ o ys, H p ≠ some (.frz o (.tup ys))) : Tk H H' := fun b ys ⟨o, d, q⟩ =>
  ⟨o, d, e b _ (fun hb => hn b hb o ys q) q⟩
theorem Sx.of {xs : List Addr} {H H' : Hp} (e : Same H H') : Sx xs H H' := fun b u _ h => e b u h
theorem Sx.trans {xs : List Addr} {H H1 H2 : Hp} (a : Sx xs H H1) (b : Sx xs H1 H2) : Sx xs H H2 := fun c u hc h => b c u hc (a c u hc h)

/-! ### Store -/
def sp_Store_init (a : Ad) : Sp := fun vs H Q _ => ∃ (p dx c : Addr) (d : V) (s : Sc), vs = [.ref p, d, .ref c] ∧ H p = some (.ins a.CS dx []) ∧ H dx = some (.own p) ∧ dx ≠ p ∧ Dq H d s.dD ∧ Tq H c s.cv ∧ s.Ok ∧ ∀ H', Sx [p, dx] H H' → StoreAt a H' p s → Q .non H'
def sp_Store_doors (a : Ad) : Sp := fun vs H Q _ => ∃ (p : Addr) (s : Sc), vs = [.ref p] ∧ StoreAt a H p s ∧ ∀ v, Dq H v s.dD → Q v H
def sp_Store_crates (a : Ad) : Sp := fun vs H Q _ => ∃ (p : Addr) (s : Sc), vs = [.ref p] ∧ StoreAt a H p s ∧ ∀ c, Tq H c s.cv → Q (.ref c) H
def sp_Store_size (a : Ad) : Sp := fun vs H Q _ => ∃ (p : Addr) (s : Sc), vs = [.ref p] ∧ StoreAt a H p s ∧ Q (.int (s.ed.length : Int)) H
def sp_Store_len (a : Ad) : Sp := fun vs H Q _ => ∃ (p : Addr) (s : Sc), vs = [.ref p] ∧ StoreAt a H p s ∧ Q (.int (s.ds.length : Int)) H
def sp_Store_door_of (a : Ad) : Sp := fun vs H Q _ => ∃ (p : Addr) (s : Sc) (i : Nat), vs = [.ref p, .int (i : Int)] ∧ StoreAt a H p s ∧ i < s.ed.length ∧ Q (.int (edA s i)) H
def sp_Store_places_of (a : Ad) : Sp := fun vs H Q _ => ∃ (p : Addr) (s : Sc) (d : Int), vs = [.ref p, .int d] ∧ StoreAt a H p s ∧ s.Ok ∧ 0 ≤ d ∧ d < s.ds.length ∧ NewL H ((plcs s d).map fun i : Nat => V.int (i : Int)) Q
theorem plcs_fm (s : Sc) (d : Int) : (List.range s.ed.length).filterMap (fun i : Nat => if s.ed[i]? = some d then some (PyData.int (i : Int)) else none) = ((plcs s d).map fun i : Nat => V.int (i : Int)).map dV := by
  unfold plcs
  rw [List.map_map]
  induction List.range s.ed.length with
  | nil => rfl
  | cons i is ih =>
    by_cases h : s.ed[i]? = some d
    · rw [List.filterMap_cons, if_pos h, List.filter_cons_of_pos (by simp [h]), List.map_cons, ih]; rfl
    · rw [List.filterMap_cons, if_neg h, List.filter_cons_of_neg (by simp [h]), ih]
section
variable {P : Program} {w : World} {K : PySem.W.Frag} {mg : Str → Option Value} {base : Heap} {a : Ad}
theorem ok_Store_doors (T : Txt K mg a) : FnOk P w K mg base CX0 1 a.f_Store_doors a.d_Store_doors ["self"] (sp_Store_doors a) := by
  refine T.F_Store_doors.ok sc_Store_doors (fun vs H Q E h => ?_) (fun cdv A outer s H vs Q E hr h => ?_)
  · obtain ⟨p, s, rfl, S, k⟩ := h; rfl
  · obtain ⟨p, s, rfl, S, k⟩ := h
    have hu := hr.units
    refine ⟨_, (pss_one (ps_ret (pe_ix (ix_tupK K) (pe_slK K (pv 0)) pe_int (by intro _ _; rfl)))), ?_⟩
    obtain ⟨dx, e, q, d, c, h1, h2, h3, h4, h5⟩ := S
    exact ⟨_, rfl, p, a.CS, dx, a.pP, _, a.iP, .ref q, rfl, h1, T.clS, T.slP, (by rw [T.ixP]; rfl), _, _, _, _, rfl, rfl, h3.seq, rfl, k _ h4⟩
theorem ok_Store_crates (T : Txt K mg a) : FnOk P w K mg base CX0 1 a.f_Store_crates a.d_Store_crates ["self"] (sp_Store_crates a) := by
  refine T.F_Store_crates.ok sc_Store_crates (fun vs H Q E h => ?_) (fun cdv A outer s H vs Q E hr h => ?_)
  · obtain ⟨p, s, rfl, S, k⟩ := h; rfl
  · obtain ⟨p, s, rfl, S, k⟩ := h
    have hu := hr.units
    refine ⟨_, (pss_one (ps_ret (pe_ix (ix_tupK K) (pe_slK K (pv 0)) pe_int (by intro _ _; rfl)))), ?_⟩
    obtain ⟨dx, e, q, d, c, h1, h2, h3, h4, h5⟩ := S
    exact ⟨_, rfl, p, a.CS, dx, a.pP, _, a.iP, .ref q, rfl, h1, T.clS, T.slP, (by rw [T.ixP]; rfl), _, _, _, _, rfl, rfl, h3.seq, rfl, k _ h5⟩
theorem ok_Store_size (T : Txt K mg a) : FnOk P w K mg base CX0 1 a.f_Store_size a.d_Store_size ["self"] (sp_Store_size a) := by
  refine T.F_Store_size.ok sc_Store_size (fun vs H Q E h => ?_) (fun cdv A outer s H vs Q E hr h => ?_)
  · obtain ⟨p, s, rfl, S, k⟩ := h; rfl
  · obtain ⟨p, s, rfl, S, k⟩ := h
    have hu := hr.units
    refine ⟨_, (pss_one (ps_ret (pe_callB (call_len_seqK K) (by rfl) T.z_len (by decide +kernel) (pa_cons (pe_slK K (pv 0)) pa_nil)))), ?_⟩
    obtain ⟨dx, e, q, d, c, h1, h2, h3, h4, h5⟩ := S
    refine ⟨_, rfl, p, a.CS, dx, a.pE, _, a.iE, .ref e, rfl, h1, T.clS, T.slE, (by rw [T.ixE]; rfl), _, _, rfl, .inr h2.seq, ?_⟩
    rw [List.length_map]
    exact k
theorem ok_Store_len (T : Txt K mg a) : FnOk P w K mg base CX0 1 a.f_Store_len a.d_Store_len ["self"] (sp_Store_len a) := by
  refine T.F_Store_len.ok sc_Store_len (fun vs H Q E h => ?_) (fun cdv A outer s H vs Q E hr h => ?_)
  · obtain ⟨p, s, rfl, S, k⟩ := h; rfl
  · obtain ⟨p, s, rfl, S, k⟩ := h
    have hu := hr.units
    refine ⟨_, (pss_one (ps_ret (pe_callB (call_len_seqK K) (by rfl) T.z_len (by decide +kernel) (pa_cons (pe_ix (ix_tupK K) (pe_slK K (pv 0)) pe_int (by intro _ _; rfl)) pa_nil)))), ?_⟩
    obtain ⟨dx, e, q, d, c, h1, h2, h3, h4, h5⟩ := S
    obtain ⟨t, xs, e1, ht, hq⟩ := h4.tup_inv
    cases e1
    refine ⟨_, rfl, p, a.CS, dx, a.pP, _, a.iP, .ref q, rfl, h1, T.clS, T.slP, (by rw [T.ixP]; rfl), _, _, _, _, rfl, rfl, h3.seq, rfl, _, _, rfl, .inr ht.seq, ?_⟩
    rw [hq.length, List.length_map]
    exact k
theorem ok_Store_door_of (T : Txt K mg a) : FnOk P w K mg base CX0 2 a.f_Store_door_of a.d_Store_door_of ["self", "place"] (sp_Store_door_of a) := by
  refine T.F_Store_door_of.ok sc_Store_door_of (fun vs H Q E h => ?_) (fun cdv A outer s H vs Q E hr h => ?_)
  · obtain ⟨p, s, i, rfl, S, hi, k⟩ := h; rfl
  · obtain ⟨p, s, i, rfl, S, hi, k⟩ := h
    have hu := hr.units
    refine ⟨_, (pss_cons (ps_if (pt_not (pt_val (pe_call (ok_is_number T) (hr.mono (by decide)) (by rfl) T.m_is_number T.F_is_number.kp T.b_is_number .nil pass0 (pa_cons (pv 1) (pa_cons pe_int (pa_cons (pe_op op_sub (pe_callB (call_len_seqK K) (by rfl) T.z_len (by decide +kernel) (pa_cons (pe_slK K (pv 0)) pa_nil)) pe_int) pa_nil)))))) (pss_one ps_never) pss_nil)
       (pss_one (ps_ret (pe_ix (ix_tupK K) (pe_slK K (pv 0)) (pv 1) (by intro _ _; rfl))))), ?_⟩
    obtain ⟨dx, e, q, d, c, h1, h2, h3, h4, h5⟩ := S
    refine ⟨_, rfl, _, rfl, p, a.CS, dx, a.pE, _, a.iE, .ref e, rfl, h1, T.clS, T.slE, (by rw [T.ixE]; rfl), _, _, rfl, .inr h2.seq, _, _, rfl, rfl, (i : Int), 0, _, rfl, ?_⟩
    rw [decide_eq_true (show (0 : Int) ≤ i ∧ (i : Int) ≤ (s.ed.map V.int).length - 1 by rw [List.length_map]; omega)]
    refine ⟨_, rfl, iteF ?_⟩
    refine r_next ⟨_, rfl, p, a.CS, dx, a.pE, _, a.iE, .ref e, rfl, h1, T.clS, T.slE, (by rw [T.ixE]; rfl), _, rfl, _, _, _, _, rfl, rfl, h2.seq, atI_nat (v := .int (edA s i)) ?_, k⟩
    rw [List.getElem?_map, edA_get hi]
    rfl
theorem ok_Store_places_of (T : Txt K mg a) : FnOk P w K mg base CX0 2 a.f_Store_places_of a.d_Store_places_of ["self", "door"] (sp_Store_places_of a) := by
  refine T.F_Store_places_of.ok sc_Store_places_of (fun vs H Q E h => ?_) (fun cdv A outer s H vs Q E hr h => ?_)
  · obtain ⟨p, s, d, rfl, S, o, hd0, hd1, k⟩ := h; rfl
  · obtain ⟨p, s, d, rfl, S, o, hd0, hd1, k⟩ := h
    have hu := hr.units
    refine ⟨_, (pss_cons (ps_if (pt_not (pt_val (pe_call (ok_is_number T) (hr.mono (by decide)) (by rfl) T.m_is_number T.F_is_number.kp T.b_is_number .nil pass0 (pa_cons (pv 1) (pa_cons pe_int (pa_cons (pe_op op_sub (pe_callB (call_len_seqK K) (by rfl) T.z_len (by decide +kernel) (pa_cons (pe_ix (ix_tupK K) (pe_slK K (pv 0)) pe_int (by intro _ _; rfl)) pa_nil)) pe_int) pa_nil)))))) (pss_one ps_never) pss_nil)
       (pss_one (ps_ret (pe_callTy (cr_tupLK K) (by rfl) T.z_tuple (by decide +kernel) (pa_cons (pe_lc (own := [("place", 2), ("edge", 3)]) (g := (gTup K 2 (gCons (gName 2) (gCons (gName 3) gNil)))) rfl sc_Store_places_of.nd (pi_enumT (by rfl) T.z_enumerate (pa_cons (pe_slK K (pv 0)) pa_nil)) (blkOk_by (own := [("place", 2), ("edge", 3)]) (N := ["self", "door", "place", "edge"]) (sc := defScope s_Store_places_of) (by decide +kernel))
       (fun _ _ _ _ _ => (pg_tup rfl (pgs_cons (pg_name (i := 2) sc_Store_places_of.nd rfl (Or.inl rfl)) (pgs_cons (pg_name (i := 3) sc_Store_places_of.nd rfl (Or.inl rfl)) pgs_nil)))) (fun _ _ _ _ _ => (pts_one (pt_cmpR op_eq (pv 3) (pv 1) (nomark _)))) (fun _ _ _ _ _ => (pv 2))) pa_nil))))), ?_⟩
    obtain ⟨dx, e, q, dd', c, h1, h2, h3, h4, h5⟩ := S
    obtain ⟨t, xs, e1, ht, hq⟩ := h4.tup_inv
    cases e1
    have hs := o.sz
    refine ⟨_, rfl, _, rfl, p, a.CS, dx, a.pP, _, a.iP, .ref q, rfl, h1, T.clS, T.slP, (by rw [T.ixP]; rfl), _, _, _, _, rfl, rfl, h3.seq, rfl, _, _, rfl, .inr ht.seq, _, _, rfl, rfl, d, 0, _, rfl, ?_⟩
    rw [decide_eq_true (show (0 : Int) ≤ d ∧ d ≤ (xs.length : Int) - 1 by rw [hq.length, List.length_map]; omega)]
    refine ⟨_, rfl, iteF ?_⟩
    refine r_next (r_ret (r_cb1 (lcE (a := e) (xs := s.ed.map V.int) (fun i : Nat => if s.ed[i]? = some d then some (PyData.int (i : Int)) else none) (by rw [List.length_map]; omega)
      (fun R h => ⟨_, rfl, p, a.CS, dx, a.pE, _, a.iE, .ref e, rfl, h1, T.clS, T.slE, (by rw [T.ixE]; rfl), h H (Same.refl H) h2⟩) (fun i v T' H1 hv s1 hT => ?_) (fun D H1 s1 hl => ?_))))
    · rw [List.getElem?_map] at hv
      obtain ⟨z, hz, rfl⟩ := Option.map_eq_some_iff.mp hv
      rw [hz]
      refine turn_pt (b := decide (z = d)) hT (fun R h => ⟨_, rfl, _, rfl, rfl, ?_⟩) (fun hb => ?_) (fun hb => ?_)
      · rw [show decide (V.int z = V.int d) = decide (z = d) from by simp]
        exact ⟨_, rfl, h _ (Same.refl _)⟩
      · have := of_decide_eq_false hb
        rw [if_neg (by simpa using this)]
      · have := of_decide_eq_true hb
        exact ⟨.int (i : Int), by rw [if_pos (by rw [this])], fun H2 s2 N h1 => ⟨_, rfl, h1 _ _ (Same.refl _) (.int _)⟩⟩
    · rw [List.length_map, plcs_fm] at hl
      exact ⟨_, _, rfl, SqL.of (hl.flat (by simp [Cc.fl])), fun p2 H2 _ s2 ht2 => k p2 H2 (s1.trans s2) ht2⟩
theorem ok_Store_init (T : Txt K mg a) : FnOk P w K mg base CX0 4 a.f_Store_init a.d_Store_init ["self", "doors", "crates"] (sp_Store_init a) := by
  refine T.F_Store_init.ok sc_Store_init (fun vs H Q E h => ?_) (fun cdv A outer s H vs Q E hr h => ?_)
  · obtain ⟨p, dx, c, d, s, rfl, hs, hdx, hne, hd, hc, o, k⟩ := h; rfl
  · obtain ⟨p, dx, c, d, s, rfl, hs, hdx, hne, hd, hc, o, k⟩ := h
    have hu := hr.units
    refine ⟨_, (pss_cons (ps_if (pt_not (pt_val (pe_call (ok_are_doors T) (hr.mono (by decide)) (by rfl) T.m_are_doors T.F_are_doors.kp T.b_are_doors .nil pass0 (pa_cons (pv 1) pa_nil)))) (pss_one ps_never) pss_nil)
       (pss_cons (ps_if (pt_not (pt_val (pe_call (ok_are_crates T) (hr.mono (by decide)) (by rfl) T.m_are_crates T.F_are_crates.kp T.b_are_crates .nil pass0 (pa_cons (pv 2) (pa_cons (pe_callB (cr_sumK K rfl) (by rfl) T.z_sum (by decide +kernel) (pa_cons (pe_lc (own := [("warmth", 3), ("places", 4)]) (g := (gTup K 2 (gCons (gName 3) (gCons (gName 4) gNil)))) rfl sc_Store_init.nd (pi_tup (pv 1)) (blkOk_by (own := [("warmth", 3), ("places", 4)]) (N := ["self", "doors", "crates", "warmth", "places", "edges", "door"]) (sc := defScope s_Store_init) (by decide +kernel))
       (fun _ _ _ _ _ => (pg_tup rfl (pgs_cons (pg_name (i := 3) sc_Store_init.nd rfl (Or.inl rfl)) (pgs_cons (pg_name (i := 4) sc_Store_init.nd rfl (Or.inl rfl)) pgs_nil)))) (fun _ _ _ _ _ => pts_nil) (fun _ _ _ _ _ => (pv 4))) pa_nil)) pa_nil))))) (pss_one ps_never) pss_nil)
       (pss_cons (SlX.ps_sl (pv 0) (pe_tupX (pa_cons (pv 1) (pa_cons (pv 2) pa_nil))))
       (pss_cons (ps_set (i := 5) sc_Store_init.nd rfl (Or.inl rfl) (pe_lst pa_nil))
       (pss_cons (ps_for PassesOwn.never rfl (pi_enumT (by rfl) T.z_enumerate (pa_cons (pv 1) pa_nil)) (pg_tup rfl (pgs_cons (pg_name (i := 6) sc_Store_init.nd rfl (Or.inl rfl)) (pgs_cons (pg_tup rfl (pgs_cons (pg_name (i := 3) sc_Store_init.nd rfl (Or.inl rfl)) (pgs_cons (pg_name (i := 4) sc_Store_init.nd rfl (Or.inl rfl)) pgs_nil))) pgs_nil)))
       (pss_one (ps_expr (pe_bm PySem.F.plainAttrs_list PySem.F.slot_list_extend PySem.F.type_list_extend mt_extend (pv 5) (pa_cons (pe_op op_rep (pe_lst (pa_cons (pv 6) pa_nil)) (pv 4)) pa_nil)))))
       (pss_one (SlX.ps_sl (pv 0) (pe_callTy cr_tupL (by rfl) T.z_tuple (by decide +kernel) (pa_cons (pv 5) pa_nil))))))))), ?_⟩
    have hsz := o.sz
    have h4 := o.d4
    refine ⟨_, rfl, d, s, rfl, hd, o, fun H1 s1 => ⟨_, rfl, iteF ?_⟩⟩
    obtain ⟨t, xs, rfl, ht, hq⟩ := hd.tup_inv
    refine r_next ⟨_, rfl, ?_⟩
    refine r_cb1 (lcT s.ds (fun d => eI [d.1, d.2]) (fun d => some (.int d.2)) (by omega) (fun R h => ⟨_, rfl, h H1 (Same.refl H1)⟩) (ht.same s1) (hq.same s1) (fun i d x H2 hi s2 hx => ?_) (fun D2 H2 s2 hl2 => ?_))
    · obtain ⟨t, rfl, ht⟩ := hx.eI_inv
      exact turn_p ht.seq fun N h1 => ⟨_, rfl, h1 _ _ (Same.refl _) (.int _)⟩
    have e : s.ds.filterMap (fun d => some (PyData.int d.2)) = (s.ds.map (·.2)).map PyData.int := by simp
    rw [e] at hl2
    refine ⟨_, _, rfl, SqL.of hl2.ints, ?_⟩
    have s12 := s1.trans s2
    refine ⟨c, s, by rw [o.sum]; rfl, hc.same s12, o, fun H3 s3 => ⟨_, rfl, iteF ?_⟩⟩
    have s13 := s12.trans s3
    refine r_next ⟨_, rfl, _, rfl, (by show 2 ≤ 1000000; decide), fun q H4 hq0 s4 hqt => ?_⟩
    have s14 := s13.trans s4
    have hs4 := s14 _ _ hs
    have hdx4 := s14 _ _ hdx
    refine ⟨_, rfl, p, a.CS, dx, a.pP, _, a.iP, rfl, .inl ⟨hs4, rfl⟩, T.clS, T.slP, ?_⟩
    rw [T.ixP]
    have e5 : SlX.putS 1 (.ref q) [] = [none, some (.ref q)] := rfl
    rw [e5]
    have sx5 : Sx [p, dx] H4 (SlX.slH H4 p a.CS dx [none, some (.ref q)]) := fun b u hb h => by
      simp only [List.mem_cons, List.not_mem_nil, or_false, not_or] at hb
      rw [SlX.slH_ne hb.1 hb.2]; exact h
    have nt : ∀ b ∈ [p, dx], ∀ o ys, H4 b ≠ some (.frz o (.tup ys)) := fun b hb o ys e => by
      simp only [List.mem_cons, List.not_mem_nil, or_false] at hb
      rcases hb with rfl | rfl
      · rw [hs4] at e; cases e
      · rw [hdx4] at e; cases e
    have tk5 := sx5.tk nt
    have slt5 : SlX.Slt (SlX.slH H4 p a.CS dx [none, some (.ref q)]) p a.CS dx [none, some (.ref q)] := SlX.slH_slt hne
    have hb5p : (SlX.slH H4 p a.CS dx [none, some (.ref q)]) p = some (SlX.SlO p a.CS dx [none, some (.ref q)]) := upd_same
    have hb5d : (SlX.slH H4 p a.CS dx [none, some (.ref q)]) dx = some (.xd []) := by
      unfold SlX.slH
      rw [upd_ne hne, upd_same]
    revert tk5 slt5 hb5p hb5d sx5
    generalize SlX.slH H4 p a.CS dx [none, some (.ref q)] = H5
    intro sx5 tk5 slt5 hb5p hb5d
    have qt5 : Tq H5 q [.ref t, .ref c] := tk5 _ _ hqt
    have t5 : Tq H5 t xs := tk5 _ _ (ht.same s14)
    have c5 : Tq H5 c s.cv := tk5 _ _ (hc.same s14)
    have q5 : DqAll H5 xs (s.ds.map fun d => eI [d.1, d.2]) := (hq.same s14).mono tk5
    refine ⟨by decide, fun el hel => ?_⟩
    have hl5 : xs.length = s.ds.length := by rw [q5.length, List.length_map]
    refine ⟨_, rfl, t, xs, rfl, (t5.same (Same.new hel)).seq, for_it walk_enumT (fun i σ H' => ∃ v3 v4 v6, σ = [some (.ref p), some (.ref t), some (.ref c), v3, v4, some (.ref el), v6] ∧ Same H5 H' ∧ H' el = some (.lst ((edF 0 (s.ds.take i)).map V.int))) ⟨_, _, _, rfl, Same.new hel, upd_same⟩
      (fun i σ H' _ ⟨_, _, _, _, s6, _⟩ => (t5.same s6).seq) ?_ ?_⟩
    · rintro i v σ H6 H7 hi ⟨v3, v4, v6, rfl, s6, hel6⟩ ⟨T', _, x, rfl, hT, rfl, e1, hx⟩
      cases e1
      obtain ⟨dd, hdd, hxd⟩ := (q5.same s6).get hx
      rw [List.getElem?_map] at hdd
      obtain ⟨z, hz, rfl⟩ := Option.map_eq_some_iff.mp hdd
      obtain ⟨tx, rfl, htx⟩ := hxd.eI_inv
      have hb := o.dw z (List.mem_of_getElem? hz)
      have s67 : Same H6 (upd H6 T' (.tup [.int (i : Nat), .ref tx])) := Same.new hT
      refine ⟨T', _, rfl, SqT.of upd_same, rfl, _, _, rfl, _, _, rfl, ⟨tx, _, rfl, (htx.same s67).seq, rfl, _, _, rfl, _, _, rfl, rfl, rfl, ?_⟩⟩
      have hel7 := s67 _ _ hel6
      refine ⟨_, rfl, .inl ⟨rfl, _, SqL.of hel7⟩, _, rfl, (by show 1 ≤ sizeLine; decide), fun l1 h1 => ⟨_, rfl, l1, z.2, _, rfl, rfl, upd_same, by omega, by omega, ?_, fun l2 h2 => ?_⟩⟩
      · exact sz_ok (by simp only [List.length_singleton]; omega)
      · have ne1 : el ≠ l1 := ne_of_none hel7 h1
        have h2' : (upd H6 T' (.tup [.int (i : Nat), .ref tx])) l2 = none := by
          by_cases z : l2 = l1
          · rw [z]; exact h1
          · rw [upd_ne z] at h2; exact h2
        have ne2 : el ≠ l2 := ne_of_none hel7 h2'
        have hel8 : (upd (upd (upd H6 T' (.tup [.int (i : Nat), .ref tx])) l1 (.lst [.int (i : Nat)])) l2 (.lst (List.replicate z.2.toNat [V.int (i : Nat)]).flatten)) el = some (.lst ((edF 0 (s.ds.take i)).map V.int)) := by
          rw [upd_ne ne2, upd_ne ne1]; exact hel7
        refine ⟨el, l2, _, _, rfl, rfl, hel8, upd_same, ?_, ?_⟩
        · have := congrArg List.length (edF_snoc s.ds 0 i z hz)
          have l2 : (edF 0 (s.ds.take i)).length ≤ (edF 0 s.ds).length := by
            clear this
            have : ∀ (ds : List (Int × Int)) (k : Int) (i : Nat), (edF k (ds.take i)).length ≤ (edF k ds).length := by
              intro ds
              induction ds with
              | nil => intro k i; simp [edF]
              | cons d ds ih =>
                intro k i
                cases i with
                | zero => simp [edF]
                | succ i => rw [List.take_succ_cons, edF, edF, List.length_append, List.length_append]; have := ih (k + 1) i; omega
            exact this s.ds 0 i
          have l3 : (edF 0 s.ds).length ≤ 5 := hsz
          refine sz_ok ?_
          rw [List.flatten_replicate_singleton, List.length_map, List.length_replicate]
          omega
        · refine ⟨_, _, _, rfl, ?_, ?_⟩
          · have s8 := s6.trans s67
            have s9 : Same (upd H6 T' (.tup [.int (i : Nat), .ref tx])) (upd (upd (upd H6 T' (.tup [.int (i : Nat), .ref tx])) l1 (.lst [.int (i : Nat)])) l2 (.lst (List.replicate z.2.toNat [V.int (i : Nat)]).flatten)) := (Same.new h1).trans (Same.new h2)
            exact Same.mut (s8.trans s9) hel
          · rw [edF_snoc s.ds 0 i z hz, List.map_append, List.flatten_replicate_singleton, List.map_replicate, Int.zero_add]
            exact upd_same
    · rintro σ H6 ⟨v3, v4, v6, rfl, s6, hel6⟩
      rw [hl5, List.take_length] at hel6
      refine ⟨_, rfl, _, _, rfl, SqL.of hel6, fun e H7 he0 s7 he7 => ?_⟩
      have s57 := s6.trans s7
      refine ⟨_, rfl, p, a.CS, dx, a.pE, _, a.iE, rfl, slt_same slt5 s57, T.clS, T.slE, ?_⟩
      rw [T.ixE]
      have e6 : SlX.putS 0 (.ref e) [none, some (.ref q)] = [some (.ref e), some (.ref q)] := rfl
      rw [e6]
      have hp7 := s57 _ _ hb5p
      have hd7 := s57 _ _ hb5d
      have sx8 : Sx [p, dx] H7 (SlX.slH H7 p a.CS dx [some (.ref e), some (.ref q)]) := fun b u hb h => by
        simp only [List.mem_cons, List.not_mem_nil, or_false, not_or] at hb
        rw [SlX.slH_ne hb.1 hb.2]; exact h
      have nt7 : ∀ b ∈ [p, dx], ∀ o ys, H7 b ≠ some (.frz o (.tup ys)) := fun b hb o ys e => by
        simp only [List.mem_cons, List.not_mem_nil, or_false] at hb
        rcases hb with rfl | rfl
        · rw [hp7] at e; unfold SlX.SlO at e; cases e
        · rw [hd7] at e; cases e
      have tk8 := sx8.tk nt7
      refine k _ (((Sx.of s14).trans sx5).trans ((Sx.of s57).trans sx8)) ⟨dx, e, q, t, c, SlX.slH_slt hne, tk8 _ _ he7, tk8 _ _ (qt5.same s57), ?_, tk8 _ _ (c5.same s57)⟩
      exact (Dq.tup (t5.same s57) (q5.same s57)).mono tk8
end
end Cc

end

section
set_option Elab.async false
set_option linter.all false
set_option maxRecDepth 100000
set_option maxHeartbeats 4000000
namespace Cc
open PySem PySem.Spec L2

/-! ### layouts -/
def sp_all_layouts (a : Ad) : Sp := fun vs H Q _ => ∃ (p : Addr) (s : Sc), vs = [.ref p] ∧ StoreAt a H p s ∧ s.Ok ∧ NewLs H ((lays s).map eL) Q
def sp_seen_behind (a : Ad) : Sp := fun vs H Q _ => ∃ (p b : Addr) (s : Sc) (l : List V) (d : Int), vs = [.ref p, .ref b, .int d] ∧ StoreAt a H p s ∧ Tq H b l ∧ l.all fl = true ∧ l.length ≤ 1000 ∧ NewL H (seenL s l d) Q
def sp_rank (a : Ad) : Sp := fun vs H Q _ => ∃ (b : Addr) (l : List V), vs = [.ref b] ∧ Tq H b l ∧ l.length ≤ 1000 ∧ (∀ x ∈ l, LV x) ∧ NewL H (l.map rk) Q
def sp_is_crate (a : Ad) : Sp := fun vs H Q _ => ∃ (p : Addr) (s : Sc) (c : Str), vs = [.ref p, .str c] ∧ StoreAt a H p s ∧ Q (.bl (decide (c ∈ s.cs))) H
def sp_exchanged (a : Ad) : Sp := fun vs H Q _ => ∃ (b : Addr) (l : List V) (i j : Nat), vs = [.ref b, .int (i : Int), .int (j : Int)] ∧ Tq H b l ∧ i < l.length ∧ j < l.length ∧ NewL H (swapL l i j) Q
theorem inV_dec {x : V} {xs : List V} (hx : fl x = true) (h : xs.all fl = true) : inV x xs = decide (x ∈ xs) := by
  unfold inV
  rw [Bool.eq_iff_iff, decide_eq_true_eq, List.any_eq_true]
  constructor
  · rintro ⟨y, hy, e⟩
    rw [eqV_dec (List.all_eq_true.mp h y hy) hx] at e
    rw [← of_decide_eq_true e]
    exact hy
  · intro hy
    exact ⟨x, hy, by rw [eqV_dec hx hx]; simp⟩
theorem Sc.cv_fl (s : Sc) : s.cv.all fl = true := List.all_eq_true.mpr fun x hx => by
  obtain ⟨c, _, rfl⟩ := Sc.mem_cv.mp hx
  rfl
theorem Pre.fl {s : Sc} {k : Nat} {row : List V} (p : Pre s k row) : row.all Cc.fl = true := List.all_eq_true.mpr fun x hx => by
  rcases p.mem x hx with rfl | h
  · rfl
  · exact List.all_eq_true.mp s.cv_fl x h
theorem left_fm (s : Sc) (row : List V) : s.cv.filterMap (fun x => if x ∉ row then some (dV x) else none) = (s.cv.filter fun x => decide (x ∉ row)).map dV := by
  induction s.cv with
  | nil => rfl
  | cons x l ih =>
    by_cases h : x ∉ row
    · rw [List.filterMap_cons, if_pos h, List.filter_cons_of_pos (by simpa using h), List.map_cons, ih]
    · rw [List.filterMap_cons, if_neg h, List.filter_cons_of_neg (by simpa using h), ih]
theorem take_snoc {α : Type} {l : List α} {i : Nat} {x : α} (h : l[i]? = some x) : l.take (i + 1) = l.take i ++ [x] := by
  rw [List.take_add_one, h]; rfl
section
variable {P : Program} {w : World} {K : PySem.W.Frag} {mg : Str → Option Value} {base : Heap} {a : Ad}
theorem ok_rank (T : Txt K mg a) : FnOk P w K mg base CX0 1 a.f_rank a.d_rank ["layout"] (sp_rank a) := by
  refine T.F_rank.ok sc_rank (fun vs H Q E h => ?_) (fun cdv A outer s H vs Q E hr h => ?_)
  · obtain ⟨b, l, rfl, hl, hlen, hf, k⟩ := h; rfl
  · obtain ⟨b, l, rfl, hl, hlen, hf, k⟩ := h
    have hu := hr.units
    refine ⟨_, (pss_one (ps_ret (pe_callTy (cr_tupLK K) (by rfl) T.z_tuple (by decide +kernel) (pa_cons (pe_lc (own := [("name", 1)]) (g := (gName 1)) rfl sc_rank.nd (pi_tup (pv 0)) (blkOk_by (own := [("name", 1)]) (N := ["layout", "name"]) (sc := defScope s_rank) (by decide +kernel))
       (fun _ _ _ _ _ => (pg_name (i := 1) sc_rank.nd rfl (by first | exact Or.inl rfl | exact Or.inr rfl))) (fun _ _ _ _ _ => pts_nil) (fun _ _ _ _ _ => (pe_ifExp (pt_cmp (pc_isN (pv 1))) pe_str (pv 1)))) pa_nil)))), ?_⟩
    refine r_ret (r_cb1 (lcTf (fun x => some (dV (rk x))) (by omega) (fun R h => ⟨_, rfl, h H (Same.refl H)⟩) hl (fun i x H1 hx s1 => ?_) (fun D H1 s1 hD => ?_)))
    · refine turn_1 fun N h1 => ⟨_, rfl, _, rfl, ?_⟩
      have hLV := hf x (List.mem_of_getElem? hx)
      refine ite2 (fun e => ?_) (fun e => ?_)
      · have e := of_decide_eq_true e
        subst e
        exact h1 _ _ (Same.refl _) (Dq.flat rfl)
      · have e : x ≠ .non := fun z => e (decide_eq_true z)
        refine ⟨_, rfl, h1 _ _ (Same.refl _) ?_⟩
        have : rk x = x := by unfold rk; rw [if_neg e]
        rw [this]
        exact Dq.flat hLV.fl
    · have e : l.filterMap (fun x => some (dV (rk x))) = (l.map rk).map dV := by simp
      rw [e] at hD
      exact ⟨_, _, rfl, SqL.of (hD.flat (List.all_eq_true.mpr fun x hx => by obtain ⟨y, hy, rfl⟩ := List.mem_map.mp hx; exact rk_fl (hf y hy))), fun p H2 _ s2 ht => k p H2 (s1.trans s2) ht⟩
theorem ok_is_crate (T : Txt K mg a) : FnOk P w K mg base CX0 3 a.f_is_crate a.d_is_crate ["store", "value"] (sp_is_crate a) := by
  refine T.F_is_crate.ok sc_is_crate (fun vs H Q E h => ?_) (fun cdv A outer s H vs Q E hr h => ?_)
  · obtain ⟨p, s, c, rfl, S, k⟩ := h; rfl
  · obtain ⟨p, s, c, rfl, S, k⟩ := h
    have hu := hr.units
    refine ⟨_, (pss_one (ps_ret (pe_and (pe_callB (call_isiK K) (by rfl) T.z_isinstance (by decide +kernel) (pa_cons (pv 1) (pa_cons (pe_ty "str" T.z_str (by decide +kernel)) pa_nil))) (pe_one (pe_cmpR (op_in_seqK K) (pv 1) (pe_pS (pv 0) T.clS T.p_Store_crates (ok_Store_crates T) T.b_Store_crates (hr.mono (by decide))) (by with_unfolding_all rfl)))))), ?_⟩
    obtain ⟨dx, e, q, d, c', h1, h2, h3, h4, h5⟩ := id S
    refine ⟨_, rfl, _, _, _, _, _, rfl, ClsV.ty _, TyX.base (TyOf.str _), kit_ty (by decide +kernel), true, rfl, iteT ?_⟩
    refine ⟨_, rfl, _, rfl, p, dx, _, rfl, h1, p, s, rfl, S, fun c2 hc2 => ⟨c2, s.cv, rfl, .inr hc2.seq, rfl, fl_flats s.cv_fl, ?_⟩⟩
    show Q (.bl (inV (.str c) s.cv)) H
    rw [inV_dec rfl s.cv_fl]
    have : decide (V.str c ∈ s.cv) = decide (c ∈ s.cs) := by
      rw [Bool.eq_iff_iff]
      simp only [decide_eq_true_eq, Sc.mem_cv]
      exact ⟨fun ⟨d, hd, e⟩ => by cases e; exact hd, fun h => ⟨c, h, rfl⟩⟩
    rw [this]
    exact k
theorem ok_seen_behind (T : Txt K mg a) : FnOk P w K mg base CX0 1 a.f_seen_behind a.d_seen_behind ["store", "layout", "door"] (sp_seen_behind a) := by
  refine T.F_seen_behind.ok sc_seen_behind (fun vs H Q E h => ?_) (fun cdv A outer s H vs Q E hr h => ?_)
  · obtain ⟨p, b, s, l, d, rfl, S, hb, hf, hlen, k⟩ := h; rfl
  · obtain ⟨p, b, s, l, d, rfl, S, hb, hf, hlen, k⟩ := h
    have hu := hr.units
    refine ⟨_, (pss_one (ps_ret (pe_callTy (cr_tupLK K) (by rfl) T.z_tuple (by decide +kernel) (pa_cons (pe_lc (own := [("name", 3), ("edge", 4)]) (g := (gTup K 2 (gCons (gName 3) (gCons (gName 4) gNil)))) rfl sc_seen_behind.nd (RZ.pi_zipA (by rfl) T.z_zip (pa_cons (pv 1) (pa_cons (pe_slK K (pv 0)) pa_nil))) (blkOk_by (own := [("name", 3), ("edge", 4)]) (N := ["store", "layout", "door", "name", "edge"]) (sc := defScope s_seen_behind) (by decide +kernel))
       (fun _ _ _ _ _ => (pg_tup rfl (pgs_cons (pg_name (i := 3) sc_seen_behind.nd rfl (by first | exact Or.inl rfl | exact Or.inr rfl)) (pgs_cons (pg_name (i := 4) sc_seen_behind.nd rfl (by first | exact Or.inl rfl | exact Or.inr rfl)) pgs_nil)))) (fun _ _ _ _ _ => (pts_one (pt_cmpR op_eq (pv 4) (pv 2) (nomark _)))) (fun _ _ _ _ _ => (pv 3))) pa_nil)))), ?_⟩
    obtain ⟨dx, e, q, d', c, h1, h2, h3, h4, h5⟩ := S
    refine r_ret (r_cb1 (lcZ (a := b) (xs := l) (ys := s.ed.map V.int) (fun p => if p.2 = .int d then some (dV p.1) else none) (by omega)
      (fun R h => ⟨_, rfl, _, rfl, p, a.CS, dx, a.pE, _, a.iE, .ref e, rfl, h1, T.clS, T.slE, (by rw [T.ixE]; rfl), h e H (Same.refl H) h2⟩) hb.seq (fun i u v T' H1 hu' hv s1 hT => ?_) (fun D H1 s1 hl => ?_)))
    · rw [List.getElem?_map] at hv
      obtain ⟨z, hz, rfl⟩ := Option.map_eq_some_iff.mp hv
      refine turn_pt (b := decide (z = d)) hT (fun R h => ⟨_, rfl, _, rfl, rfl, ?_⟩) (fun hb => ?_) (fun hb => ?_)
      · rw [show decide (V.int z = V.int d) = decide (z = d) from by simp]
        exact ⟨_, rfl, h _ (Same.refl _)⟩
      · have := of_decide_eq_false hb
        rw [if_neg (by simpa using this)]
      · have := of_decide_eq_true hb
        exact ⟨dV u, by rw [if_pos (by rw [this])], fun H2 s2 N h1 => ⟨_, rfl, h1 _ _ (Same.refl _) (Dq.flat (List.all_eq_true.mp hf u (List.mem_of_getElem? hu')))⟩⟩
    · have e2 : (l.zip (s.ed.map V.int)).filterMap (fun p => if p.2 = .int d then some (dV p.1) else none) = (seenL s l d).map dV := by
        unfold seenL
        rw [List.zip_map_right, List.filterMap_map, List.map_filterMap]
        congr 1
        funext p
        by_cases h : p.2 = d <;> simp [h]
      rw [e2] at hl
      exact ⟨_, _, rfl, SqL.of (hl.flat (List.all_eq_true.mpr fun x hx => List.all_eq_true.mp hf x (seen_mem hx))), fun p2 H2 _ s2 ht2 => k p2 H2 (s1.trans s2) ht2⟩
theorem ok_exchanged (T : Txt K mg a) : FnOk P w K mg base CX0 1 a.f_exchanged a.d_exchanged ["layout", "one", "other"] (sp_exchanged a) := by
  refine T.F_exchanged.ok sc_exchanged (fun vs H Q E h => ?_) (fun cdv A outer s H vs Q E hr h => ?_)
  · obtain ⟨b, l, i, j, rfl, hb, hi, hj, k⟩ := h; rfl
  · obtain ⟨b, l, i, j, rfl, hb, hi, hj, k⟩ := h
    have hu := hr.units
    refine ⟨_, (pss_cons (ps_set (i := 3) sc_exchanged.nd rfl (by first | exact Or.inl rfl | exact Or.inr rfl) (pe_callTy (call_list_ofK K) (by rfl) T.z_list (by decide +kernel) (pa_cons (pv 0) pa_nil)))
       (pss_cons (ps_asg (pe_tupX (pa_cons (pe_ix (ix_listK K) (pv 3) (pv 2) (by intro _ _; rfl)) (pa_cons (pe_ix (ix_listK K) (pv 3) (pv 1) (by intro _ _; rfl)) pa_nil))) (pg_tup rfl (pgs_cons (pg_sub (pv 3) (pv 1) set_list) (pgs_cons (pg_sub (pv 3) (pv 2) set_list) pgs_nil))))
       (pss_one (ps_ret (pe_callTy (cr_tupLK K) (by rfl) T.z_tuple (by decide +kernel) (pa_cons (pv 3) pa_nil)))))), ?_⟩
    refine ⟨_, rfl, b, l, rfl, .inr hb.seq, fun f hf => ?_⟩
    have s1 : Same H (upd H f (.lst l)) := Same.new hf
    have hx : ∀ m, m < l.length → l[m]? = some (l.getD m .non) := fun m hm => by rw [List.getD_eq_getElem?_getD, List.getElem?_eq_getElem hm]; rfl
    refine ⟨_, rfl, _, rfl, f, l, (j : Int), _, rfl, rfl, SqL.of upd_same, atI_nat (hx j hj), _, rfl, _, rfl, f, l, (i : Int), _, rfl, rfl, SqL.of upd_same, atI_nat (hx i hi), (by show 2 ≤ 1000000; decide), fun t H2 ht s2 hT => ?_⟩
    have hf2 : H2 f = some (.lst l) := s2 _ _ upd_same
    have ix : ∀ (n m : Nat), m < n → ixN n (m : Int) = some m := fun n m h => by
      unfold ixN
      rw [if_pos (by omega), if_pos (by omega)]
      rfl
    refine ⟨t, _, rfl, hT.seq, rfl, _, _, rfl, ⟨_, rfl, _, rfl, f, l, (i : Int), i, rfl, rfl, hf2, ix _ _ hi, _, _, rfl, _, rfl, _, rfl, f, _, (j : Int), j, rfl, rfl, upd_same, ix _ _ (by rw [List.length_set]; exact hj), rfl, ?_⟩⟩
    refine ⟨_, rfl, _, _, rfl, SqL.of upd_same, fun p H3 hp s3 hp3 => k p H3 ?_ hp3⟩
    exact (Same.mut (Same.mut (s1.trans s2) hf) hf).trans s3
theorem ok_all_layouts (T : Txt K mg a) : FnOk P w K mg base CX0 3 a.f_all_layouts a.d_all_layouts ["store"] (sp_all_layouts a) := by
  refine T.F_all_layouts.ok sc_all_layouts (fun vs H Q E h => ?_) (fun cdv A outer s H vs Q E hr h => ?_)
  · obtain ⟨p, s, rfl, S, o, k⟩ := h; rfl
  · obtain ⟨p, s, rfl, S, o, k⟩ := h
    have hu := hr.units
    refine ⟨_, (pss_cons (ps_set (i := 1) sc_all_layouts.nd rfl (by first | exact Or.inl rfl | exact Or.inr rfl) (pe_lst (pa_cons (pe_tupX pa_nil) pa_nil)))
       (pss_cons (ps_for PassesOwn.never rfl (pi_range1 (by rfl) T.z_range (pa_cons (pe_pS (pv 0) T.clS T.p_Store_size (ok_Store_size T) T.b_Store_size (hr.mono (by decide))) pa_nil)) (pg_name (i := 2) sc_all_layouts.nd rfl (by first | exact Or.inl rfl | exact Or.inr rfl))
       (pss_cons (ps_set (i := 3) sc_all_layouts.nd rfl (by first | exact Or.inl rfl | exact Or.inr rfl) (pe_lst pa_nil))
       (pss_cons (ps_for PassesOwn.never rfl (pi_list (pv 1)) (pg_name (i := 4) sc_all_layouts.nd rfl (by first | exact Or.inl rfl | exact Or.inr rfl))
       (pss_cons (ps_setLc (i := 5) (own := [("name", 6)]) (g := (gName 6)) rfl sc_all_layouts.nd rfl rfl (sw_true rfl rfl rfl rfl) (pi_tup (pe_pS (pv 0) T.clS T.p_Store_crates (ok_Store_crates T) T.b_Store_crates (hr.mono (by decide)))) (blkOk_by (own := [("name", 6)]) (N := ["store", "rows", "place", "longer", "row", "left", "name"]) (sc := defScope s_all_layouts) (by decide +kernel))
       (fun _ _ _ _ _ => (pg_name (i := 6) sc_all_layouts.nd rfl (by first | exact Or.inl rfl | exact Or.inr rfl))) (fun _ _ _ _ _ => (pts_one (pt_cmpR (op_notIn_seqK K) (pv 6) (pv 4) (by with_unfolding_all rfl)))) (fun _ _ _ _ _ => (pv 6)))
       (pss_cons (ps_if (pt_cmpR op_lt (pe_callB (call_len_seqK K) (by rfl) T.z_len (by decide +kernel) (pa_cons (pv 5) pa_nil)) (pe_op op_sub (pe_pS (pv 0) T.clS T.p_Store_size (ok_Store_size T) T.b_Store_size (hr.mono (by decide))) (pv 2)) (nomark _)) (pss_one (ps_expr (pe_bm PySem.F.plainAttrs_list PySem.F.slot_list_append PySem.F.type_list_append mt_append (pv 3) (pa_cons (pe_tupX (pa_starK K (pv 4) (pa_cons pe_non pa_nil))) pa_nil)))) pss_nil)
       (pss_one (ps_expr (pe_bm PySem.F.plainAttrs_list PySem.F.slot_list_extend PySem.F.type_list_extend mt_extend (pv 3) (pa_cons (pe_lc (own := [("name", 6)]) (g := (gName 6)) rfl sc_all_layouts.nd (pi_list (pv 5)) (blkOk_by (own := [("name", 6)]) (N := ["store", "rows", "place", "longer", "row", "left", "name"]) (sc := defScope s_all_layouts) (by decide +kernel))
       (fun _ _ _ _ _ => (pg_name (i := 6) sc_all_layouts.nd rfl (by first | exact Or.inl rfl | exact Or.inr rfl))) (fun _ _ _ _ _ => pts_nil) (fun _ _ _ _ _ => (pe_tupX (pa_starK K (pv 4) (pa_cons (pv 6) pa_nil))))) pa_nil)))))))
       (pss_one (ps_set (i := 1) sc_all_layouts.nd rfl (by first | exact Or.inl rfl | exact Or.inr rfl) (pv 3))))))
       (pss_one (ps_ret (pv 1))))), ?_⟩
    have hsz := o.sz
    obtain ⟨dx, e0, q0, d0, c0, hS, _⟩ := id S
    refine ⟨(by show 0 ≤ 1000000; decide), fun t0 H1 ht0 s1 hT0 => ⟨(by show 1 ≤ sizeLine; decide), fun r0 hr0 => ?_⟩⟩
    have s2 : Same H (upd H1 r0 (.lst [.ref t0])) := s1.trans (Same.new hr0)
    refine ⟨_, rfl, p, dx, _, rfl, slt_same hS s2, p, s, rfl, S.mono s2, (s.ed.length : Int), rfl, by omega, by omega, ?_⟩
    refine for_it walk_range (fun k σ H' => ∃ r v2 v3 v4 v5 v6, σ = [some (.ref p), some (.ref r), v2, v3, v4, v5, v6] ∧ Same H H' ∧ Ls H' r ((laysN s k).map eL)) ⟨r0, _, _, _, _, _, rfl, s2, [.ref t0], upd_same, ?_⟩ (fun _ _ _ _ _ => trivial) ?_ ?_
    · exact .one ((Dq.eL (l := []) hT0 rfl).mono (Tk.new hr0))
    · rintro kk x σ H3 H3' hk ⟨r, v2, v3, v4, v5, v6, rfl, s3, rows, hr, hq⟩ ⟨rfl, rfl⟩
      have hk' : kk < s.ed.length := by omega
      refine ⟨by decide, fun g hg => ?_⟩
      have hlen : rows.length = (laysN s kk).length := by rw [hq.length, List.length_map]
      have s34 : Same H3' (upd H3' g (.lst [])) := Same.new hg
      refine ⟨_, rfl, r, rfl, ⟨rows, SqL.of (s34 _ _ hr)⟩, for_it (walk_list (xs := rows)) (fun j σ H' => ∃ v4 v5 v6, σ = [some (.ref p), some (.ref r), some (.int (0 + (kk : Int))), some (.ref g), v4, v5, v6] ∧ Same H3' H' ∧ Ls H' g ((((laysN s kk).take j).flatMap (nxt s)).map eL)) ⟨_, _, _, rfl, s34, [], upd_same, .nil⟩
        (fun j σ H' _ ⟨_, _, _, _, s5, _⟩ => SqL.of (s5 _ _ hr)) ?_ ?_⟩
      · rintro j x σ H5 H5' hj ⟨v4, v5, v6, rfl, s5, acc, hacc, hqa⟩ ⟨rfl, hx⟩
        obtain ⟨dr, hdr, hxd⟩ := (hq.same s5).get hx
        rw [List.getElem?_map] at hdr
        obtain ⟨row, hrow, rfl⟩ := Option.map_eq_some_iff.mp hdr
        have pr := laysN_pre o kk row (List.mem_of_getElem? hrow)
        obtain ⟨tx, rfl, htx⟩ := hxd.eL_inv pr.fl
        have s05 := s3.trans s5
        refine r_asg (lcTx (xs := s.cv) (fun x => if x ∉ row then some (dV x) else none) ?_ (fun R h => ?_) (fun i x H6 hx6 s6 => ?_) (fun D H6 hDn s6 hD => ?_))
        · have := Sc.cv_len (s := s); have := o.len; omega
        · exact ⟨_, rfl, p, dx, _, rfl, slt_same hS s05, p, s, rfl, S.mono s05, fun c hc => h c H5' (Same.refl _) hc⟩
        · have fx := List.all_eq_true.mp s.cv_fl x (List.mem_of_getElem? hx6)
          refine turn_t (b := decide (x ∉ row)) (fun R h => ⟨_, rfl, _, rfl, tx, row, rfl, .inr (htx.same s6).seq, fl_flat fx, fl_flats pr.fl, ?_⟩) (fun hb => ?_) (fun hb => ?_)
          · refine ⟨!inV x row, rfl, ?_⟩
            rw [inV_dec fx pr.fl, show (!decide (x ∈ row)) = decide (x ∉ row) from by simp]
            exact h _ (Same.refl _)
          · rw [if_neg (of_decide_eq_false hb)]
          · exact ⟨dV x, if_pos (of_decide_eq_true hb), fun H7 s7 N h1 => ⟨_, rfl, h1 _ _ (Same.refl _) (Dq.flat fx)⟩⟩
        rw [left_fm] at hD
        have hlf : (s.cv.filter fun x => decide (x ∉ row)).all fl = true := List.all_eq_true.mpr fun x hx => List.all_eq_true.mp s.cv_fl x (List.mem_filter.mp hx).1
        have hD0 := hD.flat hlf
        have s06 := s05.trans s6
        have hg6 : H6 g = some (.lst acc) := s6 _ _ hacc
        have hga := hqa.same s6
        have hlen6 : acc.length ≤ 4 * j := by
          rw [hqa.length, List.length_map]
          have := flat_len (nxt s) 4 ((laysN s kk).take j) fun x _ => nxt_len o x
          rw [List.length_take] at this
          omega
        have hsm := laysN_small o (Nat.le_of_lt hk')
        have ht := pr.test o (Nat.le_of_lt hk')
        have hnl := nxt_len o row
        dsimp only
        refine r_nameSI (r_ifw (fun H7 => ∃ acc7, Same H3' H7 ∧ H7 D = some (.lst (s.cv.filter fun x => decide (x ∉ row))) ∧ Tq H7 tx row ∧ H7 g = some (.lst acc7) ∧ DqAll H7 acc7 (((((laysN s kk).take j).flatMap (nxt s)) ++ (if row.count .non < s.ed.length - s.cs.length then [row ++ [V.non]] else [])).map eL))
          (fun H7 ⟨acc7, s37, hD7, ht7, hg7, hq7⟩ => ?_) (fun last => ?_))
        · refine ⟨_, rfl, .inl ⟨rfl, _, SqL.of hg7⟩, ?_⟩
          refine lcL (s.cv.filter fun x => decide (x ∉ row)) dV (fun x => some (eL (row ++ [x]))) (by have h1 := List.length_filter_le (fun x => decide (x ∉ row)) s.cv; have := Sc.cv_len (s := s); have := o.len; omega)
            (fun R h => ⟨_, rfl, h D H7 (Same.refl _) (Ls.of_flat hlf hD7)⟩) (fun i x y H8 hx8 s8 hy => ?_) (fun D2 H8 s8 hl8 => ?_)
          · have fx := List.all_eq_true.mp hlf x (List.mem_of_getElem? hx8)
            obtain rfl := Dq.flat_inv fx hy
            refine turn_1 fun N h1 => ⟨_, rfl, tx, row, rfl, .inl (ht7.same s8).seq, _, rfl, ?_, fun q H9 hq s9 hT9 => h1 _ _ s9 (Dq.eL hT9 ?_)⟩
            · have := pr.len
              rw [List.length_append, List.length_singleton]; omega
            · rw [List.all_append, pr.fl]; simp [fx]
          · obtain ⟨zs, hz, hqz⟩ := hl8
            have hg8 := s8 _ _ hg7
            have eN : ((((laysN s kk).take j).flatMap (nxt s)) ++ (if row.count .non < s.ed.length - s.cs.length then [row ++ [V.non]] else [])) ++ ((s.cv.filter fun x => decide (x ∉ row)).map fun x => row ++ [x]) = ((laysN s kk).take (j + 1)).flatMap (nxt s) := by
              rw [take_snoc hrow, List.flatMap_append, List.append_assoc]
              simp [nxt]
            have e8 : (s.cv.filter fun x => decide (x ∉ row)).filterMap (fun x => some (eL (row ++ [x]))) = ((s.cv.filter fun x => decide (x ∉ row)).map fun x => row ++ [x]).map eL := by simp
            rw [e8] at hqz
            have hq8 := (hq7.same s8).append hqz
            rw [← List.map_append, eN] at hq8
            have hl9 : acc7.length + zs.length ≤ 4 * (j + 1) := by
              have h1 := hq8.length
              rw [List.length_append, List.length_map] at h1
              have := flat_len (nxt s) 4 ((laysN s kk).take (j + 1)) fun x _ => nxt_len o x
              rw [List.length_take] at this
              omega
            refine ⟨g, D2, acc7, zs, rfl, rfl, hg8, hz, sz_ok (by omega), ?_⟩
            exact ⟨_, _, _, rfl, Same.mut (s37.trans s8) hg, _, upd_same, hq8.mono (Tk.lst hg8)⟩
        · refine ⟨_, rfl, D, _, rfl, .inl (SqL.of hD0), _, rfl, p, dx, _, rfl, slt_same hS s06, p, s, rfl, S.mono s06, _, rfl, _, _, rfl, rfl, _, _, rfl, rfl, _, rfl, ?_⟩
          refine ite2 (fun hb => ?_) (fun hb => ?_)
          · have hb := of_decide_eq_true hb
            have hc : row.count .non < s.ed.length - s.cs.length := ht.mp (by omega)
            refine ⟨_, rfl, .inl ⟨rfl, _, SqL.of hg6⟩, _, rfl, tx, row, rfl, .inl (htx.same s6).seq, ?_, fun q H7 hq0 s7 hT7 => ?_⟩
            · have := pr.len
              show (row ++ [V.non]).length ≤ 1000000
              rw [List.length_append, List.length_singleton]; omega
            · have hg7 := s7 _ _ hg6
              refine ⟨g, acc, _, rfl, rfl, hg7, sz_lt (by omega), ?_⟩
              have hne : D ≠ g := (ne_of_none hacc hDn).symm
              have hq7 := hga.same s7
              refine last _ ⟨acc ++ [.ref q], Same.mut ((s5.trans s6).trans s7) hg, by rw [upd_ne hne]; exact s7 _ _ hD0, Tk.lst hg7 _ _ (htx.same (s6.trans s7)), upd_same, ?_⟩
              rw [if_pos hc, List.map_append]
              refine (hq7.append (.one (Dq.eL hT7 ?_))).mono (Tk.lst hg7)
              show (row ++ [V.non]).all Cc.fl = true
              rw [List.all_append, pr.fl]; rfl
          · have hb : ¬ _ := fun z => hb (decide_eq_true z)
            have hc : ¬ row.count .non < s.ed.length - s.cs.length := fun z => hb (by have := ht.mpr z; omega)
            refine last H6 ⟨acc, (s5.trans s6), hD0, htx.same s6, hg6, ?_⟩
            rw [if_neg hc, List.append_nil]
            exact hga
      · rintro σ H5 ⟨v4, v5, v6, rfl, s5, hl5⟩
        refine ⟨_, rfl, g, _, _, _, _, _, rfl, s3.trans s5, ?_⟩
        rw [hlen, List.take_length] at hl5
        exact hl5
    · rintro σ H3 ⟨r, v2, v3, v4, v5, v6, rfl, s3, hl⟩
      rw [Int.toNat_natCast] at hl
      exact ⟨_, rfl, k r H3 s3 hl⟩
end
end Cc

end

section
set_option Elab.async false
set_option linter.all false
set_option maxRecDepth 100000
set_option maxHeartbeats 4000000
namespace Cc
open PySem PySem.Spec L2

/-! ### what is never reached -/
theorem pe_nv {X : Cx} {e : Expr} : PE X e (fun _ _ _ => False) := ⟨fun _ _ _ _ _ _ h => h.elim⟩
theorem pt_nv {X : Cx} {e : Expr} : PT X e (fun _ _ _ => False) := ⟨fun _ _ _ _ _ _ h => h.elim⟩

/-! ### dicts by their keys -/
def dkeys (kvs : List Ent) : List (List V) := kvs.map (·.1)
theorem atD_none {kvs : List Ent} {k : List V} : atD kvs k = none ↔ k ∉ dkeys kvs := by
  unfold atD dkeys
  rw [Option.map_eq_none_iff, List.find?_eq_none]
  simp only [decide_eq_true_eq, List.mem_map, not_exists, not_and]
theorem atD_some {kvs : List Ent} {k : List V} {c : Addr × V} (h : atD kvs k = some c) : (k, c.1, c.2) ∈ kvs := by
  unfold atD at h
  obtain ⟨p, hp, rfl⟩ := Option.map_eq_some_iff.mp h
  have h1 := List.mem_of_find?_eq_some hp
  have h2 := of_decide_eq_true (List.find?_some (p := fun p : Ent => decide (p.1 = k)) hp)
  rw [← h2]; exact h1
theorem atD_mem {kvs : List Ent} {k : List V} (h : k ∈ dkeys kvs) : ∃ c, atD kvs k = some c := by
  cases e : atD kvs k with
  | none => exact absurd h (atD_none.mp e)
  | some c => exact ⟨c, rfl⟩
theorem putD_keys (kvs : List Ent) (k : List V) (b : Addr) (v : V) : dkeys (putD kvs k b v) = if k ∈ dkeys kvs then dkeys kvs else dkeys kvs ++ [k] := by
  unfold putD
  by_cases h : k ∈ dkeys kvs
  · obtain ⟨c, hc⟩ := atD_mem h
    rw [if_pos h, if_pos (by rw [hc]; rfl)]
    unfold dkeys
    rw [List.map_map]
    refine List.map_congr_left fun p _ => ?_
    show (if p.1 = k then (p.1, p.2.1, v) else p).1 = p.1
    split <;> rfl
  · rw [if_neg h, if_neg (by rw [atD_none.mpr h]; exact Bool.false_ne_true)]
    unfold dkeys
    simp
/-- what stands behind a store -/
theorem putD_mem {kvs : List Ent} {k : List V} {b : Addr} {v : V} {p : Ent} (h : p ∈ putD kvs k b v) : (p.1 = k ∧ p.2.2 = v) ∨ (p ∈ kvs ∧ p.1 ≠ k) := by
  unfold putD at h
  split at h
  · obtain ⟨q, hq, rfl⟩ := List.mem_map.mp h
    by_cases e : q.1 = k
    · rw [if_pos e]; exact .inl ⟨e, rfl⟩
    · rw [if_neg e]; exact .inr ⟨hq, e⟩
  · rename_i hn
    rcases List.mem_append.mp h with h | h
    · refine .inr ⟨h, fun e => hn ?_⟩
      obtain ⟨c, hc⟩ := atD_mem (kvs := kvs) (k := k) (List.mem_map.mpr ⟨p, h, e⟩)
      rw [hc]; rfl
    · obtain rfl := List.mem_singleton.mp h
      exact .inl ⟨rfl, rfl⟩
theorem putAll_keys : ∀ (ps acc : List Ent), dkeys (putAll acc ps) = (dkeys ps).foldl (fun acc l => if l ∈ acc then acc else acc ++ [l]) (dkeys acc)
  | [], acc => rfl
  | p :: ps, acc => by
    show dkeys (putAll (putD acc p.1 p.2.1 p.2.2) ps) = _
    rw [putAll_keys ps, putD_keys]
    rfl
theorem putAll_dk (ps : List Ent) : dkeys (putAll [] ps) = dk (dkeys ps) := (putAll_keys ps []).trans (by unfold dk; congr 1; funext acc l; by_cases h : l ∈ acc <;> simp [h])
theorem KD.nil {H : Hp} : KD H [] := fun p h => nomatch h
theorem KD.same {H H' : Hp} {kvs : List Ent} (h : KD H kvs) (e : Same H H') : KD H' kvs := h.mono (Tk.of e)
/-- a locked thing -/
theorem Same.lock {H H' : Hp} {d : Addr} {o : Obj} {u : HO} (h : H d = some u) (e : Same (upd H d (.frz o u)) H') : Same H (upd H' d u) := fun b x hx => by
  by_cases hb : b = d
  · rw [hb, upd_same, ← hx, hb, h]
  · rw [upd_ne hb]
    exact e b x (by rw [upd_ne hb]; exact hx)
theorem Tk.lock {H : Hp} {d : Addr} {u : HO} {o : HO} (h : H d = some u) (hn : ∀ ob xs, u ≠ .frz ob (.tup xs)) : Tk H (L2.upd H d o) := Tk.upd fun ob xs e => by rw [h] at e; exact hn ob xs (Option.some.inj e)
theorem Tk.unlock {P : Program} {w : World} {H : Hp} {d : Addr} {ob : Obj} {kvs : List Ent} {o : HO} (h : H d = some (.frz ob (DD P w d kvs))) : Tk H (L2.upd H d o) := Tk.upd fun ob' xs e => by
  rw [h] at e
  unfold DD at e
  cases e

/-! ### data that == may look at -/
theorem strs_ok : ∀ c ∈ crN, PyData.strOk c = true := by decide +kernel
theorem lay_flat {l : List V} (h : ∀ x ∈ l, x = .non ∨ (∃ i, x = .int i) ∨ ∃ s, x = .str s ∧ PyData.strOk s = true) : (eL l).canLay0 = true := by
  unfold eL
  show PyData.canLayAll0 (l.map dV) = true
  induction l with
  | nil => rfl
  | cons x l ih =>
    show (PyData.canLay0 (dV x) && PyData.canLayAll0 (l.map dV)) = true
    rw [ih fun y hy => h y (List.mem_cons_of_mem _ hy), Bool.and_true]
    rcases h x List.mem_cons_self with rfl | ⟨i, rfl⟩ | ⟨s, rfl, hs⟩
    · rfl
    · rfl
    · exact hs
theorem lay_all {ds : List PyData} (h : ∀ d ∈ ds, d.canLay0 = true) : PyData.canLayAll0 ds = true := by
  induction ds with
  | nil => rfl
  | cons d ds ih =>
    show (PyData.canLay0 d && PyData.canLayAll0 ds) = true
    rw [h d List.mem_cons_self, ih fun y hy => h y (List.mem_cons_of_mem _ hy)]; rfl
theorem depth_all {ds : List PyData} {n : Nat} (h : ∀ d ∈ ds, d.depth ≤ n) : PyData.depthAll ds ≤ n := by
  induction ds with
  | nil => exact Nat.zero_le _
  | cons d ds ih =>
    rw [PyData.depthAll]
    exact Nat.max_le.mpr ⟨h d List.mem_cons_self, ih fun y hy => h y (List.mem_cons_of_mem _ hy)⟩
theorem shaped_tup {ds : List PyData} {n : Nat} (h : ∀ d ∈ ds, d.canLay0 = true ∧ d.depth ≤ n) (hn : n ≤ 60) : SeqAt.shaped (.tuple ds) = true := by
  unfold SeqAt.shaped
  rw [Bool.and_eq_true]
  refine ⟨lay_all fun d hd => (h d hd).1, decide_eq_true ?_⟩
  have := depth_all fun d hd => (h d hd).2
  show PyData.depthAll ds + 1 ≤ 64
  omega
theorem shaped_lst {ds : List PyData} {n : Nat} (h : ∀ d ∈ ds, d.canLay0 = true ∧ d.depth ≤ n) (hn : n ≤ 60) : SeqAt.shaped (.list ds) = true := by
  unfold SeqAt.shaped
  rw [Bool.and_eq_true]
  refine ⟨lay_all fun d hd => (h d hd).1, decide_eq_true ?_⟩
  have := depth_all fun d hd => (h d hd).2
  show PyData.depthAll ds + 1 ≤ 64
  omega
theorem Sc.Ok.strOk {s : Sc} (o : s.Ok) {c : Str} (h : c ∈ s.cs) : PyData.strOk c = true := by
  obtain ⟨n, _, _, _, e⟩ := o.cs
  rw [e] at h
  exact strs_ok c (List.mem_of_mem_take h)
theorem Lay.lay0 {s : Sc} {l : List V} (o : s.Ok) (h : Lay s l) : (eL l).canLay0 = true := lay_flat fun x hx => by
  rcases h.mem hx with rfl | ⟨c, hc, rfl⟩
  · exact .inl rfl
  · exact .inr (.inr ⟨c, rfl, o.strOk hc⟩)
theorem shaped_lays {s : Sc} {ls : List (List V)} (o : s.Ok) (h : ∀ l ∈ ls, Lay s l) : SeqAt.shaped (.list (ls.map eL)) = true := shaped_lst (n := 1) (fun d hd => by
  obtain ⟨l, hl, rfl⟩ := List.mem_map.mp hd
  exact ⟨(h l hl).lay0 o, eL_depth l⟩) (by decide)
theorem shaped_layt {s : Sc} {ls : List (List V)} (o : s.Ok) (h : ∀ l ∈ ls, Lay s l) : SeqAt.shaped (.tuple (ls.map eL)) = true := shaped_tup (n := 1) (fun d hd => by
  obtain ⟨l, hl, rfl⟩ := List.mem_map.mp hd
  exact ⟨(h l hl).lay0 o, eL_depth l⟩) (by decide)
theorem shaped_nil : SeqAt.shaped (.list []) = true := rfl
/-- texts go together, in any tuple -/
theorem alike_strs : ∀ {l m : List V}, (∀ x ∈ l, ∃ s, x = .str s) → (∀ x ∈ m, ∃ s, x = .str s) → PySem.W.alikeAll (l.map dV) (m.map dV) = true
  | [], _, _, _ => by rw [List.map_nil, PySem.W.alikeAll.eq_def]
  | x :: l, [], _, _ => by rw [List.map_cons, List.map_nil, PySem.W.alikeAll.eq_def]
  | x :: l, y :: m, h1, h2 => by
    obtain ⟨s, rfl⟩ := h1 x List.mem_cons_self
    obtain ⟨t, rfl⟩ := h2 y List.mem_cons_self
    rw [List.map_cons, List.map_cons, PySem.W.alikeAll, alike_strs (fun z hz => h1 z (List.mem_cons_of_mem _ hz)) (fun z hz => h2 z (List.mem_cons_of_mem _ hz)), Bool.and_true]
    rfl
theorem alike_ranks {ls : List (List V)} (h : ∀ l ∈ ls, ∀ x ∈ l, LV x) : PySem.W.AllAlike (ls.map fun l => eL (l.map rk)) := fun d hd d' hd' => by
  obtain ⟨l, hl, rfl⟩ := List.mem_map.mp hd
  obtain ⟨m, hm, rfl⟩ := List.mem_map.mp hd'
  show PySem.W.alikeAll _ _ = true
  refine alike_strs (fun x hx => ?_) (fun x hx => ?_)
  · obtain ⟨y, hy, rfl⟩ := List.mem_map.mp hx
    exact rk_str (h l hl y hy)
  · obtain ⟨y, hy, rfl⟩ := List.mem_map.mp hx
    exact rk_str (h m hm y hy)
theorem alike_eIs (ls : List (List Int)) : PySem.W.AllAlike (ls.map eI) := fun d hd d' hd' => by
  obtain ⟨l, hl, rfl⟩ := List.mem_map.mp hd
  obtain ⟨m, hm, rfl⟩ := List.mem_map.mp hd'
  exact PySem.W.alike_ints l m
end Cc

end

section
set_option Elab.async false
set_option linter.all false
set_option maxRecDepth 100000
set_option maxHeartbeats 4000000
namespace Cc
open PySem PySem.Spec L2

/-! ### logs -/
abbrev Row := Int × List V
def rowD (r : Row) : PyData := .tuple [.str "open", .int r.1, eL r.2]
structure RowOk (s : Sc) (r : Row) : Prop where
  d0 : 0 ≤ r.1
  d1 : r.1 < s.ds.length
  len : r.2.length = (plcs s r.1).length
  mem : ∀ x ∈ r.2, x = .non ∨ x = .str "?" ∨ ∃ c ∈ s.cs, x = .str c
theorem RowOk.fl {s : Sc} {r : Row} (h : RowOk s r) : r.2.all fl = true := List.all_eq_true.mpr fun x hx => by
  rcases h.mem x hx with rfl | rfl | ⟨c, _, rfl⟩ <;> rfl
theorem rowD_inv {H : Hp} {x : V} {r : Row} (hf : r.2.all fl = true) (h : Dq H x (rowD r)) : ∃ t b, x = .ref t ∧ Tq H t [.str "open", .int r.1, .ref b] ∧ Tq H b r.2 := by
  obtain ⟨t, u, v, z, rfl, h1, h2, h3, h4⟩ := h.trip_inv
  obtain ⟨b, rfl, hb⟩ := h4.eL_inv hf
  rw [h2.str_inv, h3.int_inv] at h1
  exact ⟨t, b, rfl, h1, hb⟩
theorem plcs_le (s : Sc) (d : Int) : (plcs s d).length ≤ s.ed.length := by
  unfold plcs
  exact Nat.le_trans (List.length_filter_le _ _) (by simp)
def sp_in_order (P : Program) (w : World) (a : Ad) : Sp := fun vs H Q _ => ∃ (d : Addr) (kvs : List Ent) (s : Sc), vs = [.ref d] ∧ Rd H d (DD P w d kvs) ∧ KD H kvs ∧ s.Ok ∧ (∀ l ∈ dkeys kvs, Lay s l) ∧ NewLs H ((srtL (dkeys kvs)).map eL) Q
def sp_is_sighting (a : Ad) : Sp := fun vs H Q _ => ∃ (p t b : Addr) (s : Sc) (r : Row), vs = [.ref p, .ref t] ∧ StoreAt a H p s ∧ s.Ok ∧ Tq H t [.str "open", .int r.1, .ref b] ∧ Tq H b r.2 ∧ RowOk s r ∧ ∀ H', Same H H' → Q (.bl true) H'
def sp_check_log (a : Ad) : Sp := fun vs H Q _ => ∃ (p l : Addr) (s : Sc) (lg : List Row), vs = [.ref p, .ref l] ∧ StoreAt a H p s ∧ s.Ok ∧ Ls H l (lg.map rowD) ∧ (∀ r ∈ lg, RowOk s r) ∧ ∀ H', Same H H' → Q .non H'
def sp_is_so (a : Ad) : Sp := fun vs H Q _ => ∃ (p b t c : Addr) (s : Sc) (l : List V) (r : Row), vs = [.ref p, .ref b, .ref t] ∧ StoreAt a H p s ∧ s.Ok ∧ Tq H b l ∧ Lay s l ∧ Tq H t [.str "open", .int r.1, .ref c] ∧ Tq H c r.2 ∧ RowOk s r ∧ ∀ H', Same H H' → Q (.bl (isSo s l r.1 r.2)) H'
def sp_behind_row (a : Ad) : Sp := fun vs H Q _ => ∃ (p b t c : Addr) (s : Sc) (l : List V) (r : Row), vs = [.ref p, .ref b, .ref t] ∧ StoreAt a H p s ∧ s.Ok ∧ Tq H b l ∧ Lay s l ∧ Tq H t [.str "open", .int r.1, .ref c] ∧ Tq H c r.2 ∧ RowOk s r ∧
  ∀ q H', Same H H' → H' q = some (.lst (if isSo s l r.1 r.2 = true then [.ref b] else [])) → Q (.ref q) H'
theorem rank_sp {a : Ad} : RankSp rk (fun l => l.length ≤ 1000 ∧ ∀ x ∈ l, LV x) (sp_rank a) := fun b l H R h ⟨h1, h2⟩ k => ⟨b, l, rfl, h, h1, h2, k⟩
theorem scal_lv {x y : V} (h : x = .non ∨ ∃ s, x = .str s) (h' : y = .non ∨ ∃ s, y = .str s) : scal x y = true := by
  rcases h with rfl | ⟨s, rfl⟩ <;> rcases h' with rfl | ⟨t, rfl⟩ <;> rfl
section
variable {P : Program} {w : World} {K : PySem.W.Frag} {mg : Str → Option Value} {base : Heap} {a : Ad}
theorem ok_in_order (T : Txt K mg a) : FnOk P w K mg base CX0 4 a.f_in_order a.d_in_order ["some"] (sp_in_order P w a) := by
  refine T.F_in_order.ok sc_in_order (fun vs H Q E h => ?_) (fun cdv A outer s H vs Q E hr h => ?_)
  · obtain ⟨d, kvs, s, rfl, hd, kd, o, hl, k⟩ := h; rfl
  · obtain ⟨d, kvs, s, rfl, hd, kd, o, hl, k⟩ := h
    have hu := hr.units
    refine ⟨_, (pss_one (ps_ret (pe_callBK (cr_sortK (ok_rank T) (hr.mono (by decide)) T.b_rank rfl rank_sp) (by rfl) T.z_sorted (by decide +kernel) (pa_cons (pv 0) pa_nil) (pk_cons (pe_fn T.m_rank) pk_nil)))), ?_⟩
    refine ⟨_, rfl, d, kvs, rfl, rfl, hd, kd, fun e he => ?_, fun e he => ?_, ?_, fun e he => ?_, fun p H' s1 h => k p H' s1 h⟩
    · have L := hl e.1 (List.mem_map.mpr ⟨e, he, rfl⟩)
      have := L.len o
      have := o.sz
      exact ⟨by omega, L.lv o⟩
    · have L := hl e.1 (List.mem_map.mpr ⟨e, he, rfl⟩)
      refine List.all_eq_true.mpr fun x hx => ?_
      obtain ⟨y, hy, rfl⟩ := List.mem_map.mp hx
      exact rk_fl (L.lv o y hy)
    · have := alike_ranks (ls := dkeys kvs) fun l h => (hl l h).lv o
      unfold dkeys at this
      rw [List.map_map] at this
      exact this
    · exact (hl e.1 (List.mem_map.mpr ⟨e, he, rfl⟩)).ne o
theorem ok_is_sighting (T : Txt K mg a) : FnOk P w K mg base CX0 4 a.f_is_sighting a.d_is_sighting ["store", "value"] (sp_is_sighting a) := by
  refine T.F_is_sighting.ok sc_is_sighting (fun vs H Q E h => ?_) (fun cdv A outer s H vs Q E hr h => ?_)
  · obtain ⟨p, t, b, s, r, rfl, S, o, ht, hb, ok, k⟩ := h; rfl
  · obtain ⟨p, t, b, s, r, rfl, S, o, ht, hb, ok, k⟩ := h
    have hu := hr.units
    refine ⟨_, (pss_cons (ps_if (pw_or (pt_not (pt_val (pe_callB (call_isiK K) (by rfl) T.z_isinstance (by decide +kernel) (pa_cons (pv 1) (pa_cons (pe_ty "tuple" T.z_tuple (by decide +kernel)) pa_nil))))) (pw_or (pt_cmpR op_ne (pe_callB (call_len_seqK K) (by rfl) T.z_len (by decide +kernel) (pa_cons (pv 1) pa_nil)) pe_int (nomark _)) (pw_or1 (pt_cmpR op_ne (pe_ix (ix_tupK K) (pv 1) pe_int (by intro _ _; rfl)) (pe_g T.c_OPEN) (nomark _))))).pt (pss_one (ps_ret pe_bl)) pss_nil)
       (pss_cons (ps_if (pw_or (pt_not (pt_val (pe_call (ok_is_number T) (hr.mono (by decide)) (by rfl) T.m_is_number T.F_is_number.kp T.b_is_number .nil pass0 (pa_cons (pe_ix (ix_tupK K) (pv 1) pe_int (by intro _ _; rfl)) (pa_cons pe_int (pa_cons (pe_op op_sub (pe_callB (cr_lenOwn T.lenS T.lenF ((ok_Store_len T).raw T.b_Store_len .nil) (hr.mono (by decide)) pass0) (by rfl) T.z_len (by decide +kernel) (pa_cons (pv 0) pa_nil)) pe_int) pa_nil)))))) (pw_or1 (pt_not (pt_val (pe_callB (call_isiK K) (by rfl) T.z_isinstance (by decide +kernel) (pa_cons (pe_ix (ix_tupK K) (pv 1) pe_int (by intro _ _; rfl)) (pa_cons (pe_ty "tuple" T.z_tuple (by decide +kernel)) pa_nil))))))).pt (pss_one (ps_ret pe_bl)) pss_nil)
       (pss_cons (ps_if (pt_cmpR op_ne (pe_callB (call_len_seqK K) (by rfl) T.z_len (by decide +kernel) (pa_cons (pe_ix (ix_tupK K) (pv 1) pe_int (by intro _ _; rfl)) pa_nil)) (pe_callB (call_len_seqK K) (by rfl) T.z_len (by decide +kernel) (pa_cons (SlX.pe_methSl (pv 0) T.clS T.t_Store_places_of ((ok_Store_places_of T).raw T.b_Store_places_of .nil) (hr.mono (by decide)) pass0 (pa_cons (pe_ix (ix_tupK K) (pv 1) pe_int (by intro _ _; rfl)) pa_nil)) pa_nil)) (nomark _)) (pss_one (ps_ret pe_bl)) pss_nil)
       (pss_one (ps_ret (pe_callB (cr_allK K rfl) (by rfl) T.z_all (by decide +kernel) (pa_cons (pe_lc (own := [("name", 2)]) (g := (gName 2)) rfl sc_is_sighting.nd (pi_tup (pe_ix (ix_tupK K) (pv 1) pe_int (by intro _ _; rfl))) (blkOk_by (own := [("name", 2)]) (N := ["store", "value", "name"]) (sc := defScope s_is_sighting) (by decide +kernel))
       (fun _ _ _ _ _ => (pg_name (i := 2) sc_is_sighting.nd rfl (by first | exact Or.inl rfl | exact Or.inr rfl))) (fun _ _ _ _ _ => pts_nil) (fun _ _ _ _ _ => (pe_or (pe_cmp (pc_isN (pv 2))) (pe_or (pe_cmpR op_eq (pv 2) (pe_g T.c_FROSTED) (nomark _)) (pe_one (pe_call (ok_is_crate T) (hr.mono (by decide)) (by rfl) T.m_is_crate T.F_is_crate.kp T.b_is_crate .nil pass0 (pa_cons (pv 0) (pa_cons (pv 2) pa_nil)))))))) pa_nil))))))), ?_⟩
    obtain ⟨dx, e0, q0, d0, c0, hS, _⟩ := id S
    have hsz := o.sz
    have h0 := ok.d0
    have h1 := ok.d1
    have hpl := plcs_le s r.1
    have isT : ∀ {H : Hp} {b : Addr} {xs : List V}, Tq H b xs → TyX K H (.ref b) (.type "tuple") := fun h => by obtain ⟨o, _, e⟩ := h; exact TyX.fTuple e
    refine ⟨_, rfl, _, _, _, _, _, rfl, ClsV.ty _, isT ht, kit_ty (by decide +kernel), true, rfl, iteF ?_⟩
    refine ⟨_, rfl, _, _, rfl, .inr ht.seq, rfl, _, rfl, iteN rfl ?_⟩
    refine ⟨_, rfl, t, _, _, _, rfl, rfl, ht.seq, rfl, rfl, _, rfl, iteN rfl ?_⟩
    refine r_next ?_
    refine ⟨_, rfl, t, _, _, _, rfl, rfl, ht.seq, rfl, _, rfl, p, dx, _, rfl, hS, p, s, rfl, S, s.ds.length, rfl, (by have := o.d4; omega), _, _, rfl, rfl, r.1, 0, _, rfl, ?_⟩
    rw [decide_eq_true (show (0 : Int) ≤ r.1 ∧ r.1 ≤ (s.ds.length : Int) - 1 by omega)]
    refine ⟨_, rfl, iteF ?_⟩
    refine ⟨_, rfl, t, _, _, _, rfl, rfl, ht.seq, rfl, _, _, _, _, _, rfl, ClsV.ty _, isT hb, kit_ty (by decide +kernel), true, rfl, iteF ?_⟩
    refine r_next ?_
    refine ⟨_, rfl, t, _, _, _, rfl, rfl, ht.seq, rfl, _, _, rfl, .inr hb.seq, _, rfl, p, dx, _, rfl, hS, _, rfl, t, _, _, _, rfl, rfl, ht.seq, rfl, p, s, r.1, rfl, S, o, h0, h1, fun q H1 s1 hq => ?_⟩
    refine ⟨_, _, rfl, .inr hq.seq, rfl, _, rfl, iteN (by rw [ok.len, List.length_map]) ?_⟩
    refine r_next (r_ret (r_cb1 (lcTx (xs := r.2) (fun _ => some (.bool true)) (by rw [ok.len]; omega) (fun R h => ⟨_, rfl, t, _, _, _, rfl, rfl, (ht.same s1).seq, rfl, h b H1 (Same.refl _) (hb.same s1)⟩) (fun i x H2 hx s2 => ?_) (fun D H2 _ s2 hl => ?_))))
    · refine turn_1 fun N h1 => ?_
      refine ⟨_, rfl, _, rfl, ?_⟩
      rcases ok.mem x (List.mem_of_getElem? hx) with rfl | rfl | ⟨c, hc, rfl⟩
      · exact iteT (h1 _ _ (Same.refl _) (.bl true))
      · refine iteDn (by intro z; cases z) ?_
        exact ⟨_, rfl, rfl, _, rfl, iteD rfl (h1 _ _ (Same.refl _) (.bl true))⟩
      · refine iteDn (by intro z; cases z) ?_
        refine ⟨_, rfl, rfl, _, rfl, iteDn (by intro z; cases z; exact (o.ne hc).2 rfl) ?_⟩
        refine ⟨_, rfl, _, rfl, p, s, c, rfl, S.mono (s1.trans s2), ?_⟩
        rw [decide_eq_true hc]
        exact h1 _ _ (Same.refl _) (.bl true)
    · rw [bools_fm] at hl
      refine ⟨_, _, rfl, SqL.of hl.bools, ?_⟩
      rw [bools_all]
      exact k _ (s1.trans s2)
theorem ok_check_log (T : Txt K mg a) : FnOk P w K mg base CX0 5 a.f_check_log a.d_check_log ["store", "log"] (sp_check_log a) := by
  refine T.F_check_log.ok sc_check_log (fun vs H Q E h => ?_) (fun cdv A outer s H vs Q E hr h => ?_)
  · obtain ⟨p, l, s, lg, rfl, S, o, hl, ok, k⟩ := h; rfl
  · obtain ⟨p, l, s, lg, rfl, S, o, hl, ok, k⟩ := h
    have hu := hr.units
    refine ⟨_, (pss_one (ps_for PassesOwn.never rfl (pi_enum (by rfl) T.z_enumerate (pa_cons (pv 1) pa_nil)) (pg_tup rfl (pgs_cons (pg_name (i := 2) sc_check_log.nd rfl (by first | exact Or.inl rfl | exact Or.inr rfl)) (pgs_cons (pg_name (i := 3) sc_check_log.nd rfl (by first | exact Or.inl rfl | exact Or.inr rfl)) pgs_nil)))
       (pss_one (ps_if (pw_and (pt_not (pt_val (pe_call (ok_is_sighting T) (hr.mono (by decide)) (by rfl) T.m_is_sighting T.F_is_sighting.kp T.b_is_sighting .nil pass0 (pa_cons (pv 0) (pa_cons (pv 3) pa_nil))))) (pw_and1 pt_nv)).pt (pss_one ps_never) pss_nil)))), ?_⟩
    obtain ⟨xs, hx, hq⟩ := hl
    refine ⟨_, rfl, l, xs, rfl, SqL.of hx, for_it walk_enum (fun i σ H' => ∃ v2 v3, σ = [some (.ref p), some (.ref l), v2, v3] ∧ Same H H') ⟨_, _, rfl, Same.refl H⟩ (fun i σ H' _ ⟨_, _, _, s1⟩ => SqL.of (s1 _ _ hx)) ?_ ?_⟩
    · rintro i v σ H1 H2 hi ⟨v2, v3, rfl, s1⟩ ⟨T', _, x, rfl, hT, rfl, e1, hx1⟩
      cases e1
      obtain ⟨d, hd, hxd⟩ := (hq.same s1).get hx1
      rw [List.getElem?_map] at hd
      obtain ⟨r, hr, rfl⟩ := Option.map_eq_some_iff.mp hd
      have okr := ok r (List.mem_of_getElem? hr)
      obtain ⟨t, b, rfl, ht, hb⟩ := rowD_inv okr.fl hxd
      have s2 : Same H1 (upd H1 T' (.tup [.int (i : Nat), .ref t])) := Same.new hT
      refine ⟨T', _, rfl, SqT.of upd_same, rfl, _, _, rfl, _, _, rfl, rfl, ?_⟩
      refine ⟨_, rfl, _, rfl, p, t, b, s, r, rfl, S.mono (s1.trans s2), o, ht.same s2, hb.same s2, okr, fun H3 s3 => ⟨_, rfl, iteF ?_⟩⟩
      exact iteF ⟨_, _, rfl, (s1.trans s2).trans s3⟩
    · rintro σ H1 ⟨v2, v3, rfl, s1⟩
      exact k H1 s1
theorem ok_is_so (T : Txt K mg a) : FnOk P w K mg base CX0 2 a.f_is_so a.d_is_so ["store", "layout", "sighting"] (sp_is_so a) := by
  refine T.F_is_so.ok sc_is_so (fun vs H Q E h => ?_) (fun cdv A outer s H vs Q E hr h => ?_)
  · obtain ⟨p, b, t, c, s, l, r, rfl, S, o, hb, L, ht, hc, ok, k⟩ := h; rfl
  · obtain ⟨p, b, t, c, s, l, r, rfl, S, o, hb, L, ht, hc, ok, k⟩ := h
    have hu := hr.units
    refine ⟨_, (pss_cons (ps_asg (pv 2) (pg_tup rfl (pgs_cons (pg_name (i := 3) sc_is_so.nd rfl (by first | exact Or.inl rfl | exact Or.inr rfl)) (pgs_cons (pg_name (i := 4) sc_is_so.nd rfl (by first | exact Or.inl rfl | exact Or.inr rfl)) (pgs_cons (pg_name (i := 5) sc_is_so.nd rfl (by first | exact Or.inl rfl | exact Or.inr rfl)) pgs_nil)))))
       (pss_cons (ps_for PassesOwn.never rfl (RZ.pi_zipA (by rfl) T.z_zip (pa_cons (pe_call (ok_seen_behind T) (hr.mono (by decide)) (by rfl) T.m_seen_behind T.F_seen_behind.kp T.b_seen_behind .nil pass0 (pa_cons (pv 0) (pa_cons (pv 1) (pa_cons (pv 4) pa_nil)))) (pa_cons (pv 5) pa_nil))) (pg_tup rfl (pgs_cons (pg_name (i := 6) sc_is_so.nd rfl (by first | exact Or.inl rfl | exact Or.inr rfl)) (pgs_cons (pg_name (i := 7) sc_is_so.nd rfl (by first | exact Or.inl rfl | exact Or.inr rfl)) pgs_nil)))
       (pss_one (ps_if (pw_and (pt_cmpR op_ne (pv 6) (pv 7) (nomark _)) (pw_and1 (pw_or (pt_cmpR op_ne (pv 7) (pe_g T.c_FROSTED) (nomark _)) (pw_or1 (pt_cmp (pc_isN (pv 6))))).pt)).pt (pss_one (ps_ret pe_bl)) pss_nil)))
       (pss_one (ps_ret pe_bl)))), ?_⟩
    have hsz := o.sz
    have hll := L.len o
    refine ⟨_, rfl, t, _, rfl, ht.seq, rfl, _, _, rfl, _, _, rfl, _, _, rfl, rfl, ?_⟩
    refine ⟨_, rfl, _, rfl, _, rfl, p, b, s, l, r.1, rfl, S, hb, L.fl o, by omega, fun q H1 s1 hq => ⟨_, rfl, q, c, seenL s l r.1, r.2, rfl, .inr ⟨hq.seq, (hc.same s1).seq, ?_⟩⟩⟩
    have look : ∀ (i : Nat) x y, (seenL s l r.1)[i]? = some x → r.2[i]? = some y → (x = .non ∨ ∃ z, x = .str z) ∧ (y = .non ∨ ∃ z, y = .str z) := fun i x y h1 h2 => by
      refine ⟨?_, ?_⟩
      · rcases L.mem (seen_mem (List.mem_of_getElem? h1)) with h | ⟨c, _, h⟩
        · exact .inl h
        · exact .inr ⟨c, h⟩
      · rcases ok.mem y (List.mem_of_getElem? h2) with h | h | ⟨c, _, h⟩
        · exact .inl h
        · exact .inr ⟨_, h⟩
        · exact .inr ⟨c, h⟩
    refine for_it (walk_zipT (xs := seenL s l r.1) (ys := r.2) rfl) (fun i σ H' => ∃ v6 v7, σ = [some (.ref p), some (.ref b), some (.ref t), some (.str "open"), some (.int r.1), some (.ref c), v6, v7] ∧ Same H1 H' ∧ ∀ (j : Nat) x y, j < i → (seenL s l r.1)[j]? = some x → r.2[j]? = some y → okP x y = true)
      ⟨_, _, rfl, Same.refl _, fun j x y h => absurd h (Nat.not_lt_zero j)⟩ (fun i σ H' _ ⟨_, _, _, s2, _⟩ => ⟨(hq.same s2).seq, ((hc.same s1).same s2).seq⟩) ?_ ?_
    · rintro i v σ H2 H3 hi ⟨v6, v7, rfl, s2, hall⟩ ⟨T', x, y, rfl, hT, rfl, hx, hy⟩
      have s3 : Same H2 (upd H2 T' (.tup [x, y])) := Same.new hT
      have hx : (seenL s l r.1)[i]? = some x := hx
      have hy : r.2[i]? = some y := hy
      have ⟨lx, ly⟩ := look i x y hx hy
      refine ⟨T', _, rfl, SqT.of upd_same, rfl, _, _, rfl, _, _, rfl, rfl, ?_⟩
      have fin : okP x y = true → ∃ v6 v7, [some (V.ref p), some (.ref b), some (.ref t), some (.str "open"), some (.int r.1), some (.ref c), some x, some y] = [some (V.ref p), some (.ref b), some (.ref t), some (.str "open"), some (.int r.1), some (.ref c), v6, v7] ∧ Same H1 (upd H2 T' (.tup [x, y])) ∧ ∀ (j : Nat) x y, j < i + 1 → (seenL s l r.1)[j]? = some x → r.2[j]? = some y → okP x y = true := fun h => ⟨_, _, rfl, s2.trans s3, fun j x' y' hj h1 h2 => by
        by_cases e : j = i
        · subst e
          rw [hx] at h1; rw [hy] at h2
          cases h1; cases h2
          exact h
        · exact hall j x' y' (by omega) h1 h2⟩
      have bad : okP x y = false → Q (.bl false) (upd H2 T' (.tup [x, y])) := fun h => by
        have : isSo s l r.1 r.2 = false := by
          unfold isSo
          rw [List.all_eq_false]
          exact ⟨(x, y), List.mem_of_getElem? (List.getElem?_zip_eq_some.mpr ⟨hx, hy⟩), by rw [h]; exact Bool.false_ne_true⟩
        have kk := k (upd H2 T' (.tup [x, y])) ((s1.trans s2).trans s3)
        rw [this] at kk
        exact kk
      refine ⟨_, rfl, _, rfl, scal_lv lx ly, _, rfl, ?_⟩
      by_cases e1 : x = y
      · rw [decide_eq_true e1]
        exact iteF (iteF (fin (by unfold okP; rw [decide_eq_true e1]; rfl)))
      · rw [decide_eq_false e1]
        refine iteT ⟨_, rfl, scal_lv ly (.inr ⟨_, rfl⟩), _, rfl, ?_⟩
        by_cases e2 : y = .str "?"
        · rw [decide_eq_true e2]
          refine iteF ⟨_, rfl, _, rfl, ?_⟩
          by_cases e3 : x = .non
          · rw [decide_eq_true e3]
            exact iteT (bad (okP_false.mpr ⟨e1, .inr e3⟩))
          · rw [decide_eq_false e3]
            exact iteF (fin (by unfold okP; rw [decide_eq_false e1, decide_eq_true e2, decide_eq_false e3]; rfl))
        · rw [decide_eq_false e2]
          exact iteT (iteT (bad (okP_false.mpr ⟨e1, .inl e2⟩)))
    · rintro σ H2 ⟨v6, v7, rfl, s2, hall⟩
      have : isSo s l r.1 r.2 = true := by
        unfold isSo
        rw [List.all_eq_true]
        intro pr hpr
        obtain ⟨i, hi⟩ := List.mem_iff_getElem?.mp hpr
        obtain ⟨h1, h2⟩ := List.getElem?_zip_eq_some.mp hi
        exact hall i _ _ (by have := lt_of_get h1; have := lt_of_get h2; omega) h1 h2
      have kk := k H2 (s1.trans s2)
      rw [this] at kk
      exact kk
theorem ok_behind_row (T : Txt K mg a) : FnOk P w K mg base CX0 3 a.f_behind_row a.d_behind_row ["store", "layout", "row"] (sp_behind_row a) := by
  refine T.F_behind_row.ok sc_behind_row (fun vs H Q E h => ?_) (fun cdv A outer s H vs Q E hr h => ?_)
  · obtain ⟨p, b, t, c, s, l, r, rfl, S, o, hb, L, ht, hc, ok, k⟩ := h; rfl
  · obtain ⟨p, b, t, c, s, l, r, rfl, S, o, hb, L, ht, hc, ok, k⟩ := h
    have hu := hr.units
    refine ⟨_, (pss_cons (ps_if (pt_cmpR op_eq (pe_ix (ix_tupK K) (pv 2) pe_int (by intro _ _; rfl)) (pe_g T.c_OPEN) (nomark _)) (pss_one (ps_ret (pe_ifExp (pt_val (pe_call (ok_is_so T) (hr.mono (by decide)) (by rfl) T.m_is_so T.F_is_so.kp T.b_is_so .nil pass0 (pa_cons (pv 0) (pa_cons (pv 1) (pa_cons (pv 2) pa_nil))))) (pe_lst (pa_cons (pv 1) pa_nil)) (pe_lst pa_nil)))) pss_nil)
       (pss_one (ps_ret pe_nv))), ?_⟩
    refine ⟨_, rfl, t, _, _, _, rfl, rfl, ht.seq, rfl, rfl, _, rfl, iteD rfl ?_⟩
    refine ⟨_, rfl, _, rfl, _, rfl, p, b, t, c, s, l, r, rfl, S, o, hb, L, ht, hc, ok, fun H1 s1 => ⟨_, rfl, ?_⟩⟩
    cases e : isSo s l r.1 r.2 with
    | true => exact iteT ⟨_, rfl, (by show 1 ≤ sizeLine; decide), fun q hq => k q _ (s1.trans (Same.new hq)) (by rw [e]; exact upd_same)⟩
    | false => exact iteF ⟨(by show 0 ≤ sizeLine; decide), fun q hq => k q _ (s1.trans (Same.new hq)) (by rw [e]; exact upd_same)⟩
end
end Cc

end

section
set_option Elab.async false
set_option linter.all false
set_option maxRecDepth 100000
set_option maxHeartbeats 4000000
namespace Cc
open PySem PySem.Spec L2
/-- a dict comprehension over a walk: Pv by the turn and the heap -/
theorem ddc_it {P : Program} {w : World} {J : It} {n : Nat} {G : Hp → Prop} {Y : Nat → Hp → V → Hp → Prop} (wk : Walk J n G Y) {g : TG} {tt : TT} {tk tv : TE} {vs : List Nat} {σ : St} {H1 : Hp} {D : Addr} {Qd : Hp → Prop} (Pv : Nat → Hp → Prop) (h0 : Pv 0 (upd H1 D (DD P w D [])))
    (hG : ∀ i H, i ≤ n → Pv i H → G H)
    (hs : ∀ i x H H', i < n → Pv i H → Y i H x H' → g x (wipe σ vs) H' fun σ2 H2 => wipe σ2 vs = wipe σ vs ∧ tt σ2 H2 fun b H3 =>
      if b = true then tk σ2 H3 fun y H4 => tv σ2 H4 fun z H5 => ∃ b kvs k, y = .ref b ∧ H5 D = some (DD P w D kvs) ∧ KD H5 kvs ∧ Tq H5 b k ∧ k.all fl = true ∧ kvs.length < sizeLine ∧ Pv (i + 1) (upd H5 D (DD P w D (putD kvs k b z))) else Pv (i + 1) H3) (hd : ∀ H, Pv n H → Qd H) :
    ∃ W : Nat → Nat → Hp → Prop, (∃ m, W 0 m (upd H1 D (DD P w D []))) ∧ ∀ i m H, W i m H →
      (J.stop i H ∧ Qd H) ∨ (J.go i H ∧ ∃ Nx : Hp → Prop, (∀ H', Nx H' → ∃ m', m' < m ∧ W (i + 1) m' H') ∧ ∀ x H', J.yld i H x H' → g x (wipe σ vs) H' fun σ2 H2 => wipe σ2 vs = wipe σ vs ∧ tt σ2 H2 fun b H3 =>
        if b = true then tk σ2 H3 fun y H4 => tv σ2 H4 fun z H5 => ∃ b kvs k, y = .ref b ∧ H5 D = some (DD P w D kvs) ∧ KD H5 kvs ∧ Tq H5 b k ∧ k.all fl = true ∧ kvs.length < sizeLine ∧ Nx (upd H5 D (DD P w D (putD kvs k b z))) else Nx H3) := by
  refine ⟨fun i m H => m = n - i ∧ i ≤ n ∧ Pv i H, ⟨n, by simp, Nat.zero_le _, h0⟩, ?_⟩
  rintro i m H ⟨rfl, hi, p⟩
  by_cases hlt : i < n
  · exact .inr ⟨wk.goes i H hlt (hG i H hi p), Pv (i + 1), fun H' p' => ⟨n - (i + 1), by omega, rfl, hlt, p'⟩, fun x H' y => hs i x H H' hlt p (wk.yields i H x H' hlt (hG i H hi p) y)⟩
  · have e : i = n := by omega
    subst e
    exact .inl ⟨wk.stops H (hG i H hi p), hd H p⟩
theorem cast_hp {f : Hp → Prop} {H H' : Hp} (e : H = H') (h : f H') : f H := e ▸ h
theorem r_yes {A B : Hp → Prop} {σ : St} {H : Hp} (h : A H) : tYes σ H fun b H3 => if b = true then A H3 else B H3 := by show (if true = true then A H else B H); rw [if_pos rfl]; exact h
/-- the values of a dict are ints -/
def IntsIn (kvs : List Ent) : Prop := ∀ e ∈ kvs, ∃ i, e.2.2 = .int i
theorem IntsIn.put {kvs : List Ent} (h : IntsIn kvs) {k : List V} {b : Addr} (i : Int) : IntsIn (putD kvs k b (.int i)) := fun e he => by
  rcases putD_mem he with ⟨_, h1⟩ | ⟨h1, _⟩
  · exact ⟨i, h1⟩
  · exact h e h1
theorem DD_not {P : Program} {w : World} {H : Hp} {d : Addr} {kvs : List Ent} (h : H d = some (DD P w d kvs)) : ∀ o xs, H d ≠ some (.frz o (.tup xs)) := fun o xs e => by
  rw [h] at e
  exact DD_ne o xs (Option.some.inj e)
theorem dkeys_len (kvs : List Ent) : (dkeys kvs).length = kvs.length := List.length_map _
end Cc

end

section
set_option Elab.async false
set_option linter.all false
set_option maxRecDepth 100000
set_option maxHeartbeats 4000000
set_option pp.maxSteps 1200
set_option pp.proofs false
namespace Cc
open PySem PySem.Spec L2

def lgF (s : Sc) (Ks : List (List V)) (lg : List Row) : List (List V) := lg.foldl (fun Ks r => Ks.filter fun l => isSo s l r.1 r.2) Ks
theorem lgF_snoc (s : Sc) (Ks : List (List V)) (lg : List Row) (r : Row) : lgF s Ks (lg ++ [r]) = (lgF s Ks lg).filter fun l => isSo s l r.1 r.2 := by
  unfold lgF
  rw [List.foldl_append]
  rfl
theorem lgF_sub (s : Sc) : ∀ (lg : List Row) (Ks : List (List V)), (lgF s Ks lg).Sublist Ks
  | [], Ks => List.Sublist.refl _
  | r :: lg, Ks => (lgF_sub s lg (Ks.filter fun l => isSo s l r.1 r.2)).trans List.filter_sublist
def sp_counts_behind (P : Program) (w : World) (a : Ad) : Sp := fun vs H Q _ => ∃ (p d l : Addr) (s : Sc) (kvs : List Ent) (lg : List Row), vs = [.ref p, .ref d, .ref l] ∧ StoreAt a H p s ∧ s.Ok ∧ p ≠ d ∧ H d = some (DD P w d kvs) ∧ KD H kvs ∧ IntsIn kvs ∧ (dkeys kvs).Nodup ∧ (∀ l ∈ dkeys kvs, Lay s l) ∧ kvs.length ≤ 1024 ∧ Ls H l (lg.map rowD) ∧ (∀ r ∈ lg, RowOk s r) ∧ lg.length ≤ 1000 ∧
  ∀ d' H' kvs', Same H H' → H' d' = some (DD P w d' kvs') → KD H' kvs' → dkeys kvs' = lgF s (dkeys kvs) lg → Q (.ref d') H'
def sp_all_now (P : Program) (w : World) (a : Ad) : Sp := fun vs H Q _ => ∃ (p l : Addr) (s : Sc) (lg : List Row), vs = [.ref p, .ref l] ∧ StoreAt a H p s ∧ s.Ok ∧ Ls H l (lg.map rowD) ∧ (∀ r ∈ lg, RowOk s r) ∧ lg.length ≤ 1000 ∧ NewLs H ((srtL (lgF s (dk (lays s)) lg)).map eL) Q
def sp_now (a : Ad) : Sp := fun vs H Q _ => ∃ (p l : Addr) (s : Sc) (lg : List Row), vs = [.ref p, .ref l] ∧ StoreAt a H p s ∧ s.Ok ∧ Ls H l (lg.map rowD) ∧ (∀ r ∈ lg, RowOk s r) ∧ lg.length ≤ 1000 ∧ NewLs H ((srtL (lgF s (dk (lays s)) lg)).map eL) Q
def sp_need_some (a : Ad) : Sp := fun vs H Q _ => ∃ (r : Addr) (s : Sc) (ls : List (List V)), vs = [.ref r] ∧ s.Ok ∧ Ls H r (ls.map eL) ∧ ls ≠ [] ∧ (∀ l ∈ ls, Lay s l) ∧ ∀ H', Same H H' → Q .non H'
def sp_some_now (a : Ad) : Sp := fun vs H Q _ => ∃ (p l : Addr) (s : Sc) (lg : List Row), vs = [.ref p, .ref l] ∧ StoreAt a H p s ∧ s.Ok ∧ Ls H l (lg.map rowD) ∧ (∀ r ∈ lg, RowOk s r) ∧ lg.length ≤ 1000 ∧ lgF s (dk (lays s)) lg ≠ [] ∧ NewLs H ((srtL (lgF s (dk (lays s)) lg)).map eL) Q
theorem StoreAt.upd {a : Ad} {H : Hp} {p d : Addr} {s : Sc} {u o : HO} (h : StoreAt a H p s) (hd : H d = some u) (hp : p ≠ d) (h1 : ∀ fs, u ≠ .xd fs) (h2 : ∀ ob xs, u ≠ .frz ob (.tup xs)) : StoreAt a (L2.upd H d o) p s := by
  obtain ⟨dx, e, q, dd, c, g1, g2, g3, g4, g5⟩ := h
  have tk : Tk H (L2.upd H d o) := Tk.upd fun ob xs e => by rw [hd] at e; exact h2 _ _ (Option.some.inj e)
  refine ⟨dx, e, q, dd, c, ?_, tk _ _ g2, tk _ _ g3, g4.mono tk, tk _ _ g5⟩
  rcases g1 with ⟨_, g1⟩ | ⟨g1, g1'⟩
  · cases g1
  · exact .inr ⟨by rw [upd_ne hp]; exact g1, by rw [upd_ne (ne_of g1' hd (h1 []).symm)]; exact g1'⟩
theorem StoreAt.ne {a : Ad} {H : Hp} {p m : Addr} {s : Sc} (h : StoreAt a H p s) (hm : H m = none) : p ≠ m := by
  obtain ⟨dx, e, q, dd, c, g1, _⟩ := h
  rcases g1 with ⟨g1, _⟩ | ⟨g1, _⟩
  · exact ne_of_none g1 hm
  · exact ne_of_none g1 hm
theorem lgF_lay {s : Sc} (o : s.Ok) {lg : List Row} {l : List V} (h : l ∈ lgF s (dk (lays s)) lg) : Lay s l := lays_lay o (mem_dk.mp ((lgF_sub s lg _).subset h))
theorem lays_small {s : Sc} (o : s.Ok) : (lays s).length ≤ 1024 := laysN_small o (Nat.le_refl _)
theorem eqv_cons_nil (d : PyData) (ds : List PyData) : PyData.eqv (.list (d :: ds)) (.list []) = false := by
  rw [PyData.eqv.eq_def]
  rfl
section
variable {P : Program} {w : World} {K : PySem.W.Frag} {mg : Str → Option Value} {base : Heap} {a : Ad}
theorem ok_counts_behind (T : Txt K mg a) : FnOk P w K mg base CX0 4 a.f_counts_behind a.d_counts_behind ["store", "counts", "log"] (sp_counts_behind P w a) := by
  refine T.F_counts_behind.ok sc_counts_behind (fun vs H Q E h => ?_) (fun cdv A outer s H vs Q E hr h => ?_)
  · obtain ⟨p, d, l, s, kvs, lg, rfl, S, o, hpd, hd, kd, hi, hn, hL, hsz, hl, ok, hlg, k⟩ := h; rfl
  · obtain ⟨p, d, l, s, kvs, lg, rfl, S, o, hpd, hd, kd, hi, hn, hL, hsz, hl, ok, hlg, k⟩ := h
    have hu := hr.units
    refine ⟨_, (pss_cons (ps_for PassesOwn.never rfl (pi_list (pv 2)) (pg_name (i := 3) sc_counts_behind.nd rfl (by first | exact Or.inl rfl | exact Or.inr rfl))
       (pss_cons (ps_set (i := 4) sc_counts_behind.nd rfl (by first | exact Or.inl rfl | exact Or.inr rfl) pe_ddnew)
       (pss_cons (ps_lock (ps_for PassesOwn.never rfl (pi_di (pv 1)) (pg_tup rfl (pgs_cons (pg_name (i := 5) sc_counts_behind.nd rfl (by first | exact Or.inl rfl | exact Or.inr rfl)) (pgs_cons (pg_name (i := 6) sc_counts_behind.nd rfl (by first | exact Or.inl rfl | exact Or.inr rfl)) pgs_nil)))
       (pss_one (ps_for PassesOwn.never rfl (pi_list (pe_call (ok_behind_row T) (hr.mono (by decide)) (by rfl) T.m_behind_row T.F_behind_row.kp T.b_behind_row .nil pass0 (pa_cons (pv 0) (pa_cons (pv 5) (pa_cons (pv 3) pa_nil))))) (pg_name (i := 7) sc_counts_behind.nd rfl (by first | exact Or.inl rfl | exact Or.inr rfl))
       (pss_one (ps_ddput hu (pv 4) (pv 7) (pe_op op_add (pe_ddget2 hu (pv 4) (pv 7) pe_int ⟨rfl, rfl, rfl, rfl⟩) (pv 6)) rfl))))))
       (pss_one (ps_set (i := 1) sc_counts_behind.nd rfl (by first | exact Or.inl rfl | exact Or.inr rfl) (pv 4))))))
       (pss_one (ps_ret (pv 1)))), ?_⟩
    obtain ⟨xs, hx, hq⟩ := hl
    have hxl : xs.length = lg.length := by rw [hq.length, List.length_map]
    refine ⟨_, rfl, l, rfl, ⟨xs, SqL.of hx⟩, for_it (walk_list (xs := xs)) (fun i σ H' => ∃ d' kv v3 v4 v5 v6 v7, σ = [some (.ref p), some (.ref d'), some (.ref l), v3, v4, v5, v6, v7] ∧ Same H H' ∧ p ≠ d' ∧ H' d' = some (DD P w d' kv) ∧ KD H' kv ∧ IntsIn kv ∧ dkeys kv = lgF s (dkeys kvs) (lg.take i))
      ⟨d, kvs, _, _, _, _, _, rfl, Same.refl H, hpd, hd, kd, hi, rfl⟩ (fun i σ H' _ ⟨_, _, _, _, _, _, _, _, s1, _⟩ => SqL.of (s1 _ _ hx)) ?_ ?_⟩
    · rintro i x σ H1 H1' hi' ⟨d', kv, v3, v4, v5, v6, v7, rfl, s1, hpd1, hd1, kd1, hi1, hk1⟩ ⟨rfl, hxi⟩
      obtain ⟨dr, hdr, hxd⟩ := (hq.same s1).get hxi
      rw [List.getElem?_map] at hdr
      obtain ⟨r, hr, rfl⟩ := Option.map_eq_some_iff.mp hdr
      have okr := ok r (List.mem_of_getElem? hr)
      obtain ⟨t, c, rfl, ht, hc⟩ := rowD_inv okr.fl hxd
      have hn1 : (dkeys kv).Nodup := by rw [hk1]; exact (lgF_sub s _ _).nodup hn
      have hL1 : ∀ l ∈ dkeys kv, Lay s l := fun l h => hL l ((lgF_sub s (lg.take i) _).subset (hk1 ▸ h))
      have hz1 : kv.length ≤ 1024 := by
        have := (lgF_sub s (lg.take i) (dkeys kvs)).length_le
        rw [← hk1, dkeys_len, dkeys_len] at this
        omega
      -- later = {}
      intro m hm
      have nm : d' ≠ m := ne_of_none hd1 hm
      have s2 : Same H1' (upd H1' m (DD P w m [])) := Same.new hm
      refine ⟨d', DD P w d' kv, s2 _ _ hd1, DD_mut, fun od => ?_⟩
      have bd : (upd H1' d' (.frz od (DD P w d' kv))) m = none := by rw [upd_ne nm.symm]; exact hm
      have eH : upd (upd H1' m (DD P w m [])) d' (.frz od (DD P w d' kv)) = upd (upd H1' d' (.frz od (DD P w d' kv))) m (DD P w m []) := by
        funext b
        by_cases h1 : b = m
        · rw [h1, upd_same, upd_ne nm.symm, upd_same]
        · by_cases h2 : b = d'
          · rw [h2, upd_same, upd_ne nm, upd_same]
          · rw [upd_ne h2, upd_ne h1, upd_ne h1, upd_ne h2]
      refine cast_hp eH ?_
      have tkl : Tk H1' (upd H1' d' (.frz od (DD P w d' kv))) := Tk.upd (DD_not hd1)
      have Sl : StoreAt a (upd H1' d' (.frz od (DD P w d' kv))) p s := (S.mono s1).upd hd1 hpd1 (fun fs => by unfold DD; intro z; cases z) (fun ob xs => DD_ne ob xs)
      have kdl := kd1.mono tkl
      have htl := tkl _ _ ht
      have hcl := tkl _ _ hc
      have hdl : (upd H1' d' (.frz od (DD P w d' kv))) d' = some (.frz od (DD P w d' kv)) := upd_same
      have sB : ∀ {H''}, Same (upd H1' d' (.frz od (DD P w d' kv))) H'' → Same H1' (upd H'' d' (DD P w d' kv)) := fun e => Same.lock hd1 e
      revert bd tkl Sl kdl htl hcl hdl sB
      clear eH
      generalize upd H1' d' (.frz od (DD P w d' kv)) = B
      intro bd tkl Sl kdl htl hcl hdl sB
      refine ⟨_, rfl, d', od, kv, rfl, Same.new bd _ _ hdl, ?_⟩
      refine for_it (walk_di (kvs := kv)) (fun j σ H' => ∃ kv2 v5 v6 v7, σ = [some (.ref p), some (.ref d'), some (.ref l), some (.ref t), some (.ref m), v5, v6, v7] ∧ Same B H' ∧ H' m = some (DD P w m kv2) ∧ KD H' kv2 ∧ IntsIn kv2 ∧ dkeys kv2 = ((dkeys kv).take j).filter fun l => isSo s l r.1 r.2)
        ⟨[], _, _, _, rfl, Same.new bd, upd_same, KD.nil, (fun e h => nomatch h), rfl⟩ (fun j σ H' _ ⟨_, _, _, _, _, s3, _⟩ => s3 _ _ hdl) ?_ ?_
      · rintro j v σ H3 H4 hj ⟨kv2, v5, v6, v7, rfl, s3, hm3, kd3, hi3, hk3⟩ ⟨T', e, he, rfl, hT, rfl⟩
        obtain ⟨lay, b, cnt⟩ := e
        have he' : (dkeys kv)[j]? = some lay := by unfold dkeys; rw [List.getElem?_map, he]; rfl
        have hlay : Lay s lay := hL1 lay (List.mem_of_getElem? he')
        have hb0 := (kdl _ (List.mem_of_getElem? he)).1
        obtain ⟨ci, hci⟩ := hi1 _ (List.mem_of_getElem? he)
        simp only at hci hb0
        subst hci
        have s34 : Same H3 (upd H3 T' (.tup [.ref b, .int ci])) := Same.new hT
        have sB4 := s3.trans s34
        refine ⟨T', _, rfl, SqT.of upd_same, rfl, _, _, rfl, _, _, rfl, rfl, ?_⟩
        refine ⟨_, rfl, _, rfl, _, rfl, p, b, t, c, s, lay, r, rfl, Sl.mono sB4, o, hb0.same sB4, hlay, htl.same sB4, hcl.same sB4, okr, fun q H5 s5 hq5 => ⟨q, rfl, ⟨_, SqL.of hq5⟩, ?_⟩⟩
        have hm5 := s5 _ _ (s34 _ _ hm3)
        have kd5 := (kd3.same s34).same s5
        have hb5 := (hb0.same sB4).same s5
        have sB5 := sB4.trans s5
        have nl : lay ∉ (dkeys kv).take j := fun z => by
          obtain ⟨i2, hi2, e2⟩ := List.mem_take_iff_getElem.mp z
          have l1 := lt_of_get he'
          have := (List.getElem_inj hn1 (h₀ := by omega) (h₁ := l1)).mp (e2.trans (List.getElem?_eq_some_iff.mp he').2.symm)
          omega
        have hz3 : kv2.length ≤ 1024 := by
          have h1 := congrArg List.length hk3
          have h2 := List.length_filter_le (fun l => isSo s l r.1 r.2) ((dkeys kv).take j)
          rw [dkeys_len] at h1
          rw [List.length_take, dkeys_len] at h2
          omega
        have hnk : lay ∉ dkeys kv2 := by rw [hk3]; exact fun z => nl (List.mem_filter.mp z).1
        have fin : ∀ H6 kv6 v7, Same B H6 → H6 m = some (DD P w m kv6) → KD H6 kv6 → IntsIn kv6 → dkeys kv6 = (dkeys kv2 ++ if isSo s lay r.1 r.2 = true then [lay] else []) →
            ∃ kv2 v5 v6 v7', [some (V.ref p), some (.ref d'), some (.ref l), some (.ref t), some (.ref m), some (.ref b), some (.int ci), v7] = [some (V.ref p), some (.ref d'), some (.ref l), some (.ref t), some (.ref m), v5, v6, v7'] ∧ Same B H6 ∧ H6 m = some (DD P w m kv2) ∧ KD H6 kv2 ∧ IntsIn kv2 ∧ dkeys kv2 = ((dkeys kv).take (j + 1)).filter fun l => isSo s l r.1 r.2 := fun H6 kv6 v7 h1 h2 h3 h4 h5 => by
          refine ⟨kv6, _, _, _, rfl, h1, h2, h3, h4, ?_⟩
          rw [h5, hk3, take_snoc he', List.filter_append]
          congr 1
          by_cases e : isSo s lay r.1 r.2 = true
          · simp [e]
          · simp [e]
        by_cases hso : isSo s lay r.1 r.2 = true
        · refine for_it (walk_list (xs := [.ref b])) (fun i σ H' => ∃ kv6 v7, σ = [some (.ref p), some (.ref d'), some (.ref l), some (.ref t), some (.ref m), some (.ref b), some (.int ci), v7] ∧ Same B H' ∧ H' q = some (.lst [.ref b]) ∧ H' m = some (DD P w m kv6) ∧ KD H' kv6 ∧ IntsIn kv6 ∧ dkeys kv6 = dkeys kv2 ++ if i = 0 then [] else [lay])
            ⟨kv2, _, rfl, sB5, by rw [if_pos hso] at hq5; exact hq5, hm5, kd5, hi3, by simp⟩ (fun i σ H' _ ⟨_, _, _, _, h, _⟩ => SqL.of h) ?_ ?_
          · rintro i x σ H6 H6' hi6 ⟨kv6, v7, rfl, s6, hq6, hm6, kd6, hi6', hk6⟩ ⟨rfl, hx6⟩
            have hi0 : i = 0 := by simp at hi6; exact hi6
            subst hi0
            obtain rfl : V.ref b = x := by simpa using hx6
            have hb6 := hb0.same s6
            have hk6 : dkeys kv6 = dkeys kv2 := by simpa using hk6
            have hnk6 : lay ∉ dkeys kv6 := by rw [hk6]; exact hnk
            have hz6 : kv6.length ≤ 1024 := by rw [← dkeys_len, hk6, dkeys_len]; exact hz3
            refine ⟨_, rfl, ⟨m, kv6, rfl, .inl hm6⟩, _, rfl, m, b, kv6, lay, rfl, rfl, .inl hm6, kd6, hb6, hlay.fl o, ?_⟩
            rw [atD_none.mpr hnk6]
            refine ⟨_, rfl, _, _, rfl, rfl, _, rfl, _, rfl, m, b, kv6, lay, rfl, rfl, hm6, kd6, hb6, hlay.fl o, sz_lt (by omega), ?_⟩
            have tk6 : Tk H6' (upd H6' m (DD P w m (putD kv6 lay b (.int (0 + ci))))) := Tk.upd (DD_not hm6)
            have nq : q ≠ m := ne_of hq6 hm6 (by unfold DD; intro z; cases z)
            refine ⟨_, _, rfl, Same.mut s6 bd, by rw [upd_ne nq]; exact hq6, upd_same, (kd6.put hb6 (hlay.fl o)).mono tk6, hi6'.put _, ?_⟩
            rw [putD_keys, if_neg hnk6, hk6]; simp
          · rintro σ H6 ⟨kv6, v7, rfl, s6, _, hm6, kd6, hi6', hk6⟩
            exact fin H6 kv6 _ s6 hm6 kd6 hi6' (by rw [hk6, if_pos hso]; simp)
        · refine for_it (walk_list (xs := [])) (fun i σ H' => σ = [some (.ref p), some (.ref d'), some (.ref l), some (.ref t), some (.ref m), some (.ref b), some (.int ci), v7] ∧ H' = H5) ⟨rfl, rfl⟩ (fun i σ H' _ h => by rw [h.2]; rw [if_neg hso] at hq5; exact SqL.of hq5) ?_ ?_
          · rintro i x σ H6 H6' hi6 _ _
            exact absurd hi6 (Nat.not_lt_zero i)
          · rintro σ H6 ⟨rfl, rfl⟩
            exact fin H6 kv2 _ sB5 hm5 kd5 hi3 (by rw [if_neg hso, List.append_nil])
      · rintro σ H3 ⟨kv2, v5, v6, v7, rfl, s3, hm3, kd3, hi3, hk3⟩
        have hd3 := s3 _ _ hdl
        have tk3 : Tk H3 (upd H3 d' (DD P w d' kv)) := Tk.unlock hd3
        refine ⟨hd3, _, rfl, m, kv2, _, _, _, _, _, rfl, s1.trans (sB s3), (S.mono s1).ne hm, by rw [upd_ne nm.symm]; exact hm3, kd3.mono tk3, hi3, ?_⟩
        rw [hk3, ← dkeys_len, List.take_length, hk1, take_snoc hr, lgF_snoc]
    · rintro σ H1 ⟨d', kv, v3, v4, v5, v6, v7, rfl, s1, _, hd1, kd1, _, hk1⟩
      rw [hxl, List.take_length] at hk1
      exact ⟨_, rfl, k d' H1 kv s1 hd1 kd1 hk1⟩
theorem ok_all_now (T : Txt K mg a) : FnOk P w K mg base CX0 5 a.f_all_now a.d_all_now ["store", "log"] (sp_all_now P w a) := by
  refine T.F_all_now.ok sc_all_now (fun vs H Q E h => ?_) (fun cdv A outer s H vs Q E hr h => ?_)
  · obtain ⟨p, l, s, lg, rfl, S, o, hl, ok, hlg, k⟩ := h; rfl
  · obtain ⟨p, l, s, lg, rfl, S, o, hl, ok, hlg, k⟩ := h
    have hu := hr.units
    refine ⟨_, (pss_one (ps_ret (pe_call (ok_in_order T) (hr.mono (by decide)) (by rfl) T.m_in_order T.F_in_order.kp T.b_in_order .nil pass0 (pa_cons (pe_call (ok_counts_behind T) (hr.mono (by decide)) (by rfl) T.m_counts_behind T.F_counts_behind.kp T.b_counts_behind .nil pass0 (pa_cons (pv 0) (pa_cons (pe_ddc (own := [("layout", 2)]) (g := (gName 2)) hu rfl sc_all_now.nd (pi_list (pe_call (ok_all_layouts T) (hr.mono (by decide)) (by rfl) T.m_all_layouts T.F_all_layouts.kp T.b_all_layouts .nil pass0 (pa_cons (pv 0) pa_nil))) (blkOk_by (own := [("layout", 2)]) (N := ["store", "log", "layout"]) (sc := defScope s_all_now) (by decide +kernel))
       (fun _ _ _ _ _ => (pg_name (i := 2) sc_all_now.nd rfl (by first | exact Or.inl rfl | exact Or.inr rfl))) (fun _ _ _ _ _ => pts_nil) (fun _ _ _ _ _ => (pv 2)) (fun _ _ _ _ _ => pe_int)) (pa_cons (pv 1) pa_nil)))) pa_nil)))), ?_⟩
    refine ⟨_, rfl, _, rfl, p, s, rfl, S, o, fun r H1 s1 hrr => ?_⟩
    obtain ⟨rows, hrows, hq⟩ := hrr
    have hlen : rows.length = (lays s).length := by rw [hq.length, List.length_map]
    have hsm := lays_small o
    refine ⟨r, rfl, ⟨rows, SqL.of hrows⟩, fun D hD => ddc_it (walk_list (xs := rows)) (fun i H' => ∃ kvs, Same H1 H' ∧ H' D = some (DD P w D kvs) ∧ KD H' kvs ∧ IntsIn kvs ∧ dkeys kvs = dk ((lays s).take i))
      ⟨[], Same.new hD, upd_same, KD.nil, (fun e h => nomatch h), rfl⟩ (fun i H' _ ⟨_, s2, _⟩ => SqL.of (s2 _ _ hrows)) ?_ ?_⟩
    · rintro i x H2 H2' hi ⟨kvs, s2, hd2, kd2, hi2, hk2⟩ ⟨rfl, hx⟩
      obtain ⟨dl, hdl, hxd⟩ := (hq.same s2).get hx
      rw [List.getElem?_map] at hdl
      obtain ⟨lay, hlay, rfl⟩ := Option.map_eq_some_iff.mp hdl
      have L := lays_lay o (List.mem_of_getElem? hlay)
      obtain ⟨b, rfl, hb⟩ := hxd.eL_inv (L.fl o)
      have hz : kvs.length ≤ 1024 := by
        have h1 := dk_len ((lays s).take i)
        rw [← hk2, dkeys_len, List.length_take] at h1
        omega
      refine ⟨rfl, r_yes ?_⟩
      refine ⟨_, rfl, b, kvs, lay, rfl, hd2, kd2, hb, L.fl o, sz_lt (by omega), putD kvs lay b (.int 1), Same.mut s2 hD, upd_same, (kd2.put hb (L.fl o)).mono (Tk.upd (DD_not hd2)), hi2.put 1, ?_⟩
      rw [putD_keys, hk2, take_snoc hlay, dk_snoc]
      by_cases e : lay ∈ dk ((lays s).take i) <;> simp [e]
    · rintro H2 ⟨kvs, s2, hd2, kd2, hi2, hk2⟩
      rw [hlen, List.take_length] at hk2
      have s12 := s1.trans s2
      have hz : kvs.length ≤ 1024 := by
        have h1 := dk_len (lays s)
        rw [← hk2, dkeys_len] at h1
        omega
      have hL : ∀ l ∈ dkeys kvs, Lay s l := fun l h => lays_lay o (mem_dk.mp (hk2 ▸ h))
      refine ⟨_, rfl, p, D, l, s, kvs, lg, rfl, S.mono s12, o, (S.mono s1).ne hD, hd2, kd2, hi2, by rw [hk2]; exact nd_dk _, hL, hz, hl.mono s12, ok, hlg, fun d' H3 kvs' s3 hd3 kd3 hk3 => ?_⟩
      refine ⟨d', kvs', s, rfl, .inl hd3, kd3, o, fun l h => ?_, ?_⟩
      · rw [hk3] at h
        exact hL l ((lgF_sub s lg _).subset h)
      · rw [hk3, hk2]
        exact fun q H4 s4 h4 => k q H4 ((s12.trans s3).trans s4) h4
theorem ok_now (T : Txt K mg a) : FnOk P w K mg base CX0 6 a.f_now a.d_now ["store", "log"] (sp_now a) := by
  refine T.F_now.ok sc_now (fun vs H Q E h => ?_) (fun cdv A outer s H vs Q E hr h => ?_)
  · obtain ⟨p, l, s, lg, rfl, S, o, hl, ok, hlg, k⟩ := h; rfl
  · obtain ⟨p, l, s, lg, rfl, S, o, hl, ok, hlg, k⟩ := h
    have hu := hr.units
    refine ⟨_, (pss_cons (ps_expr (pe_call (ok_check_log T) (hr.mono (by decide)) (by rfl) T.m_check_log T.F_check_log.kp T.b_check_log .nil pass0 (pa_cons (pv 0) (pa_cons (pv 1) pa_nil))))
       (pss_one (ps_ret (pe_call (ok_all_now T) (hr.mono (by decide)) (by rfl) T.m_all_now T.F_all_now.kp T.b_all_now .nil pass0 (pa_cons (pv 0) (pa_cons (pv 1) pa_nil)))))), ?_⟩
    refine ⟨_, rfl, _, rfl, p, l, s, lg, rfl, S, o, hl, ok, fun H1 s1 => ?_⟩
    exact ⟨_, rfl, _, rfl, p, l, s, lg, rfl, S.mono s1, o, hl.mono s1, ok, hlg, fun q H2 s2 h2 => k q H2 (s1.trans s2) h2⟩
theorem ok_need_some (T : Txt K mg a) : FnOk P w K mg base CX0 1 a.f_need_some a.d_need_some ["rows"] (sp_need_some a) := by
  refine T.F_need_some.ok sc_need_some (fun vs H Q E h => ?_) (fun cdv A outer s H vs Q E hr h => ?_)
  · obtain ⟨r, s, ls, rfl, o, hrl, hne, hL, k⟩ := h; rfl
  · obtain ⟨r, s, ls, rfl, o, hrl, hne, hL, k⟩ := h
    have hu := hr.units
    refine ⟨_, (pss_one (ps_if (pt_cmpR (op_eqDK K hu) (pv 0) (pe_lst pa_nil) (nomark _)) (pss_one ps_never) pss_nil)), ?_⟩
    refine ⟨_, rfl, (by show 0 ≤ sizeLine; decide), fun e he => ?_⟩
    refine ⟨_, .list [], (hrl.mono (Same.new he)).dp, .lst (SqL.of upd_same) .nil, shaped_lays o hL, shaped_nil, _, rfl, ?_⟩
    cases ls with
    | nil => exact absurd rfl hne
    | cons l ls =>
      rw [List.map_cons, eqv_cons_nil]
      exact iteF (k _ (Same.new he))
theorem ok_some_now (T : Txt K mg a) : FnOk P w K mg base CX0 7 a.f_some_now a.d_some_now ["store", "log"] (sp_some_now a) := by
  refine T.F_some_now.ok sc_some_now (fun vs H Q E h => ?_) (fun cdv A outer s H vs Q E hr h => ?_)
  · obtain ⟨p, l, s, lg, rfl, S, o, hl, ok, hlg, hne, k⟩ := h; rfl
  · obtain ⟨p, l, s, lg, rfl, S, o, hl, ok, hlg, hne, k⟩ := h
    have hu := hr.units
    refine ⟨_, (pss_cons (ps_set (i := 2) sc_some_now.nd rfl (by first | exact Or.inl rfl | exact Or.inr rfl) (pe_call (ok_now T) (hr.mono (by decide)) (by rfl) T.m_now T.F_now.kp T.b_now .nil pass0 (pa_cons (pv 0) (pa_cons (pv 1) pa_nil))))
       (pss_cons (ps_expr (pe_call (ok_need_some T) (hr.mono (by decide)) (by rfl) T.m_need_some T.F_need_some.kp T.b_need_some .nil pass0 (pa_cons (pv 2) pa_nil)))
       (pss_one (ps_ret (pv 2))))), ?_⟩
    refine ⟨_, rfl, _, rfl, p, l, s, lg, rfl, S, o, hl, ok, hlg, fun q H1 s1 hq => ?_⟩
    refine ⟨_, rfl, q, s, _, rfl, o, hq, ?_, fun l h => lgF_lay o (srtL_mem.mp h), fun H2 s2 => ?_⟩
    · intro z
      have := congrArg List.length z
      rw [srtL_len] at this
      exact hne (List.length_eq_zero_iff.mp this)
    · exact ⟨_, rfl, k q H2 (s1.trans s2) (hq.mono s2)⟩
end
end Cc

end

section
set_option Elab.async false
set_option linter.all false
set_option maxRecDepth 100000
set_option maxHeartbeats 4000000
namespace Cc
open PySem PySem.Spec L2
theorem nd_len {α : Type} [DecidableEq α] {L ks : List α} (h : L.Nodup) (hs : ∀ x ∈ L, x ∈ ks) : L.length ≤ ks.length := by
  have p : L.Perm ((dk ks).filter fun x => decide (x ∈ L)) := nd_perm h ((nd_dk ks).filter _) fun x => by
    rw [List.mem_filter, mem_dk, decide_eq_true_eq]
    exact ⟨fun hx => ⟨hs x hx, hx⟩, fun hx => hx.2⟩
  rw [p.length_eq]
  exact Nat.le_trans (List.length_filter_le _ _) (dk_len ks)
section
variable {X : Cx} (K : PySem.W.Frag)
theorem cr_setOfSK (hc : X.calm = true) (hK : X.K = K := by rfl) : CallR X (.type "set") (rSetOfS K X.prog X.w) := by subst hK; exact cr_setOfS hc
theorem cr_setOfIK (hc : X.calm = true) (hu : X.A.units + 64 < cLine) (hK : X.K = K := by rfl) : CallR X (.type "set") (rSetOfI K X.prog X.w) := by subst hK; exact cr_setOfI hc hu
theorem cr_sortedIK (hu : X.A.units + 64 < cLine) (hc : X.calm = true) (hK : X.K = K := by rfl) : CallR X (.builtin "sorted") (rSortedI K X.prog X.w) := by subst hK; exact cr_sortedI hu hc
theorem op_notInDK (hu : X.A.units + 64 < cLine) (hK : X.K = K := by rfl) (hu2 : X.A.units + 65 < cLine) : OpR X (compareOp .NotIn) (rNotInD K) := by subst hK; exact op_notInD hu2
end
theorem srtD_perm (ds : List PyData) : (srtD ds).Perm ds := List.mergeSort_perm _ _
/-- a sorted list of what is a perm of a map -/
theorem srtD_lift {α : Type} {f : α → PyData} {ds : List PyData} {L : List α} (h : ds.Perm (L.map f)) : ∃ L' : List α, L'.Perm L ∧ srtD ds = L'.map f := perm_lift ((srtD_perm ds).trans h) rfl
theorem alike_ints1 {ds : List PyData} (h : ∀ d ∈ ds, ∃ i, d = .int i) : PySem.W.AllAlike ds := fun d hd d' hd' => by
  obtain ⟨i, rfl⟩ := h d hd
  obtain ⟨j, rfl⟩ := h d' hd'
  rfl
theorem alike_strs1 {ds : List PyData} (h : ∀ d ∈ ds, ∃ i, d = .str i) : PySem.W.AllAlike ds := fun d hd d' hd' => by
  obtain ⟨i, rfl⟩ := h d hd
  obtain ⟨j, rfl⟩ := h d' hd'
  rfl
end Cc

end

section
set_option Elab.async false
set_option linter.all false
set_option maxRecDepth 100000
set_option maxHeartbeats 4000000
set_option pp.maxSteps 1200
set_option pp.proofs false
namespace Cc
open PySem PySem.Spec L2

/-! ### steps -/
structure Stp where
  nm : V
  pl : Nat
  wm : Int
  lay : List V
def Stp.D (x : Stp) : PyData := .tuple [.tuple [dV x.nm, .int (x.pl : Int)], .int x.wm, eL x.lay]
def Stp.key (x : Stp) : V × Nat × List V := (x.nm, x.pl, x.lay)
def stK (l : List V) (ij : Nat × Nat) : V × Nat × List V := (l.getD ij.1 .non, ij.2, swapL l ij.1 ij.2)
def stF (l : List V) (i : Nat) : List (Nat × Nat) := if l[i]? = some .non then [] else (List.range l.length).filterMap fun j => if l[j]? = some .non then some (i, j) else none
def stG (l : List V) (i j : Nat) : Option (Nat × Nat) := if l[j]? = some .non then some (i, j) else none
theorem stL_eq (l : List V) : stL l = (List.range l.length).flatMap (stF l) := rfl
def sp_all_steps (a : Ad) : Sp := fun vs H Q _ => ∃ (p b : Addr) (s : Sc) (l : List V), vs = [.ref p, .ref b] ∧ StoreAt a H p s ∧ s.Ok ∧ Tq H b l ∧ Lay s l ∧
  ∀ (st : List Stp) q H', Same H H' → st.map Stp.key = (stL l).map (stK l) → Ls H' q (st.map Stp.D) → Q (.ref q) H'
def sp_doors_of (a : Ad) : Sp := fun vs H Q _ => ∃ (p b t : Addr) (s : Sc) (l : List V) (i j : Nat) (x : V), vs = [.ref p, .ref b, .ref t] ∧ StoreAt a H p s ∧ s.Ok ∧ Tq H b l ∧ Lay s l ∧ Tq H t [x, .int (j : Int)] ∧ l[i]? = some x ∧ x ≠ .non ∧ j < s.ed.length ∧
  NewL H ((dd (edA s i) (edA s j)).map V.int) Q
section
variable {P : Program} {w : World} {K : PySem.W.Frag} {mg : Str → Option Value} {base : Heap} {a : Ad}
theorem ok_doors_of (T : Txt K mg a) : FnOk P w K mg base CX0 3 a.f_doors_of a.d_doors_of ["store", "layout", "step"] (sp_doors_of a) := by
  refine T.F_doors_of.ok sc_doors_of (fun vs H Q E h => ?_) (fun cdv A outer s H vs Q E hr h => ?_)
  · obtain ⟨p, b, t, s, l, i, j, x, rfl, S, o, hb, L, ht, hx, hn, hj, k⟩ := h; rfl
  · obtain ⟨p, b, t, s, l, i, j, x, rfl, S, o, hb, L, ht, hx, hn, hj, k⟩ := h
    have hu := hr.units
    refine ⟨_, (pss_cons (ps_asg (pv 2) (pg_tup rfl (pgs_cons (pg_name (i := 3) sc_doors_of.nd rfl (by first | exact Or.inl rfl | exact Or.inr rfl)) (pgs_cons (pg_name (i := 4) sc_doors_of.nd rfl (by first | exact Or.inl rfl | exact Or.inr rfl)) pgs_nil))))
       (pss_cons (ps_par (i := 5) (j := 6) rfl sc_doors_of.nd rfl rfl (by decide) rfl rfl (pa_cons (SlX.pe_methSl (pv 0) T.clS T.t_Store_door_of ((ok_Store_door_of T).raw T.b_Store_door_of .nil) (hr.mono (by decide)) pass0 (pa_cons (pe_bt PySem.F.slot_tuple_index PySem.F.type_tuple_index (mt_idxK K) (pv 1) (pa_cons (pv 3) pa_nil)) pa_nil)) (pa_cons (SlX.pe_methSl (pv 0) T.clS T.t_Store_door_of ((ok_Store_door_of T).raw T.b_Store_door_of .nil) (hr.mono (by decide)) pass0 (pa_cons (pv 4) pa_nil)) pa_nil)) (by rfl))
       (pss_one (ps_ret (pe_ifExp (pt_cmpR op_eq (pv 5) (pv 6) (nomark _)) (pe_tupX (pa_cons (pv 5) pa_nil)) (pe_tupX (pa_cons (pv 5) (pa_cons (pv 6) pa_nil)))))))), ?_⟩
    obtain ⟨dx, e0, q0, d0, c0, hS, _⟩ := id S
    obtain ⟨c, hc, rfl⟩ := (L.mem (List.mem_of_getElem? hx)).resolve_left hn
    have hi : i = l.idxOf (.str c) := idx_one (L.one o hc) hx
    have hil : i < s.ed.length := by rw [← L.len o]; exact lt_of_get hx
    have hm := List.mem_of_getElem? hx
    refine ⟨_, rfl, t, _, rfl, ht.seq, rfl, _, _, rfl, _, _, rfl, rfl, ?_⟩
    refine ⟨_, rfl, p, dx, _, rfl, hS, ?_⟩
    refine ⟨_, rfl, ⟨b, l, rfl, hb⟩, _, rfl, b, l, .str c, rfl, rfl, hb.seq, L.fl o, rfl, hm, ?_⟩
    rw [← hi]
    refine ⟨p, s, i, rfl, S, hil, ?_⟩
    refine ⟨_, rfl, p, dx, _, rfl, hS, _, rfl, p, s, j, rfl, S, hj, _, _, rfl, ?_⟩
    refine ⟨_, rfl, _, rfl, rfl, _, rfl, ?_⟩
    by_cases e : edA s i = edA s j
    · refine iteD (by rw [e]) ⟨_, rfl, (by show 1 ≤ 1000000; decide), fun q H1 _ s1 hq => ?_⟩
      unfold dd at k
      rw [if_pos e] at k
      exact k q H1 s1 hq
    · refine iteDn (fun z => e (by injection z)) ⟨_, rfl, _, rfl, (by show 2 ≤ 1000000; decide), fun q H1 _ s1 hq => ?_⟩
      unfold dd at k
      rw [if_neg e] at k
      exact k q H1 s1 hq
theorem ok_all_steps (T : Txt K mg a) : FnOk P w K mg base CX0 3 a.f_all_steps a.d_all_steps ["store", "layout"] (sp_all_steps a) := by
  refine T.F_all_steps.ok sc_all_steps (fun vs H Q E h => ?_) (fun cdv A outer s H vs Q E hr h => ?_)
  · obtain ⟨p, b, s, l, rfl, S, o, hb, L, k⟩ := h; rfl
  · obtain ⟨p, b, s, l, rfl, S, o, hb, L, k⟩ := h
    have hu := hr.units
    refine ⟨_, (pss_cons (ps_set (i := 2) sc_all_steps.nd rfl (by first | exact Or.inl rfl | exact Or.inr rfl) (pe_lst pa_nil))
       (pss_cons (ps_for PassesOwn.never rfl (pi_enumT (by rfl) T.z_enumerate (pa_cons (pv 1) pa_nil)) (pg_tup rfl (pgs_cons (pg_name (i := 3) sc_all_steps.nd rfl (by first | exact Or.inl rfl | exact Or.inr rfl)) (pgs_cons (pg_name (i := 4) sc_all_steps.nd rfl (by first | exact Or.inl rfl | exact Or.inr rfl)) pgs_nil)))
       (pss_one (ps_if (pt_cmp (pc_notN (pv 4))) (pss_one (ps_for PassesOwn.never rfl (pi_enumT (by rfl) T.z_enumerate (pa_cons (pv 1) pa_nil)) (pg_tup rfl (pgs_cons (pg_name (i := 5) sc_all_steps.nd rfl (by first | exact Or.inl rfl | exact Or.inr rfl)) (pgs_cons (pg_name (i := 6) sc_all_steps.nd rfl (by first | exact Or.inl rfl | exact Or.inr rfl)) pgs_nil)))
       (pss_one (ps_if (pt_cmp (pc_isN (pv 6))) (pss_cons (ps_set (i := 7) sc_all_steps.nd rfl (by first | exact Or.inl rfl | exact Or.inr rfl) (pe_callB (cr_sortedS hu rfl) (by rfl) T.z_sorted (by decide +kernel) (pa_cons (pe_callTy (cr_setOfSK K rfl) (by rfl) T.z_set (by decide +kernel) (pa_cons (pe_lst (pa_cons (pe_ix (ix_tupK K) (pe_slK K (pv 0)) (pv 3) (by intro _ _; rfl)) (pa_cons (pe_ix (ix_tupK K) (pe_slK K (pv 0)) (pv 5) (by intro _ _; rfl)) pa_nil))) pa_nil)) pa_nil)))
       (pss_cons (ps_set (i := 8) sc_all_steps.nd rfl (by first | exact Or.inl rfl | exact Or.inr rfl) (pe_callB (cr_sumK K rfl) (by rfl) T.z_sum (by decide +kernel) (pa_cons (pe_lc (own := [("door", 9)]) (g := (gName 9)) rfl sc_all_steps.nd (pi_list (pv 7)) (blkOk_by (own := [("door", 9)]) (N := ["store", "layout", "found", "here", "name", "place", "other", "doors", "warmth", "door"]) (sc := defScope s_all_steps) (by decide +kernel))
       (fun _ _ _ _ _ => (pg_name (i := 9) sc_all_steps.nd rfl (by first | exact Or.inl rfl | exact Or.inr rfl))) (fun _ _ _ _ _ => pts_nil) (fun _ _ _ _ _ => (pe_ix (ix_tupK K) (pe_ix (ix_tupK K) (pe_pS (pv 0) T.clS T.p_Store_doors (ok_Store_doors T) T.b_Store_doors (hr.mono (by decide))) (pv 9) (by intro _ _; rfl)) pe_int (by intro _ _; rfl)))) pa_nil)))
       (pss_one (ps_expr (pe_bm PySem.F.plainAttrs_list PySem.F.slot_list_append PySem.F.type_list_append mt_append (pv 2) (pa_cons (pe_tupX (pa_cons (pe_tupX (pa_cons (pv 4) (pa_cons (pv 5) pa_nil))) (pa_cons (pv 8) (pa_cons (pe_call (ok_exchanged T) (hr.mono (by decide)) (by rfl) T.m_exchanged T.F_exchanged.kp T.b_exchanged .nil pass0 (pa_cons (pv 1) (pa_cons (pv 3) (pa_cons (pv 5) pa_nil)))) pa_nil)))) pa_nil)))))) pss_nil)))) pss_nil)))
       (pss_one (ps_ret (pv 2))))), ?_⟩
    have hsz := o.sz
    have hll := L.len o
    refine ⟨by decide, fun f hf => ?_⟩
    have s0 : Same H (upd H f (.lst [])) := Same.new hf
    refine ⟨_, rfl, b, l, rfl, (hb.same s0).seq, for_it (walk_enumT (xs := l)) (fun i σ H' => ∃ v3 v4 v5 v6 v7 v8 v9, ∃ st : List Stp, σ = [some (.ref p), some (.ref b), some (.ref f), v3, v4, v5, v6, v7, v8, v9] ∧ Same H H' ∧ st.map Stp.key = ((List.range i).flatMap (stF l)).map (stK l) ∧ Ls H' f (st.map Stp.D))
      ⟨_, _, _, _, _, _, _, [], rfl, s0, rfl, [], upd_same, .nil⟩ (fun i σ H' _ ⟨_, _, _, _, _, _, _, _, _, s1, _⟩ => (hb.same s1).seq) ?_ ?_⟩
    · rintro i v σ H1 H2 hi ⟨v3, v4, v5, v6, v7, v8, v9, st, rfl, s1, hk1, hl1⟩ ⟨T', _, x, rfl, hT, rfl, e1, hx⟩
      cases e1
      have hx : l[i]? = some x := hx
      have s12 : Same H1 (upd H1 T' (.tup [.int (i : Nat), x])) := Same.new hT
      have s2 := s1.trans s12
      refine ⟨T', _, rfl, SqT.of upd_same, rfl, _, _, rfl, _, _, rfl, rfl, ?_⟩
      refine ⟨_, rfl, _, rfl, ?_⟩
      by_cases hn : x = .non
      · rw [decide_eq_true hn]
        refine iteF ⟨_, _, _, _, _, _, _, st, rfl, s2, ?_, hl1.mono s12⟩
        rw [hk1, List.range_succ, List.flatMap_append, List.flatMap_singleton]
        rw [show stF l i = [] from by unfold stF; rw [hx, hn, if_pos rfl], List.append_nil]
      · rw [decide_eq_false hn]
        have hfi : stF l i = (List.range l.length).filterMap (stG l i) := by unfold stF stG; rw [hx, if_neg (by simpa using hn)]
        refine iteT ?_
        refine ⟨_, rfl, b, l, rfl, (hb.same s2).seq, for_it (walk_enumT (xs := l)) (fun j σ H' => ∃ v5 v6 v7 v8 v9, ∃ st : List Stp, σ = [some (.ref p), some (.ref b), some (.ref f), some (.int (i : Nat)), some x, v5, v6, v7, v8, v9] ∧ Same H H' ∧ st.map Stp.key = ((List.range i).flatMap (stF l) ++ (List.range j).filterMap (stG l i)).map (stK l) ∧ Ls H' f (st.map Stp.D))
          ⟨_, _, _, _, _, st, rfl, s2, by rw [hk1]; simp, hl1.mono s12⟩ (fun i σ H' _ ⟨_, _, _, _, _, _, _, s1, _⟩ => (hb.same s1).seq) ?_ ?_⟩
        · rintro j v σ H3 H4 hj ⟨v5, v6, v7, v8, v9, st3, rfl, s3, hk3, hl3⟩ ⟨T2, _, y, rfl, hT2, rfl, e2, hy⟩
          cases e2
          have hy : l[j]? = some y := hy
          have s34 : Same H3 (upd H3 T2 (.tup [.int (j : Nat), y])) := Same.new hT2
          have s4 := s3.trans s34
          refine ⟨T2, _, rfl, SqT.of upd_same, rfl, _, _, rfl, _, _, rfl, rfl, ?_⟩
          refine ⟨_, rfl, _, rfl, ?_⟩
          by_cases hm : y = .non
          · rw [decide_eq_true hm]
            refine iteT ?_
            -- doors = sorted(set([..]))
            obtain ⟨dx, e0, q0, d0, c0, hS, hE, _⟩ := id (S.mono s4)
            have hg : ∀ m, m < l.length → (s.ed.map V.int)[m]? = some (.int (edA s m)) := fun m hm => by
              rw [List.getElem?_map, edA_get (by omega)]; rfl
            refine ⟨_, rfl, p, a.CS, dx, a.pE, _, a.iE, .ref e0, rfl, hS, T.clS, T.slE, (by rw [T.ixE]; rfl), _, rfl, _, _, _, _, rfl, rfl, hE.seq, atI_nat (hg i (lt_of_get hx)), ?_⟩
            refine ⟨_, rfl, p, a.CS, dx, a.pE, _, a.iE, .ref e0, rfl, hS, T.clS, T.slE, (by rw [T.ixE]; rfl), _, rfl, _, _, _, _, rfl, rfl, hE.seq, atI_nat (hg j (lt_of_get hy)), ?_⟩
            refine ⟨(by show 2 ≤ sizeLine; decide), fun l1 hl1 => ?_⟩
            refine ⟨l1, [Sum.inl (edA s i), Sum.inl (edA s j)], rfl, .inl (SqL.of upd_same), fun L h1 h2 => ?_, fun sa SL hsa n1 n2 n3 => ?_⟩
            · have := nd_len h1 h2
              unfold PySem.scanBound
              simp only [List.length_cons, List.length_nil] at this
              omega
            have inI : ∀ k ∈ SL, ∃ e, k = Sum.inl e ∧ 0 ≤ e ∧ e < s.ds.length := fun k hk => by
              have := n2 k hk
              simp only [List.mem_cons, List.not_mem_nil, or_false] at this
              have b1 := edA_ok (s := s) (i := i) (by have := lt_of_get hx; omega)
              have b2 := edA_ok (s := s) (i := j) (by have := lt_of_get hy; omega)
              rcases this with rfl | rfl
              · exact ⟨_, rfl, b1⟩
              · exact ⟨_, rfl, b2⟩
            refine ⟨sa, SL, rfl, upd_same, alike_ints1 (fun d hd => ?_), fun ds q5 H5 hds s5 hq5 => ?_⟩
            · obtain ⟨k, hk, rfl⟩ := List.mem_map.mp hd
              obtain ⟨e, rfl, _⟩ := inI k hk
              exact ⟨e, rfl⟩
            obtain ⟨SL', pSL, eSL⟩ := srtD_lift hds
            rw [eSL] at hq5
            have inS : ∀ k ∈ SL', ∃ e, k = Sum.inl e ∧ 0 ≤ e ∧ e < s.ds.length := fun k hk => inI k (pSL.mem_iff.mp hk)
            have hz2 : SL'.length ≤ 2 := by
              rw [pSL.length_eq]
              have := nd_len n1 n2
              simpa using this
            have hl1n : H3 f = some (.lst hl3.choose) := hl3.choose_spec.1
            have s45 : Same (upd H3 T2 (.tup [.int (j : Nat), y])) H5 := ((Same.new hl1).trans (Same.new hsa)).trans s5
            have s05 := s4.trans s45
            dsimp only
            refine r_nameS (r_seq (r_asg (r_cb1 (lcL SL' (fun k => dV (kV k)) (fun k => match k with | .inl e => some (.int (s.ds.getD e.toNat (0, 0)).1) | .inr _ => none) (by omega) (fun R h => ⟨_, rfl, h q5 H5 (Same.refl _) hq5⟩) (fun i6 kk x6 H6 hk6 s6 hx6 => ?_) (fun D6 H6 s6 hl6 => ?_)))))
            · obtain ⟨e, rfl, b0, b1⟩ := inS kk (List.mem_of_getElem? hk6)
              have hx6 : x6 = .int e := hx6.int_inv
              subst hx6
              have S6 := (S.mono s05).mono s6
              obtain ⟨dx6, _, _, _, _, hS6, _⟩ := id S6
              refine turn_1 fun N h1 => ⟨_, rfl, p, dx6, _, rfl, hS6, p, s, rfl, S6, fun v6 hv6 => ?_⟩
              obtain ⟨t6, xs6, rfl, ht6, hq6⟩ := hv6.tup_inv
              have hed : s.ds[e.toNat]? = some (s.ds.getD e.toNat (0, 0)) := by
                rw [List.getD_eq_getElem?_getD, List.getElem?_eq_getElem (by omega)]; rfl
              obtain ⟨v7', hv7, hd7⟩ := hq6.get' (i := e.toNat) (d := eI [(s.ds.getD e.toNat (0, 0)).1, (s.ds.getD e.toNat (0, 0)).2]) (by rw [List.getElem?_map, hed]; rfl)
              obtain ⟨t7, rfl, ht7⟩ := hd7.eI_inv
              refine ⟨_, rfl, t6, xs6, e, .ref t7, rfl, rfl, ht6.seq, ?_, t7, _, 0, _, rfl, rfl, ht7.seq, rfl, h1 _ _ (Same.refl _) (.int _)⟩
              have := atI_nat hv7
              rwa [Int.toNat_of_nonneg b0] at this
            · have eI6 : ∃ ns : List Int, SL'.filterMap (fun k => match k with | .inl e => some (PyData.int (s.ds.getD e.toNat (0, 0)).1) | .inr _ => none) = ns.map PyData.int := by
                clear hz2 hq5 eSL pSL hl6
                induction SL' with
                | nil => exact ⟨[], rfl⟩
                | cons k ks ih =>
                  obtain ⟨ns, hns⟩ := ih fun k hk => inS k (List.mem_cons_of_mem _ hk)
                  obtain ⟨e, rfl, _⟩ := inS k List.mem_cons_self
                  exact ⟨_ :: ns, by rw [List.filterMap_cons]; dsimp only; rw [hns]; rfl⟩
              obtain ⟨ns, hns⟩ := eI6
              rw [hns] at hl6
              refine ⟨D6, ns, rfl, SqL.of hl6.ints, ?_⟩
              have s56 := s05.trans s6
              obtain ⟨acc, hacc, hqa⟩ := (hl3.mono (s34.trans s45)).mono s6
              have hlen6 : acc.length ≤ 30 := by
                have h1 := hqa.length
                have h2 := congrArg List.length hk3
                rw [List.length_map, List.length_map, List.length_append] at h2
                rw [List.length_map] at h1
                have h3 := flat_len (stF l) l.length (List.range i) fun z _ => by
                  unfold stF
                  split
                  · exact Nat.zero_le _
                  · exact Nat.le_trans (List.length_filterMap_le _ _) (by simp)
                have h4 := List.length_filterMap_le (stG l i) (List.range j)
                rw [List.length_range] at h3 h4
                have h5 : l.length * i ≤ 5 * 5 := Nat.mul_le_mul (by omega) (by have := lt_of_get hx; omega)
                have := lt_of_get hy
                omega
              have hil := lt_of_get hx
              have hjl := lt_of_get hy
              refine ⟨_, rfl, .inl ⟨rfl, _, SqL.of hacc⟩, _, rfl, _, rfl, (by show 2 ≤ 1000000; decide), fun t8 H8 _ s8 ht8 => ?_⟩
              refine ⟨_, rfl, _, rfl, _, rfl, _, rfl, b, l, i, j, rfl, (hb.same s56).same s8, hil, hjl, fun t9 H9 s9 ht9 => ?_⟩
              refine ⟨(by show 3 ≤ 1000000; decide), fun t10 H10 _ s10 ht10 => ?_⟩
              have s610 := (s8.trans s9).trans s10
              have hacc10 := s610 _ _ hacc
              have fx : Cc.fl x = true := List.all_eq_true.mp (L.fl o) x (List.mem_of_getElem? hx)
              have hD : Dq H10 (.ref t10) (Stp.D ⟨x, j, ns.sum, swapL l i j⟩) :=
                .tup ht10 (.cons (.tup (ht8.same (s9.trans s10)) (.cons (Dq.flat fx) (.cons (.int _) .nil))) (.cons (.int _) (.cons (Dq.eL (ht9.same s10) ((L.swap hil hjl).fl o)) .nil)))
              refine ⟨f, acc, _, rfl, rfl, hacc10, sz_lt (by omega), ?_⟩
              refine ⟨_, _, _, _, _, st3 ++ [⟨x, j, ns.sum, swapL l i j⟩], rfl, Same.mut (s56.trans s610) hf, ?_, ?_⟩
              · have e1 : [j].filterMap (stG l i) = [(i, j)] := by
                  rw [List.filterMap_cons, show stG l i j = some (i, j) from by unfold stG; rw [hy, if_pos (by rw [hm])]]; rfl
                have e2 : stK l (i, j) = (x, j, swapL l i j) := by
                  show (l.getD i .non, j, swapL l i j) = _
                  rw [List.getD_eq_getElem?_getD, hx]; rfl
                rw [List.map_append, hk3, List.range_succ, List.filterMap_append, e1]
                simp only [List.map_append, List.append_assoc, List.map_cons, List.map_nil, e2]
                rfl
              · rw [List.map_append]
                exact Ls.push hacc10 (hqa.same s610) hD
          · rw [decide_eq_false hm]
            refine iteF ⟨_, _, _, _, _, st3, rfl, s4, ?_, hl3.mono s34⟩
            rw [hk3, List.range_succ, List.filterMap_append]
            have : [j].filterMap (stG l i) = [] := by
              rw [List.filterMap_cons, show stG l i j = none from by unfold stG; rw [hy, if_neg (by simpa using hm)]]; rfl
            rw [this, List.append_nil]
        · rintro σ H3 ⟨v5, v6, v7, v8, v9, st3, rfl, s3, hk3, hl3⟩
          refine ⟨_, _, _, _, _, _, _, st3, rfl, s3, ?_, hl3⟩
          rw [hk3, List.range_succ, List.flatMap_append, List.flatMap_singleton, hfi]
    · rintro σ H1 ⟨v3, v4, v5, v6, v7, v8, v9, st, rfl, s1, hk1, hl1⟩
      exact ⟨_, rfl, k st f H1 s1 hk1 hl1⟩
end
end Cc

end

section
set_option Elab.async false
set_option linter.all false
set_option maxRecDepth 100000
set_option maxHeartbeats 4000000
namespace Cc
open PySem PySem.Spec L2 PySem.Calls
/-- name = {..} on one line, the name a local -/
theorem ps_setDDc {X : Cx} {i : Nat} {y : Str} {py : Pos} {kx vx tg iter : Expr} {ifs : List Expr} {scope : Scope} {own : List (Str × Nat)} {pos spos : Pos} {wi : TI} {g : TG} {tt : TT} {tk tv : TE} (hu : X.A.units + 64 < cLine) (hc : X.calm = true) (hN : X.N.Nodup) (hy : X.N[i]? = some y) (hyl : X.env.scope.names.lookup y = some .local)
    (hsw : swapsWith (.DictComp kx vx [⟨tg, iter, ifs, 0⟩] scope pos) (some (.Name y py)) spos.line X.env = pure true) (hi : PI X tg iter wi) (ok : BlkOk X.N X.env.scope scope own)
    (hg : ∀ (s : Shared) (H : Hp) (C : Addr) (cl : List (Str × Addr)) (fp : List Addr), PG (X.blk s H scope (compEnvC scope cl C X.env) fp) tg g) (ht : ∀ (s : Shared) (H : Hp) (C : Addr) (cl : List (Str × Addr)) (fp : List Addr), PTs (X.blk s H scope (compEnvC scope cl C X.env) fp) ifs tt)
    (hk : ∀ (s : Shared) (H : Hp) (C : Addr) (cl : List (Str × Addr)) (fp : List Addr), PE (X.blk s H scope (compEnvC scope cl C X.env) fp) kx tk)
    (he : ∀ (s : Shared) (H : Hp) (C : Addr) (cl : List (Str × Addr)) (fp : List Addr), PE (X.blk s H scope (compEnvC scope cl C X.env) fp) vx tv) (hs : ∀ x, foldedSetIterable iter X.env x = pure x := by intro _; rfl) :
    PS X (.Assign [.Name y py] (.DictComp kx vx [⟨tg, iter, ifs, 0⟩] scope pos) spos) (tAsg (tDDc X.prog X.w wi g tt tk tv (own.map (·.2))) (gName i)) := by
  refine ⟨fun pins s σ H D I h => ?_⟩
  rw [exec_Assign_Name_used _ _ _ _ hsw]
  refine wpAny_bind (wpAny_standAt (wpAny_bind ?_))
  show wpAny _ X.A (do let _ ← comprehension (.DictComp kx vx [⟨tg, iter, ifs, 0⟩] scope pos) scope X.env (firstIterPos [⟨tg, iter, ifs, 0⟩] pos) newDict false (eval iter X.env) (some (assign (.Name y py) X.env))) _ _ s
  have h : tDDc X.prog X.w wi g tt tk tv (own.map (·.2)) σ H (fun x H1 => gName i x σ H1 D.nx) := h
  refine wpAny_bind (thn (ddc_core (Qf := fun _ s' => SP X pins D .next s') hu hc hN I hi ok hg ht hk he hs h fun L C s' m H' I' q hn f => ?_) fun _ s' hq => wpAny_pure (wpAny_pure hq))
  show wpAny _ _ (assign (.Name y py) X.env (.ref L)) _ _ _
  refine wpAny_assign_Name (store_ok2 (v := V.ref L) I' hN hy (.inl hyl) rfl (fun s2 I2 ⟨a, sb, ha⟩ => ?_) (.inr hyl))
  obtain ⟨f0, f1, f2, f3, f4, f5⟩ := f
  have haC : C ≠ a := by
    rcases ha with z | z
    · rw [z]; exact f1
    · exact fun e => f4 y a z e.symm
  refine ⟨m, hn.sameBut sb haC, fun h3 sb3 => ?_⟩
  exact ⟨_, H', I2.turned (t' := s2.toks) (fun b o hb e => (sb3.2 b hb).trans e) f0 f1 f3 f4 f5, q⟩
theorem sw_trueD {kx vx : Expr} {gs : List Comprehension} {scope : Scope} {pos py : Pos} {y : Str} {l : Nat} {env : Env} (hk : env.scope.kind = .function) (hy : env.scope.names.lookup y = some .local) (hl : (py.line == pos.line) = true)
    (ha : (scope.names.any fun (n, k) => n == y && (k == .local || k == .cell)) = false) : swapsWith (.DictComp kx vx gs scope pos) (some (.Name y py)) l env = pure true := by
  have ky : env.kindOf y = some .local := hy
  have hb : env.blockKind = .function := by unfold Env.blockKind; rw [hk]; rfl
  unfold swapsWith
  simp only [hb, ky, ha, Expr.pos, hl]
  rfl
/-! ### how many layouts -/
def allL (al : List V) : Nat → List (List V)
  | 0 => [[]]
  | n + 1 => al.flatMap fun x => (allL al n).map fun l => x :: l
theorem mem_allL {al : List V} : ∀ {n : Nat} {l : List V}, l.length = n → (∀ x ∈ l, x ∈ al) → l ∈ allL al n
  | 0, [], _, _ => by simp [allL]
  | n + 1, x :: l, h, hm => by
    refine List.mem_flatMap.mpr ⟨x, hm x List.mem_cons_self, List.mem_map.mpr ⟨l, mem_allL (by simpa using h) fun y hy => hm y (List.mem_cons_of_mem _ hy), rfl⟩⟩
theorem len_allL (al : List V) : ∀ n, (allL al n).length ≤ al.length ^ n
  | 0 => by simp [allL]
  | n + 1 => by
    have := flat_len (fun x => (allL al n).map fun l => x :: l) (allL al n).length al fun x _ => by simp
    have h2 := len_allL al n
    rw [allL, Nat.pow_succ]
    exact Nat.le_trans this (Nat.mul_le_mul_right _ h2)
theorem lays_few {s : Sc} (o : s.Ok) {Ks : List (List V)} (hn : Ks.Nodup) (hL : ∀ l ∈ Ks, Lay s l) : Ks.length ≤ 1024 := by
  have h1 := nd_len (ks := allL (.non :: s.cv) s.ed.length) hn fun l hl => mem_allL ((hL l hl).len o) fun x hx => by
    rcases (hL l hl).mem hx with rfl | ⟨c, hc, rfl⟩
    · exact List.mem_cons_self
    · exact List.mem_cons_of_mem _ (Sc.mem_cv.mpr ⟨c, hc, rfl⟩)
  have h2 := len_allL (.non :: s.cv) s.ed.length
  have h3 : (V.non :: s.cv).length ≤ 4 := by rw [List.length_cons, Sc.cv_len]; have := o.len; omega
  have h4 : (V.non :: s.cv).length ^ s.ed.length ≤ 4 ^ 5 := Nat.le_trans (Nat.pow_le_pow_left h3 _) (Nat.pow_le_pow_right (by decide) o.sz)
  have h5 : (4 : Nat) ^ 5 = 1024 := by decide
  omega
end Cc

end

section
set_option Elab.async false
set_option linter.all false
set_option maxRecDepth 100000
set_option maxHeartbeats 4000000
set_option pp.maxSteps 1200
set_option pp.proofs false
namespace Cc
open PySem PySem.Spec L2

/-! ### keepers -/
theorem kbm : ¬ (("base" : Str) = "movers") := by decide +kernel
theorem kba : ¬ (("base" : Str) = "accepted") := by decide +kernel
theorem kma : ¬ (("movers" : Str) = "accepted") := by decide +kernel
def kfl (st mv ac : Addr) : List (Str × V) := putF "accepted" (.ref ac) (putF "movers" (.ref mv) (putF "base" (.ref st) []))
theorem kfl_eq (st mv ac : Addr) : kfl st mv ac = ([("base", V.ref st), ("movers", V.ref mv), ("accepted", V.ref ac)] : List (Str × V)) := by
  show putF "accepted" (.ref ac) (if ("base" : Str) = "movers" then _ else (("base" : Str), V.ref st) :: putF "movers" (V.ref mv) []) = _
  rw [if_neg kbm]
  show (if ("base" : Str) = "accepted" then _ else (("base" : Str), V.ref st) :: (if ("movers" : Str) = "accepted" then _ else (("movers" : Str), V.ref mv) :: putF "accepted" (V.ref ac) [])) = _
  rw [if_neg kba, if_neg kma]
  rfl
theorem kfl_base (st mv ac : Addr) : (kfl st mv ac).lookup ("base" : Str) = some (.ref st) := by
  unfold kfl
  rw [lookup_putF, if_neg kba, lookup_putF, if_neg kbm, lookup_putF, if_pos rfl]
theorem kfl_mov (st mv ac : Addr) : (kfl st mv ac).lookup ("movers" : Str) = some (.ref mv) := by
  unfold kfl
  rw [lookup_putF, if_neg kma, lookup_putF, if_pos rfl]
theorem kfl_acc (st mv ac : Addr) : (kfl st mv ac).lookup ("accepted" : Str) = some (.ref ac) := by
  unfold kfl
  rw [lookup_putF, if_pos rfl]
theorem kfl_no (st mv ac : Addr) {m : Str} (h1 : ¬ m = "base") (h2 : ¬ m = "movers") (h3 : ¬ m = "accepted") : (kfl st mv ac).lookup m = none := by
  unfold kfl
  rw [lookup_putF, if_neg h3, lookup_putF, if_neg h2, lookup_putF, if_neg h1]
  rfl
theorem kfl_put (st mv ac mv' : Addr) : putF "movers" (.ref mv') (kfl st mv ac) = kfl st mv' ac := by
  rw [kfl_eq, kfl_eq]
  show (if ("base" : Str) = "movers" then _ else (("base" : Str), V.ref st) :: (if ("movers" : Str) = "movers" then (("movers" : Str), V.ref mv') :: _ else _)) = _
  rw [if_neg kbm, if_pos rfl]
theorem kfl_len (st mv ac : Addr) : (kfl st mv ac).length < 1000 := by rw [kfl_eq]; show 3 < 1000; decide
/-- the values: the names -/
def NmOk (s : Sc) (PP : List (List V × V)) (H : Hp) (kvs : List Ent) : Prop := ∀ e ∈ kvs, ∃ t, e.2.2 = .ref t ∧ Tq H t ((nmF s PP e.1).map V.str)
theorem NmOk.mono {s : Sc} {PP : List (List V × V)} {H H' : Hp} {kvs : List Ent} (h : NmOk s PP H kvs) (t : Tk H H') : NmOk s PP H' kvs := fun e he => by
  obtain ⟨b, e1, e2⟩ := h e he
  exact ⟨b, e1, t _ _ e2⟩
structure KeeperAt (P : Program) (w : World) (a : Ad) (H : Hp) (x mv ac : Addr) (s : Sc) (Ks : List (List V)) (PP : List (List V × V)) (told : List PyData) : Prop where
  ex : ∃ dx st kvs, H x = some (.ins a.CK dx (kfl st mv ac)) ∧ StoreAt a H st s ∧ st ≠ mv ∧ H mv = some (DD P w mv kvs) ∧ KD H kvs ∧ dkeys kvs = Ks ∧ NmOk s PP H kvs
  acc : Ls H ac told
  nd : Ks.Nodup
  lay : ∀ l ∈ Ks, Lay s l
theorem KeeperAt.mono {P : Program} {w : World} {a : Ad} {H H' : Hp} {x mv ac : Addr} {s : Sc} {Ks : List (List V)} {PP : List (List V × V)} {told : List PyData} (h : KeeperAt P w a H x mv ac s Ks PP told) (e : Same H H') : KeeperAt P w a H' x mv ac s Ks PP told := by
  obtain ⟨⟨dx, st, kvs, h1, h2, h3, h4, h5, h6, h7⟩, h8, h9, h10⟩ := h
  exact ⟨⟨dx, st, kvs, e _ _ h1, h2.mono e, h3, e _ _ h4, h5.same e, h6, h7.mono (Tk.of e)⟩, h8.mono e, h9, h10⟩
theorem DD_nins {P : Program} {w : World} {d : Addr} {kvs : List Ent} {C dx : Addr} {fs : List (Str × V)} : DD P w d kvs ≠ .ins C dx fs := by unfold DD; intro z; cases z
theorem DD_nxd {P : Program} {w : World} {d : Addr} {kvs : List Ent} (fs : List (Str × V)) : DD P w d kvs ≠ .xd fs := by unfold DD; intro z; cases z
/-- what was told -/
def sawD (sn : List Int) : PyData := .tuple [.str "saw", eI sn]
def insD (r : Row) : PyData := .tuple [.str "inspected", .int r.1, eL r.2]

def sp_Keeper_init (P : Program) (w : World) (a : Ad) : Sp := fun vs H Q _ => ∃ (x dx p l : Addr) (s : Sc) (lg : List Row), vs = [.ref x, .ref p, .ref l] ∧ H x = some (.ins a.CK dx []) ∧ StoreAt a H p s ∧ s.Ok ∧ Ls H l (lg.map rowD) ∧ (∀ r ∈ lg, RowOk s r) ∧ lg.length ≤ 1000 ∧ lgF s (dk (lays s)) lg ≠ [] ∧
  ∀ H' mv ac, Sx [x] H H' → H mv = none → H ac = none → KeeperAt P w a H' x mv ac s (srtL (lgF s (dk (lays s)) lg)) [] [] → Q .non H'
def sp_Keeper_layouts_left (P : Program) (w : World) (a : Ad) : Sp := fun vs H Q _ => ∃ (x mv ac : Addr) (s : Sc) (Ks : List (List V)) (PP : List (List V × V)) (told : List PyData), vs = [.ref x] ∧ KeeperAt P w a H x mv ac s Ks PP told ∧ s.Ok ∧
  ∀ q H', Same H H' → Dq H' (.ref q) (.tuple ((srtL Ks).map eL)) → Q (.ref q) H'
def sp_Keeper_seen_so_far (P : Program) (w : World) (a : Ad) : Sp := fun vs H Q _ => ∃ (x mv ac : Addr) (s : Sc) (Ks : List (List V)) (PP : List (List V × V)) (told : List PyData), vs = [.ref x] ∧ KeeperAt P w a H x mv ac s Ks PP told ∧ NewLs H told Q
def sp_Keeper_narrow (P : Program) (w : World) (a : Ad) : Sp := fun vs H Q _ => ∃ (x dx st mv ac m : Addr) (c : V) (d : PyData) (told : List PyData) (kvs : List Ent), vs = [.ref x, c, .ref m] ∧ H x = some (.ins a.CK dx (kfl st mv ac)) ∧ Ls H ac told ∧ told.length ≤ 1000 ∧ Dq H c d ∧ H m = some (DD P w m kvs) ∧ KD H kvs ∧ kvs ≠ [] ∧
  ∀ H', Sx [x, ac] H H' → H' x = some (.ins a.CK dx (kfl st m ac)) → Ls H' ac (told ++ [d]) → Q (.int (kvs.length : Int)) H'
def sp_Keeper_check_doors (P : Program) (w : World) (a : Ad) : Sp := fun vs H Q _ => ∃ (x dx st mv ac t : Addr) (s : Sc) (sn : List Int), vs = [.ref x, .ref t] ∧ H x = some (.ins a.CK dx (kfl st mv ac)) ∧ StoreAt a H st s ∧ s.Ok ∧ Tq H t (sn.map V.int) ∧ DoorsOk s sn ∧ ∀ H', Same H H' → Q .non H'
section
variable {P : Program} {w : World} {K : PySem.W.Frag} {mg : Str → Option Value} {base : Heap} {a : Ad}
theorem ok_Keeper_layouts_left (T : Txt K mg a) : FnOk P w K mg base CX0 5 a.f_Keeper_layouts_left a.d_Keeper_layouts_left ["self"] (sp_Keeper_layouts_left P w a) := by
  refine T.F_Keeper_layouts_left.ok sc_Keeper_layouts_left (fun vs H Q E h => ?_) (fun cdv A outer s H vs Q E hr h => ?_)
  · obtain ⟨x, mv, ac, s, Ks, PP, told, rfl, ⟨⟨dx, st, kvs, h1, h2, h3, h4, h5, h6, h7⟩, h8, h9, h10⟩, o, k⟩ := h; rfl
  · obtain ⟨x, mv, ac, s, Ks, PP, told, rfl, ⟨⟨dx, st, kvs, h1, h2, h3, h4, h5, h6, h7⟩, h8, h9, h10⟩, o, k⟩ := h
    have hu := hr.units
    refine ⟨_, (pss_one (ps_ret (pe_callTy (cr_tupLK K) (by rfl) T.z_tuple (by decide +kernel) (pa_cons (pe_call (ok_in_order T) (hr.mono (by decide)) (by rfl) T.m_in_order T.F_in_order.kp T.b_in_order .nil pass0 (pa_cons (pe_fldK K (pv 0)) pa_nil)) pa_nil)))), ?_⟩
    refine ⟨_, rfl, x, _, dx, _, _, rfl, h1, T.clK, T.n_movers, kfl_mov _ _ _, ?_⟩
    refine ⟨mv, kvs, s, rfl, .inl h4, h5, o, fun l hl => h10 l (h6 ▸ hl), fun q H1 s1 hq => ?_⟩
    obtain ⟨vs, hv, hd⟩ := hq
    refine ⟨_, _, rfl, SqL.of hv, fun p H2 _ s2 hp => k p H2 (s1.trans s2) ?_⟩
    rw [h6] at hd
    exact .tup hp (hd.same s2)
theorem ok_Keeper_seen_so_far (T : Txt K mg a) : FnOk P w K mg base CX0 1 a.f_Keeper_seen_so_far a.d_Keeper_seen_so_far ["self"] (sp_Keeper_seen_so_far P w a) := by
  refine T.F_Keeper_seen_so_far.ok sc_Keeper_seen_so_far (fun vs H Q E h => ?_) (fun cdv A outer s H vs Q E hr h => ?_)
  · obtain ⟨x, mv, ac, s, Ks, PP, told, rfl, ⟨⟨dx, st, kvs, h1, h2, h3, h4, h5, h6, h7⟩, ⟨vs, hv, hd⟩, h9, h10⟩, k⟩ := h; rfl
  · obtain ⟨x, mv, ac, s, Ks, PP, told, rfl, ⟨⟨dx, st, kvs, h1, h2, h3, h4, h5, h6, h7⟩, ⟨vs, hv, hd⟩, h9, h10⟩, k⟩ := h
    have hu := hr.units
    refine ⟨_, (pss_one (ps_ret (pe_callTy (call_list_ofK K) (by rfl) T.z_list (by decide +kernel) (pa_cons (pe_fldK K (pv 0)) pa_nil)))), ?_⟩
    refine ⟨_, rfl, x, _, dx, _, _, rfl, h1, T.clK, T.n_accepted, kfl_acc _ _ _, ?_⟩
    exact ⟨ac, vs, rfl, .inl (SqL.of hv), fun q hq => k q _ (Same.new hq) ⟨vs, upd_same, hd.same (Same.new hq)⟩⟩
theorem ok_Keeper_narrow (T : Txt K mg a) : FnOk P w K mg base CX0 1 a.f_Keeper_narrow a.d_Keeper_narrow ["self", "call", "movers"] (sp_Keeper_narrow P w a) := by
  refine T.F_Keeper_narrow.ok sc_Keeper_narrow (fun vs H Q E h => ?_) (fun cdv A outer s H vs Q E hr h => ?_)
  · obtain ⟨x, dx, st, mv, ac, m, c, d, told, kvs, rfl, hx, hacc, hlen, hc, hm, kd, hne, k⟩ := h; rfl
  · obtain ⟨x, dx, st, mv, ac, m, c, d, told, kvs, rfl, hx, hacc, hlen, hc, hm, kd, hne, k⟩ := h
    have hu := hr.units
    refine ⟨_, (pss_cons (ps_if (pt_cmpR (op_eqDD0 hu) (pv 2) pe_ddnew (nomark _)) (pss_one ps_never) pss_nil)
       (pss_cons (ps_fld (pv 0) (pv 2) rfl)
       (pss_cons (ps_expr (pe_bm PySem.F.plainAttrs_list PySem.F.slot_list_append PySem.F.type_list_append mt_append (pe_fldK K (pv 0)) (pa_cons (pv 1) pa_nil)))
       (pss_one (ps_ret (pe_callB call_len_DD (by rfl) T.z_len (by decide +kernel) (pa_cons (pv 2) pa_nil))))))), ?_⟩
    refine ⟨_, rfl, fun e he => ⟨m, e, kvs, rfl, rfl, .inl (Same.new he _ _ hm), .inl upd_same, hne, _, rfl, iteF ?_⟩⟩
    have s1 : Same H (upd H e (DD P w e [])) := Same.new he
    refine r_next ⟨_, rfl, _, rfl, x, _, dx, _, rfl, s1 _ _ hx, T.clK, T.n_movers, kfl_len _ _ _, ?_⟩
    rw [kfl_put]
    obtain ⟨vs, hv, hd⟩ := hacc
    have hv1 := s1 _ _ hv
    have nxa : ac ≠ x := ne_of hv hx (by intro z; cases z)
    have nmx : m ≠ x := ne_of hm hx DD_nins
    have hl1 : vs.length = told.length := hd.length
    have hac2 : (upd (upd H e (DD P w e [])) x (.ins a.CK dx (kfl st m ac))) ac = some (.lst vs) := by rw [upd_ne nxa]; exact hv1
    refine ⟨_, rfl, x, _, dx, _, _, rfl, upd_same, T.clK, T.n_accepted, kfl_acc _ _ _, .inl ⟨rfl, _, SqL.of hac2⟩, _, rfl, ac, vs, _, rfl, rfl, hac2, sz_lt (by omega), ?_⟩
    have sx : Sx [x, ac] H (upd (upd (upd H e (DD P w e [])) x (.ins a.CK dx (kfl st m ac))) ac (.lst (vs ++ [c]))) := fun b u hb h => by
      simp only [List.mem_cons, List.not_mem_nil, or_false, not_or] at hb
      rw [upd_ne hb.2, upd_ne hb.1]
      exact s1 _ _ h
    have nt : ∀ p ∈ [x, ac], ∀ o ys, H p ≠ some (.frz o (.tup ys)) := fun p hp o ys e => by
      simp only [List.mem_cons, List.not_mem_nil, or_false] at hp
      rcases hp with rfl | rfl
      · rw [hx] at e; cases e
      · rw [hv] at e; cases e
    have tk := sx.tk nt
    have nma : m ≠ ac := ne_of hm hv (DD_nel _)
    refine ⟨_, rfl, m, kvs, rfl, .inl (by rw [upd_ne nma, upd_ne nmx]; exact s1 _ _ hm), kd.mono tk, k _ sx (by rw [upd_ne nxa.symm]; exact upd_same) ⟨_, upd_same, ?_⟩⟩
    exact (hd.append (.one hc)).mono tk
theorem ok_Keeper_check_doors (T : Txt K mg a) : FnOk P w K mg base CX0 3 a.f_Keeper_check_doors a.d_Keeper_check_doors ["self", "seen"] (sp_Keeper_check_doors P w a) := by
  refine T.F_Keeper_check_doors.ok sc_Keeper_check_doors (fun vs H Q E h => ?_) (fun cdv A outer s H vs Q E hr h => ?_)
  · obtain ⟨x, dx, st, mv, ac, t, s, sn, rfl, hx, S, o, ht, ok, k⟩ := h; rfl
  · obtain ⟨x, dx, st, mv, ac, t, s, sn, rfl, hx, S, o, ht, ok, k⟩ := h
    have hu := hr.units
    refine ⟨_, (pss_cons (ps_set (i := 2) sc_Keeper_check_doors.nd rfl (by first | exact Or.inl rfl | exact Or.inr rfl) (pe_and (pe_callB (call_isiK K) (by rfl) T.z_isinstance (by decide +kernel) (pa_cons (pv 1) (pa_cons (pe_ty "tuple" T.z_tuple (by decide +kernel)) pa_nil))) (pe_and (pe_chain op_le op_le pe_int (pe_callB (call_len_seqK K) (by rfl) T.z_len (by decide +kernel) (pa_cons (pv 1) pa_nil)) pe_int) (pe_one (pe_cmpR op_eq (pe_callB cr_lenS (by rfl) T.z_len (by decide +kernel) (pa_cons (pe_callTy (cr_setOfSK K rfl) (by rfl) T.z_set (by decide +kernel) (pa_cons (pv 1) pa_nil)) pa_nil)) (pe_callB (call_len_seqK K) (by rfl) T.z_len (by decide +kernel) (pa_cons (pv 1) pa_nil)) (nomark _))))))
       (pss_one (ps_if (pw_or (pt_not (pt_val (pv 2))) (pw_or1 (pt_not (pt_val (pe_callB (cr_allK K rfl) (by rfl) T.z_all (by decide +kernel) (pa_cons (pe_lc (own := [("door", 3)]) (g := (gName 3)) rfl sc_Keeper_check_doors.nd (pi_tup (pv 1)) (blkOk_by (own := [("door", 3)]) (N := ["self", "seen", "is_good", "door"]) (sc := defScope s_Keeper_check_doors) (by decide +kernel))
       (fun _ _ _ _ _ => (pg_name (i := 3) sc_Keeper_check_doors.nd rfl (by first | exact Or.inl rfl | exact Or.inr rfl))) (fun _ _ _ _ _ => pts_nil) (fun _ _ _ _ _ => (pe_call (ok_is_number T) (hr.mono (by decide)) (by rfl) T.m_is_number T.F_is_number.kp T.b_is_number .nil pass0 (pa_cons (pv 3) (pa_cons pe_int (pa_cons (pe_op op_sub (pe_callB (cr_lenOwn T.lenS T.lenF ((ok_Store_len T).raw T.b_Store_len .nil) (hr.mono (by decide)) pass0) (by rfl) T.z_len (by decide +kernel) (pa_cons (pe_fldK K (pv 0)) pa_nil)) pe_int) pa_nil)))))) pa_nil)))))).pt (pss_one ps_never) pss_nil))), ?_⟩
    obtain ⟨h0, h1, h2, h3⟩ := ok
    obtain ⟨dx0, e0, q0, d0, c0, hS, _⟩ := id S
    have hlen : (sn.map V.int).length = sn.length := List.length_map _
    have isT : TyX K H (.ref t) (.type "tuple") := by obtain ⟨o, _, e⟩ := ht; exact TyX.fTuple e
    refine ⟨_, rfl, _, _, _, _, _, rfl, ClsV.ty _, isT, kit_ty (by decide +kernel), true, rfl, iteT ?_⟩
    refine ⟨_, rfl, _, _, rfl, .inr ht.seq, _, _, rfl, rfl, _, rfl, iteD (by omega) ⟨_, _, rfl, rfl, ?_⟩⟩
    refine ⟨_, rfl, ?_⟩
    rw [decide_eq_true (show ((sn.map V.int).length : Int) ≤ 2 by omega)]
    refine iteT ?_
    have ek : (sn.map Sum.inl : List Key).map kV = sn.map V.int := by rw [List.map_map]; rfl
    refine ⟨_, rfl, t, sn.map Sum.inl, rfl, .inr (by rw [ek]; exact ht.seq), fun L g1 g2 => ?_, fun sa SL hsa n1 n2 n3 => ?_⟩
    · have := nd_len g1 g2
      rw [List.length_map] at this
      unfold PySem.scanBound
      omega
    have hSL : SL.length = sn.length := by
      have nd : (sn.map Sum.inl : List Key).Nodup := List.pairwise_map.mpr (h0.imp fun hne e => hne (by injection e))
      have := (nd_perm n1 nd fun k => ⟨n2 k, n3 k⟩).length_eq
      rwa [List.length_map] at this
    have s1 : Same H (upd H sa (SetSO P w sa SL)) := Same.new hsa
    refine ⟨sa, SL, rfl, upd_same, _, rfl, _, _, rfl, .inr (ht.same s1).seq, rfl, ?_⟩
    rw [decide_eq_true (show V.int (SL.length : Int) = V.int ((sn.map V.int).length : Int) by rw [hSL, hlen])]
    refine ⟨_, rfl, _, rfl, iteF ?_⟩
    refine r_not (r_tb (r_cb1 (lcTx (xs := sn.map V.int) (fun _ => some (.bool true)) (by omega) (fun R h => ⟨_, rfl, h t _ (Same.refl _) (ht.same s1)⟩) (fun i v H2 hv s2 => ?_) (fun D H2 _ s2 hl => ?_))))
    · rw [List.getElem?_map] at hv
      obtain ⟨z, hz, rfl⟩ := Option.map_eq_some_iff.mp hv
      have hb := h3 z (List.mem_of_getElem? hz)
      have s12 := s1.trans s2
      obtain ⟨dx2, _, _, _, _, hS2, _⟩ := id (S.mono s12)
      refine turn_1 fun N hN => ⟨_, rfl, _, rfl, x, _, dx, _, _, rfl, s12 _ _ hx, T.clK, T.n_base, kfl_base _ _ _, st, dx2, _, rfl, hS2, st, s, rfl, S.mono s12, s.ds.length, rfl, (by have := o.d4; omega), _, _, rfl, rfl, z, 0, _, rfl, ?_⟩
      rw [decide_eq_true (show (0 : Int) ≤ z ∧ z ≤ (s.ds.length : Int) - 1 by omega)]
      exact hN _ _ (Same.refl _) (.bl true)
    · rw [bools_fm] at hl
      refine ⟨_, _, rfl, SqL.of hl.bools, ?_⟩
      rw [bools_all]
      exact ⟨_, rfl, iteF (k H2 (s1.trans s2))⟩
end
end Cc

end

section
set_option Elab.async false
set_option linter.all false
set_option maxRecDepth 100000
set_option maxHeartbeats 4000000
namespace Cc
open PySem PySem.Spec L2
open PySem.W (dataLe)
theorem rising_pw : ∀ (r : List Str) (p : Str), PyProof.Rows.risingS p r = true → ((p :: r).map PyData.str).Pairwise fun a b => dataLe false id a b = true
  | [], p, _ => by simp
  | x :: r, p, h => by
    have h' : (!PySem.Spec.ltCps x.cps.toList p.cps.toList && PyProof.Rows.risingS x r) = true := h
    rw [Bool.and_eq_true] at h'
    have ih := rising_pw r x h'.2
    have l1 : dataLe false id (PyData.str p) (PyData.str x) = true := by
      show (!PySem.W.dataLt (.str x) (.str p)) = true
      rw [PySem.W.dataLt_str]
      have := h'.1
      rw [PyProof.Rows.ltCps_eq] at this
      exact this
    rw [List.map_cons]
    refine List.pairwise_cons.mpr ⟨fun y hy => ?_, ih⟩
    rw [List.map_cons] at hy ih
    rcases List.mem_cons.mp hy with rfl | hy
    · exact l1
    · exact (le_total id).trans _ _ _ l1 ((List.pairwise_cons.mp ih).1 y hy)
theorem sortedS_pw {l : List Str} (h : PyProof.Rows.sortedS l = true) : (l.map PyData.str).Pairwise fun a b => dataLe false id a b = true := by
  cases l with
  | nil => exact .nil
  | cons x r => exact rising_pw r x h
/-- a sorted list of the names -/
theorem names_sortedS {s : Sc} (o : s.Ok) {L : List Str} {p : Str → Bool} (hs : PyProof.Rows.sortedS L = true) (hn : L.Nodup) (h : ∀ c, c ∈ L ↔ c ∈ s.cs ∧ p c = true) : L = s.cs.filter p := by
  have e := names_sorted o hn h
  rw [srtD_sorted (sortedS_pw hs)] at e
  have inj : ∀ {l m : List Str}, l.map PyData.str = m.map PyData.str → l = m := by
    intro l
    induction l with
    | nil => intro m h; cases m with
      | nil => rfl
      | cons y m => cases h
    | cons x l ih =>
      intro m h
      cases m with
      | nil => cases h
      | cons y m =>
        rw [List.map_cons, List.map_cons] at h
        injection h with h1 h2
        injection h1 with h1
        rw [h1, ih h2]
  exact inj e
/-! ### dicts with text keys -/
theorem putK_keys {κ : Type} [DecidableEq κ] (kvs : List (κ × V)) (k : κ) (v : V) : (putK kvs k v).map (·.1) = if k ∈ kvs.map (·.1) then kvs.map (·.1) else kvs.map (·.1) ++ [k] := by
  unfold putK
  by_cases h : k ∈ kvs.map (·.1)
  · rw [if_pos h, if_pos (by
      obtain ⟨p, hp, e⟩ := List.mem_map.mp h
      exact List.any_eq_true.mpr ⟨p, hp, decide_eq_true e⟩), List.map_map]
    refine List.map_congr_left fun p _ => ?_
    show (if p.1 = k then (p.1, v) else p).1 = p.1
    split <;> rfl
  · rw [if_neg h, if_neg (fun z => by
      obtain ⟨p, hp, e⟩ := List.any_eq_true.mp z
      exact h (List.mem_map.mpr ⟨p, hp, of_decide_eq_true e⟩))]
    simp
theorem mergeK_mem : ∀ {more kvs : List (Key × V)} {k : Key}, k ∈ (mergeK kvs more).map (·.1) ↔ k ∈ kvs.map (·.1) ∨ k ∈ more.map (·.1)
  | [], kvs, k => by
    show k ∈ kvs.map (·.1) ↔ _
    simp
  | p :: more, kvs, k => by
    show k ∈ (mergeK (putK kvs p.1 p.2) more).map (·.1) ↔ _
    rw [mergeK_mem, putK_keys, List.map_cons, List.mem_cons]
    by_cases h : p.1 ∈ kvs.map (·.1)
    · rw [if_pos h]
      constructor
      · rintro (h1 | h1)
        · exact .inl h1
        · exact .inr (.inr h1)
      · rintro (h1 | rfl | h1)
        · exact .inl h1
        · exact .inl h
        · exact .inr h1
    · rw [if_neg h, List.mem_append, List.mem_singleton, or_assoc]
theorem mergeK_nd : ∀ {more kvs : List (Key × V)}, (kvs.map (·.1)).Nodup → ((mergeK kvs more).map (·.1)).Nodup
  | [], kvs, h => h
  | p :: more, kvs, h => by
    show ((mergeK (putK kvs p.1 p.2) more).map (·.1)).Nodup
    refine mergeK_nd ?_
    rw [putK_keys]
    by_cases e : p.1 ∈ kvs.map (·.1)
    · rw [if_pos e]; exact h
    · rw [if_neg e]
      refine List.nodup_append.mpr ⟨h, by simp, fun a ha b hb => ?_⟩
      rintro rfl
      rw [List.mem_singleton] at hb
      exact e (hb ▸ ha)
theorem inr_keys : ∀ {l : List Key}, (∀ k ∈ l, ∃ c, k = Sum.inr c) → ∃ ns : List Str, l = ns.map Sum.inr
  | [], _ => ⟨[], rfl⟩
  | k :: l, h => by
    obtain ⟨c, rfl⟩ := h k List.mem_cons_self
    obtain ⟨ns, rfl⟩ := inr_keys fun k hk => h k (List.mem_cons_of_mem _ hk)
    exact ⟨c :: ns, rfl⟩
theorem mem_inr {ns : List Str} {c : Str} : (Sum.inr c : Key) ∈ ns.map Sum.inr ↔ c ∈ ns := by
  rw [List.mem_map]
  exact ⟨fun ⟨d, hd, e⟩ => by injection e with e; exact e ▸ hd, fun h => ⟨c, h, rfl⟩⟩
theorem nd_inr {ns : List Str} : (ns.map Sum.inr : List Key).Nodup ↔ ns.Nodup := by
  refine ⟨fun h => ?_, fun h => List.pairwise_map.mpr (h.imp fun hne e => hne (by injection e))⟩
  exact (List.pairwise_map.mp h).imp fun hne e => hne (by rw [e])
/-- pairs (text, True) -/
theorem pairs_strs {H : Hp} : ∀ {cs : List Str} {vs : List V}, DqAll H vs (cs.map fun c => .tuple [.str c, .bool true]) → ∃ ts : List Addr, vs = ts.map V.ref ∧ Paired (fun t p => Tq H t [p.1, p.2]) ts (cs.map fun c => (V.str c, V.bl true))
  | [], _, h => by obtain rfl := h.nil_inv; exact ⟨[], rfl, .nil⟩
  | c :: cs, _, h => by
    obtain ⟨v, ws, rfl, h1, h2⟩ := h.cons_inv
    obtain ⟨t, u, y, rfl, ht, hu, hy⟩ := h1.pair_inv
    obtain ⟨ts, rfl, hp⟩ := pairs_strs h2
    rw [hu.str_inv, hy.bl_inv] at ht
    exact ⟨t :: ts, rfl, .cons ht hp⟩
/-- pairs (doors, True) -/
theorem pairs_eIs {H : Hp} : ∀ {ds : List (List Int)} {vs : List V}, DqAll H vs (ds.map fun d => .tuple [eI d, .bool true]) →
    ∃ (ts : List Addr) (ps : List Ent), vs = ts.map V.ref ∧ Paired (fun t p => Tq H t [p.1, p.2]) ts (ps.map fun e => (V.ref e.2.1, e.2.2)) ∧ KD H ps ∧ dkeys ps = ds.map fun d => d.map V.int
  | [], _, h => by obtain rfl := h.nil_inv; exact ⟨[], [], rfl, .nil, KD.nil, rfl⟩
  | d :: ds, _, h => by
    obtain ⟨v, ws, rfl, h1, h2⟩ := h.cons_inv
    obtain ⟨t, u, y, rfl, ht, hu, hy⟩ := h1.pair_inv
    obtain ⟨ts, ps, rfl, hp, kd, hk⟩ := pairs_eIs h2
    obtain ⟨b, rfl, hb⟩ := hu.eI_inv
    rw [hy.bl_inv] at ht
    refine ⟨t :: ts, (d.map V.int, b, .bl true) :: ps, rfl, .cons ht hp, fun p hp => ?_, ?_⟩
    · rcases List.mem_cons.mp hp with rfl | hp
      · exact ⟨hb, by simp [Cc.fl]⟩
      · exact kd p hp
    · unfold dkeys at hk ⊢
      rw [List.map_cons, hk]; rfl
theorem pairs_len {ts : List Addr} {cs : List (V × V)} {H : Hp} (h : Paired (fun t p => Tq H t [p.1, p.2]) ts cs) : ts.length = cs.length := Paired.length h
end Cc

end

section
set_option Elab.async false
set_option linter.all false
set_option maxRecDepth 100000
set_option maxHeartbeats 4000000
namespace Cc
open PySem PySem.Spec L2
section
variable {K : PySem.W.Frag} {g : TG} {tt : TT} {te tl : TE} {vs : List Nat} {σ : St} {H : Hp} {Q : VK} {α : Type}
/-- over a list that an expression gives -/
theorem lcLx (Pa : List α → Prop) (enc : α → PyData) (r : α → Option PyData) (hsz : ∀ as, Pa as → as.length ≤ 1000000)
    (hl : ∀ R : VK, (∀ as l H1, Same H H1 → Pa as → Ls H1 l (as.map enc) → R (.ref l) H1) → tl σ H R)
    (turn : ∀ as, Pa as → ∀ (i : Nat) b x H1, as[i]? = some b → Same H H1 → Dq H1 x (enc b) → TurnOk g tt te vs σ x H1 (r b)) (done : ∀ as D H1, Pa as → Same H H1 → Ls H1 D (as.filterMap r) → Q (.ref D) H1) : tLc (iList K tl) g tt te vs σ H Q := by
  refine hl _ fun as l H1 s1 pa ⟨xs, hx, hq⟩ => ?_
  have hl2 : xs.length = as.length := by rw [hq.length, List.length_map]
  have hs := hsz as pa
  refine ⟨l, rfl, ⟨xs, SqL.of hx⟩, fun D hD => ?_⟩
  refine lc_run (walk_list (K := K) (a := l) (xs := xs)) as (fun b v H => Dq H v (enc b)) r hl2.symm (by omega) hD (fun H2 s2 => SqL.of (s2 _ _ hx))
    (fun i H2 x H3 hi s2 y => ?_) (fun i b x H2 e s2 q => turn as pa i b x H2 e (s1.trans s2) q) (fun H2 s2 q => done as D H2 pa (s1.trans s2) q)
  obtain ⟨rfl, e⟩ := y
  obtain ⟨d, e1, q⟩ := hq.get e
  rw [List.getElem?_map] at e1
  obtain ⟨b, hb, rfl⟩ := Option.map_eq_some_iff.mp e1
  exact ⟨Same.refl _, b, hb, q.mono (Tk.of s2)⟩
end
section
variable {K : PySem.W.Frag} {tt : TT} {te : TE} {vs : List Nat} {σ : St} {T : Addr} {H1 : Hp} {d : PyData} {o : Option PyData} {u v z : V}
theorem turn_3 {i j k : Nat} (hT : SqT K H1 T [u, v, z]) (h : ∀ N : VK, (∀ v H2, Same H1 H2 → Dq H2 v d → N v H2) → te ((((wipe σ vs).set i (some u)).set j (some v)).set k (some z)) H1 N)
    (hw : wipe ((((wipe σ vs).set i (some u)).set j (some v)).set k (some z)) vs = wipe σ vs := by rfl) : TurnOk (gTup K 3 (gCons (gName i) (gCons (gName j) (gCons (gName k) gNil)))) tYes te vs σ (.ref T) H1 (some d) := fun N h0 h1 =>
  ⟨T, [u, v, z], rfl, hT, rfl, u, _, rfl, v, _, rfl, z, _, rfl, rfl, hw, iteT (B := N none H1) (h (fun y H4 => N (some y) H4) fun v H2 s q => h1 v H2 d s rfl q)⟩
theorem turn_3t {i j k : Nat} {b : Bool} (hT : SqT K H1 T [u, v, z]) (ht : ∀ R : Bool → Hp → Prop, (∀ H2, Same H1 H2 → R b H2) → tt ((((wipe σ vs).set i (some u)).set j (some v)).set k (some z)) H1 R) (h0 : b = false → o = none)
    (h1 : b = true → ∃ d, o = some d ∧ ∀ H2, Same H1 H2 → ∀ N : VK, (∀ v H3, Same H2 H3 → Dq H3 v d → N v H3) → te ((((wipe σ vs).set i (some u)).set j (some v)).set k (some z)) H2 N)
    (hw : wipe ((((wipe σ vs).set i (some u)).set j (some v)).set k (some z)) vs = wipe σ vs := by rfl) : TurnOk (gTup K 3 (gCons (gName i) (gCons (gName j) (gCons (gName k) gNil)))) tt te vs σ (.ref T) H1 o := fun N k0 k1 =>
  ⟨T, [u, v, z], rfl, hT, rfl, u, _, rfl, v, _, rfl, z, _, rfl, rfl, hw, ht _ fun H2 s2 => by
    cases b with
    | true =>
      obtain ⟨d, e, q⟩ := h1 rfl
      exact iteT (q H2 s2 _ fun v H3 s3 q3 => k1 v H3 d (s2.trans s3) e q3)
    | false => exact iteF (k0 H2 s2 (h0 rfl))⟩
end
theorem map_int_inj : ∀ {l m : List Int}, l.map V.int = m.map V.int → l = m
  | [], [], _ => rfl
  | [], y :: m, h => by cases h
  | x :: l, [], h => by cases h
  | x :: l, y :: m, h => by
    rw [List.map_cons, List.map_cons] at h
    injection h with h1 h2
    injection h1 with h1
    rw [h1, map_int_inj h2]
/-- a dict keyed by doors, with more doors -/
theorem putAll_ints {kv ps : List Ent} {ds ds' : List (List Int)} (h1 : dkeys kv = ds.map fun d => d.map V.int) (h2 : dkeys ps = ds'.map fun d => d.map V.int) (hn : ds.Nodup) :
    ∃ dn : List (List Int), dkeys (putAll kv ps) = dn.map (fun d => d.map V.int) ∧ dn.Nodup ∧ ∀ d, d ∈ dn ↔ d ∈ ds ∨ d ∈ ds' := by
  rw [putAll_keys, h1, h2]
  clear h1 h2
  induction ds' generalizing ds with
  | nil => exact ⟨ds, rfl, hn, fun d => by simp⟩
  | cons x ds' ih =>
    rw [List.map_cons, List.foldl_cons]
    by_cases hx : x ∈ ds
    · have hm : x.map V.int ∈ ds.map fun d => d.map V.int := List.mem_map.mpr ⟨x, hx, rfl⟩
      rw [if_pos hm]
      obtain ⟨dn, e1, e2, e3⟩ := ih hn
      refine ⟨dn, e1, e2, fun d => ?_⟩
      rw [e3, List.mem_cons]
      constructor
      · rintro (h | h)
        · exact .inl h
        · exact .inr (.inr h)
      · rintro (h | rfl | h)
        · exact .inl h
        · exact .inl hx
        · exact .inr h
    · have hm : x.map V.int ∉ ds.map fun d => d.map V.int := fun z => by
        obtain ⟨y, hy, e⟩ := List.mem_map.mp z
        exact hx (map_int_inj e ▸ hy)
      rw [if_neg hm]
      have e0 : (ds.map fun d => d.map V.int) ++ [x.map V.int] = (ds ++ [x]).map fun d => d.map V.int := by simp
      rw [e0]
      obtain ⟨dn, e1, e2, e3⟩ := ih (ds := ds ++ [x]) (List.nodup_append.mpr ⟨hn, by simp, fun a ha b hb => by
        rintro rfl
        rw [List.mem_singleton] at hb
        exact hx (hb ▸ ha)⟩)
      refine ⟨dn, e1, e2, fun d => ?_⟩
      rw [e3, List.mem_append, List.mem_singleton, List.mem_cons, or_assoc]
theorem srtI_eI {kv : List Ent} {ds : List (List Int)} (h : dkeys kv = ds.map fun d => d.map V.int) : (srtI (dkeys kv)).map eL = srtD (ds.map eI) := by
  unfold srtI
  rw [srtD_map, h, List.map_map]
  congr 1
  refine List.map_congr_left fun d _ => ?_
  rw [eI_eq]; rfl
end Cc

end

section
set_option Elab.async false
set_option linter.all false
set_option maxRecDepth 100000
set_option maxHeartbeats 4000000
set_option pp.maxSteps 1200
set_option pp.proofs false
namespace Cc
open PySem PySem.Spec L2

theorem nmF_nil (s : Sc) (l : List V) : nmF s [] l = [] := by
  unfold nmF
  rw [List.filter_eq_nil_iff]
  intro c _
  simp
/-- which names, all layouts together -/
def nmA (s : Sc) (Ks : List (List V)) (PP : List (List V × V)) : List Str := s.cs.filter fun c => decide (∃ l ∈ Ks, (l, V.str c) ∈ PP)
def sp_Keeper_could_have_moved (P : Program) (w : World) (a : Ad) : Sp := fun vs H Q _ => ∃ (x mv ac : Addr) (s : Sc) (Ks : List (List V)) (PP : List (List V × V)) (told : List PyData), vs = [.ref x] ∧ KeeperAt P w a H x mv ac s Ks PP told ∧ s.Ok ∧
  NewLs H ((nmA s Ks PP).map PyData.str) Q
def sp_Keeper_next_doors (P : Program) (w : World) (a : Ad) : Sp := fun vs H Q _ => ∃ (x mv ac : Addr) (s : Sc) (Ks : List (List V)) (PP : List (List V × V)) (told : List PyData), vs = [.ref x] ∧ KeeperAt P w a H x mv ac s Ks PP told ∧ s.Ok ∧
  ∀ (ds : List (List Int)) q H', Same H H' → ds.Nodup → (∀ d, d ∈ ds ↔ ∃ l ∈ Ks, ∃ y l', Mv s l d y l') → Ls H' q (srtD (ds.map eI)) → Q (.ref q) H'
theorem KeeperAt.few {P : Program} {w : World} {a : Ad} {H : Hp} {x mv ac : Addr} {s : Sc} {Ks : List (List V)} {PP : List (List V × V)} {told : List PyData} (h : KeeperAt P w a H x mv ac s Ks PP told) (o : s.Ok) : Ks.length ≤ 1024 := lays_few o h.nd h.lay
section
variable {P : Program} {w : World} {K : PySem.W.Frag} {mg : Str → Option Value} {base : Heap} {a : Ad}
theorem ok_Keeper_init (T : Txt K mg a) : FnOk P w K mg base CX0 8 a.f_Keeper_init a.d_Keeper_init ["self", "store", "log"] (sp_Keeper_init P w a) := by
  refine T.F_Keeper_init.ok sc_Keeper_init (fun vs H Q E h => ?_) (fun cdv A outer s H vs Q E hr h => ?_)
  · obtain ⟨x, dx, p, l, s, lg, rfl, hx, S, o, hl, ok, hlg, hne, k⟩ := h; rfl
  · obtain ⟨x, dx, p, l, s, lg, rfl, hx, S, o, hl, ok, hlg, hne, k⟩ := h
    have hu := hr.units
    refine ⟨_, (pss_cons (ps_fld (pv 0) (pv 1) rfl)
       (pss_cons (ps_fld (pv 0) (pe_ddc (own := [("layout", 3)]) (g := (gName 3)) hu rfl sc_Keeper_init.nd (pi_list (pe_call (ok_some_now T) (hr.mono (by decide)) (by rfl) T.m_some_now T.F_some_now.kp T.b_some_now .nil pass0 (pa_cons (pv 1) (pa_cons (pv 2) pa_nil)))) (blkOk_by (own := [("layout", 3)]) (N := ["self", "store", "log", "layout"]) (sc := defScope s_Keeper_init) (by decide +kernel))
       (fun _ _ _ _ _ => (pg_name (i := 3) sc_Keeper_init.nd rfl (by first | exact Or.inl rfl | exact Or.inr rfl))) (fun _ _ _ _ _ => pts_nil) (fun _ _ _ _ _ => (pv 3)) (fun _ _ _ _ _ => (pe_tupX pa_nil))) rfl)
       (pss_one (ps_fld (pv 0) (pe_lst pa_nil) rfl)))), ?_⟩
    refine ⟨_, rfl, _, rfl, x, _, dx, _, rfl, hx, T.clK, T.n_base, (by show 0 < 1000; decide), ?_⟩
    have hx1 : (upd H x (.ins a.CK dx (putF "base" (.ref p) []))) x = some (.ins a.CK dx (putF "base" (.ref p) [])) := upd_same
    have npx : p ≠ x := by
      obtain ⟨dx', _, _, _, _, hS, _⟩ := S
      rcases hS with ⟨_, h⟩ | ⟨hS, _⟩
      · cases h
      · exact ne_of hS hx (by unfold SlX.SlO; intro z; cases z)
    have S1 : StoreAt a (upd H x (.ins a.CK dx (putF "base" (.ref p) []))) p s := S.upd hx npx (fun fs z => by cases z) (fun ob xs z => by cases z)
    have sx1 : Sx [x] H (upd H x (.ins a.CK dx (putF "base" (.ref p) []))) := fun b u hb h => by rw [upd_ne (by simpa using hb)]; exact h
    have tk1 : Tk H (upd H x (.ins a.CK dx (putF "base" (.ref p) []))) := Tk.upd fun o ys e => by rw [hx] at e; cases e
    have hl1 : Ls (upd H x (.ins a.CK dx (putF "base" (.ref p) []))) l (lg.map rowD) := by
      obtain ⟨vs, hv, hd⟩ := hl
      exact ⟨vs, by rw [upd_ne (ne_of hv hx (by intro z; cases z))]; exact hv, hd.mono tk1⟩
    have hno : ∀ b, (upd H x (.ins a.CK dx (putF "base" (.ref p) []))) b = none → H b = none := fun b hb => by
      by_cases z : b = x
      · rw [z, upd_same] at hb; cases hb
      · rw [upd_ne z] at hb; exact hb
    revert hx1 S1 sx1 tk1 hl1 hno
    generalize upd H x (.ins a.CK dx (putF "base" (.ref p) [])) = H1
    intro hx1 S1 sx1 tk1 hl1 hno
    refine ⟨_, rfl, _, rfl, p, l, s, lg, rfl, S1, o, hl1, ok, hlg, hne, fun r H2 s2 hr2 => ?_⟩
    obtain ⟨rows, hrows, hq⟩ := hr2
    have hlen := hq.length
    rw [List.length_map] at hlen
    have hfew : (srtL (lgF s (dk (lays s)) lg)).length ≤ 1024 := by
      rw [srtL_len]
      refine lays_few o ((lgF_sub s lg _).nodup (nd_dk _)) fun l h => lgF_lay o h
    have hnd : (srtL (lgF s (dk (lays s)) lg)).Nodup := srtL_nd ((lgF_sub s lg _).nodup (nd_dk _))
    have hlay : ∀ l ∈ srtL (lgF s (dk (lays s)) lg), Lay s l := fun l h => lgF_lay o (srtL_mem.mp h)
    revert hq hlen hfew hnd hlay
    generalize srtL (lgF s (dk (lays s)) lg) = ls at k ⊢
    intro hq hlen hfew hnd hlay
    refine ⟨r, rfl, ⟨rows, SqL.of hrows⟩, fun D hD => ddc_it (walk_list (xs := rows)) (fun i H' => ∃ kvs, Same H2 H' ∧ H' D = some (DD P w D kvs) ∧ KD H' kvs ∧ NmOk s [] H' kvs ∧ dkeys kvs = ls.take i)
      ⟨[], Same.new hD, upd_same, KD.nil, (fun e h => nomatch h), rfl⟩ (fun i H' _ ⟨_, s3, _⟩ => SqL.of (s3 _ _ hrows)) ?_ ?_⟩
    · rintro i v H3 H3' hi ⟨kvs, s3, hd3, kd3, hn3, hk3⟩ ⟨rfl, hv⟩
      obtain ⟨dl, hdl, hxd⟩ := (hq.same s3).get hv
      rw [List.getElem?_map] at hdl
      obtain ⟨lay, hlay', rfl⟩ := Option.map_eq_some_iff.mp hdl
      have L := hlay lay (List.mem_of_getElem? hlay')
      obtain ⟨b, rfl, hb⟩ := hxd.eL_inv (L.fl o)
      have hz : kvs.length ≤ 1024 := by
        have h1 := congrArg List.length hk3
        rw [dkeys_len, List.length_take] at h1
        omega
      refine ⟨rfl, r_yes ?_⟩
      refine ⟨_, rfl, (by show 0 ≤ 1000000; decide), fun t H4 _ s4 ht4 => ?_⟩
      have hd4 := s4 _ _ hd3
      have tk4 : Tk H4 (upd H4 D (DD P w D (putD kvs lay b (.ref t)))) := Tk.upd (DD_not hd4)
      refine ⟨b, kvs, lay, rfl, hd4, kd3.same s4, hb.same s4, L.fl o, sz_lt (by omega), _, Same.mut (s3.trans s4) hD, upd_same, ((kd3.same s4).put (hb.same s4) (L.fl o)).mono tk4, fun e he => ?_, ?_⟩
      · rcases putD_mem he with ⟨_, h2⟩ | ⟨h1, _⟩
        · exact ⟨t, h2, tk4 _ _ (by rw [nmF_nil]; exact ht4)⟩
        · obtain ⟨b', e1, e2⟩ := hn3 e h1
          exact ⟨b', e1, tk4 _ _ (e2.same s4)⟩
      · have hni : lay ∉ dkeys kvs := by
          rw [hk3]
          intro z
          obtain ⟨i2, hi2, e2⟩ := List.mem_take_iff_getElem.mp z
          have l1 := lt_of_get hlay'
          have := (List.getElem_inj hnd (h₀ := by omega) (h₁ := l1)).mp (e2.trans (List.getElem?_eq_some_iff.mp hlay').2.symm)
          omega
        rw [putD_keys, if_neg hni, hk3, take_snoc hlay']
    · rintro H3 ⟨kvs, s3, hd3, kd3, hn3, hk3⟩
      rw [hlen, List.take_length] at hk3
      have s23 := s2.trans s3
      have hx3 := s23 _ _ hx1
      refine ⟨_, rfl, x, _, dx, _, rfl, hx3, T.clK, T.n_movers, (by show 1 < 1000; decide), ?_⟩
      refine ⟨by decide, fun ac hac => ?_⟩
      have nax : ac ≠ x := fun z => by rw [z, upd_same] at hac; cases hac
      have hac3 : H3 ac = none := by rw [upd_ne nax] at hac; exact hac
      refine ⟨_, rfl, x, _, dx, _, rfl, by rw [upd_ne nax.symm]; exact upd_same, T.clK, T.n_accepted, (by
        show (putF "movers" (V.ref D) (putF "base" (V.ref p) [])).length < 1000
        show (if ("base" : Str) = "movers" then (("base" : Str), V.ref D) :: [] else (("base" : Str), V.ref p) :: putF "movers" (V.ref D) []).length < 1000
        rw [if_neg kbm]
        show 2 < 1000
        decide), ?_⟩
      have nDx : D ≠ x := ne_of hd3 hx3 DD_nins
      have nDa : D ≠ ac := ne_of_none hd3 hac3
      have tk3 : Tk H3 (upd (upd (upd H3 x (.ins a.CK dx (putF "movers" (.ref D) (putF "base" (.ref p) [])))) ac (.lst [])) x (.ins a.CK dx (putF "accepted" (.ref ac) (putF "movers" (.ref D) (putF "base" (.ref p) []))))) :=
        ((Tk.upd fun o ys e => by rw [hx3] at e; cases e).trans (Tk.new (by rw [upd_ne nax]; exact hac3))).trans (Tk.upd fun o ys e => by rw [upd_ne nax.symm, upd_same] at e; cases e)
      have sx3 : Sx [x] H3 (upd (upd (upd H3 x (.ins a.CK dx (putF "movers" (.ref D) (putF "base" (.ref p) [])))) ac (.lst [])) x (.ins a.CK dx (putF "accepted" (.ref ac) (putF "movers" (.ref D) (putF "base" (.ref p) []))))) := fun b u hb h => by
        have hb : b ≠ x := by simpa using hb
        rw [upd_ne hb, upd_ne (ne_of_none h hac3), upd_ne hb]
        exact h
      have S3 := S1.mono s23
      have npa : p ≠ ac := S3.ne hac3
      have npD : p ≠ D := (S1.mono s2).ne hD
      refine k _ D ac (((sx1).trans (Sx.of s23)).trans sx3) (hno _ (Same.free s2 hD)) (hno _ (Same.free s23 hac3)) ⟨⟨dx, p, kvs, upd_same, ?_, npD, by rw [upd_ne nDx, upd_ne nDa, upd_ne nDx]; exact hd3, kd3.mono tk3, hk3, hn3.mono tk3⟩, ?_, hnd, hlay⟩
      · exact StoreAt.upd ((StoreAt.upd S3 hx3 npx (fun fs z => by cases z) (fun ob xs z => by cases z)).mono (Same.new hac)) (show _ = some _ by rw [upd_ne nax.symm]; exact upd_same) npx (fun fs z => by cases z) (fun ob xs z => by cases z)
      · exact ⟨[], by rw [upd_ne nax, upd_same], .nil⟩
theorem ok_Keeper_could_have_moved (T : Txt K mg a) : FnOk P w K mg base CX0 1 a.f_Keeper_could_have_moved a.d_Keeper_could_have_moved ["self"] (sp_Keeper_could_have_moved P w a) := by
  refine T.F_Keeper_could_have_moved.ok sc_Keeper_could_have_moved (fun vs H Q E h => ?_) (fun cdv A outer s H vs Q E hr h => ?_)
  · obtain ⟨x, mv, ac, s, Ks, PP, told, rfl, KA, o, k⟩ := h; rfl
  · obtain ⟨x, mv, ac, s, Ks, PP, told, rfl, KA, o, k⟩ := h
    have hu := hr.units
    refine ⟨_, (pss_cons (ps_set (i := 1) sc_Keeper_could_have_moved.nd rfl (by first | exact Or.inl rfl | exact Or.inr rfl) pe_dnewK)
       (pss_cons (ps_lock (ps_for PassesOwn.never rfl (pi_dv (pe_fldK K (pv 0))) (pg_name (i := 2) sc_Keeper_could_have_moved.nd rfl (by first | exact Or.inl rfl | exact Or.inr rfl))
       (pss_one (ps_expr (pe_updK rfl (pv 1) (pe_lc (own := [("name", 3)]) (g := (gName 3)) rfl sc_Keeper_could_have_moved.nd (pi_tup (pv 2)) (blkOk_by (own := [("name", 3)]) (N := ["self", "found", "names", "name"]) (sc := defScope s_Keeper_could_have_moved) (by decide +kernel))
       (fun _ _ _ _ _ => (pg_name (i := 3) sc_Keeper_could_have_moved.nd rfl (by first | exact Or.inl rfl | exact Or.inr rfl))) (fun _ _ _ _ _ => pts_nil) (fun _ _ _ _ _ => (pe_tupX (pa_cons (pv 3) (pa_cons pe_bl pa_nil))))) ⟨rfl, rfl, rfl, rfl⟩)))))
       (pss_one (ps_ret (pe_callB (call_sortedD rfl) (by rfl) T.z_sorted (by decide +kernel) (pa_cons (pv 1) pa_nil)))))), ?_⟩
    have few := KA.few o
    obtain ⟨⟨dx, st, kvs, h1, h2, h3, h4, h5, h6, h7⟩, h8, h9, h10⟩ := KA
    have hz : kvs.length ≤ 1024 := by rw [← dkeys_len, h6]; exact few
    intro f hf
    have nfm : mv ≠ f := ne_of_none h4 hf
    have s1 : Same H (upd H f (.dK [])) := Same.new hf
    refine ⟨mv, _, s1 _ _ h4, DD_mut, fun od => ?_⟩
    have bd : (upd H mv (.frz od (DD P w mv kvs))) f = none := by rw [upd_ne nfm.symm]; exact hf
    have eH : upd (upd H f (.dK [])) mv (.frz od (DD P w mv kvs)) = upd (upd H mv (.frz od (DD P w mv kvs))) f (.dK []) := by
      funext b
      by_cases z1 : b = f
      · rw [z1, upd_same, upd_ne nfm.symm, upd_same]
      · by_cases z2 : b = mv
        · rw [z2, upd_same, upd_ne nfm, upd_same]
        · rw [upd_ne z2, upd_ne z1, upd_ne z1, upd_ne z2]
    refine cast_hp eH ?_
    have tkl : Tk H (upd H mv (.frz od (DD P w mv kvs))) := Tk.upd (DD_not h4)
    have hdl : (upd H mv (.frz od (DD P w mv kvs))) mv = some (.frz od (DD P w mv kvs)) := upd_same
    have hxl : (upd H mv (.frz od (DD P w mv kvs))) x = some (.ins a.CK dx (kfl st mv ac)) := by rw [upd_ne (ne_of h1 h4 DD_nins.symm)]; exact h1
    have nml := h7.mono tkl
    have sB : ∀ {H''}, Same (upd H mv (.frz od (DD P w mv kvs))) H'' → Same H (upd H'' mv (DD P w mv kvs)) := fun e => Same.lock h4 e
    revert bd tkl hdl hxl nml sB
    clear eH
    generalize upd H mv (.frz od (DD P w mv kvs)) = B
    intro bd tkl hdl hxl nml sB
    have sf : Same B (upd B f (.dK [])) := Same.new bd
    refine ⟨_, rfl, x, _, dx, _, _, rfl, sf _ _ hxl, T.clK, T.n_movers, kfl_mov _ _ _, mv, od, kvs, rfl, sf _ _ hdl, ?_⟩
    refine for_it (walk_dv (kvs := kvs)) (fun i σ H' => ∃ v2 v3, ∃ ns : List Str, ∃ kv : List (Key × V), σ = [some (.ref x), some (.ref f), v2, v3] ∧ Same B H' ∧ H' f = some (.dK kv) ∧ kv.map (·.1) = ns.map Sum.inr ∧ ns.Nodup ∧ (∀ c, c ∈ ns ↔ ∃ e ∈ kvs.take i, c ∈ nmF s PP e.1))
      ⟨_, _, [], [], rfl, sf, upd_same, rfl, List.nodup_nil, fun c => by simp⟩ (fun i σ H' _ ⟨_, _, _, _, _, s3, _⟩ => s3 _ _ hdl) ?_ ?_
    · rintro i v σ H1 H1' hi ⟨v2, v3, ns, kv, rfl, s2, hf2, hk2, hn2, hm2⟩ ⟨rfl, e, he, rfl⟩
      obtain ⟨t, et, ht⟩ := nml e (List.mem_of_getElem? he)
      rw [et]
      have hs3 := o.len
      have hnm : (nmF s PP e.1).length ≤ 3 := Nat.le_trans (List.length_filter_le _ _) hs3.2.1
      have hns : ns.length ≤ 3 := by
        have := nd_len hn2 fun c hc => by
          obtain ⟨e, _, hce⟩ := (hm2 c).mp hc
          exact (List.mem_filter.mp hce).1
        omega
      have ht2 := ht.same s2
      refine ⟨_, rfl, f, rfl, ⟨kv, hf2⟩, ?_⟩
      refine lcTf (a := t) (xs := (nmF s PP e.1).map V.str) (fun x => some (.tuple [dV x, .bool true])) (by rw [List.length_map]; omega) (fun R h => ⟨_, rfl, h _ (Same.refl _)⟩) ht2 (fun i3 y H2 hy s3 => ?_) (fun D H2 s3 hD => ?_)
      · rw [List.getElem?_map] at hy
        obtain ⟨c, hc, rfl⟩ := Option.map_eq_some_iff.mp hy
        refine turn_1 fun N hN => ⟨_, rfl, (by show 2 ≤ 1000000; decide), fun q H3 _ s4 hq => hN _ _ s4 (Dq.pair hq (.str c) (.bl true))⟩
      have eD : ((nmF s PP e.1).map V.str).filterMap (fun x => some (PyData.tuple [dV x, .bool true])) = (nmF s PP e.1).map fun c => .tuple [.str c, .bool true] := by
        generalize nmF s PP e.1 = L
        induction L with
        | nil => rfl
        | cons c L ih => rw [List.map_cons, List.filterMap_cons, List.map_cons, ← ih]; rfl
      rw [eD] at hD
      obtain ⟨vs, hvs, hqv⟩ := hD
      obtain ⟨ts, rfl, hp⟩ := pairs_strs hqv
      have hkv : kv.length ≤ 3 := by
        have := congrArg List.length hk2
        rw [List.length_map, List.length_map] at this
        omega
      have hf3 := s3 _ _ hf2
      refine ⟨D, rfl, kv, ts, _, (nmF s PP e.1).map fun c => (Sum.inr c, V.bl true), hf3, ⟨hvs, hp⟩, by rw [List.map_map]; rfl, sz_ok (by rw [List.length_map]; omega), ?_⟩
      have ek : ∀ k, k ∈ (mergeK kv ((nmF s PP e.1).map fun c => ((Sum.inr c : Key), V.bl true))).map (·.1) ↔ ∃ c, k = Sum.inr c ∧ (c ∈ ns ∨ c ∈ nmF s PP e.1) := fun k => by
        rw [mergeK_mem, hk2, List.map_map, List.mem_map, List.mem_map]
        constructor
        · rintro (⟨c, hc, rfl⟩ | ⟨c, hc, rfl⟩)
          · exact ⟨c, rfl, .inl hc⟩
          · exact ⟨c, rfl, .inr hc⟩
        · rintro ⟨c, rfl, hc | hc⟩
          · exact .inl ⟨c, hc, rfl⟩
          · exact .inr ⟨c, hc, rfl⟩
      obtain ⟨ns', hns'⟩ := inr_keys fun k hk => by
        obtain ⟨c, e, _⟩ := (ek k).mp hk
        exact ⟨c, e⟩
      have nd' : ns'.Nodup := nd_inr.mp (hns' ▸ mergeK_nd (hk2 ▸ nd_inr.mpr hn2))
      refine ⟨_, _, ns', _, rfl, Same.mut (s2.trans s3) bd, upd_same, hns', nd', fun c => ?_⟩
      rw [← mem_inr, ← hns', ek, take_snoc he]
      constructor
      · rintro ⟨c', e', h⟩
        injection e' with e'
        subst e'
        rcases h with h | h
        · obtain ⟨e2, he2, hc2⟩ := (hm2 c).mp h
          exact ⟨e2, List.mem_append_left _ he2, hc2⟩
        · exact ⟨e, List.mem_append_right _ List.mem_cons_self, h⟩
      · rintro ⟨e2, he2, hc2⟩
        refine ⟨c, rfl, ?_⟩
        rcases List.mem_append.mp he2 with he2 | he2
        · exact .inl ((hm2 c).mpr ⟨e2, he2, hc2⟩)
        · rw [List.mem_singleton] at he2
          exact .inr (he2 ▸ hc2)
    · rintro σ H1 ⟨v2, v3, ns, kv, rfl, s2, hf2, hk2, hn2, hm2⟩
      have hm1 := s2 _ _ hdl
      refine ⟨hm1, ?_⟩
      rw [List.take_length] at hm2
      have hs3 := o.len
      have hns : ns.length ≤ 3 := by
        have := nd_len hn2 fun c hc => by
          obtain ⟨e, _, hce⟩ := (hm2 c).mp hc
          exact (List.mem_filter.mp hce).1
        omega
      refine ⟨_, rfl, f, kv, ns, rfl, .inl (by rw [upd_ne nfm.symm]; exact hf2), hk2, by omega, fun ys p hp hsr hpn => k p _ ((sB s2).trans (Same.new hpn)) ?_⟩
      have e1 : ys = nmA s Ks PP := names_sortedS o hsr (hp.nodup_iff.mpr hn2) fun c => by
        rw [hp.mem_iff, hm2 c, decide_eq_true_eq]
        constructor
        · rintro ⟨e, he, hc⟩
          unfold nmF at hc
          obtain ⟨h1, h2⟩ := List.mem_filter.mp hc
          exact ⟨h1, e.1, by rw [← h6]; exact List.mem_map.mpr ⟨e, he, rfl⟩, of_decide_eq_true h2⟩
        · rintro ⟨h1, l, hl, h2⟩
          rw [← h6] at hl
          obtain ⟨e, he, rfl⟩ := List.mem_map.mp hl
          exact ⟨e, he, List.mem_filter.mpr ⟨h1, decide_eq_true h2⟩⟩
      rw [e1]
      refine ⟨_, upd_same, ?_⟩
      have : ∀ L : List Str, DqAll (upd (upd H1 mv (DD P w mv kvs)) p (.lst ((nmA s Ks PP).map V.str))) (L.map V.str) (L.map PyData.str) := fun L => by
        induction L with
        | nil => exact .nil
        | cons c L ih => exact .cons (.str c) ih
      exact this _
theorem ok_Keeper_next_doors (T : Txt K mg a) : FnOk P w K mg base CX0 4 a.f_Keeper_next_doors a.d_Keeper_next_doors ["self"] (sp_Keeper_next_doors P w a) := by
  refine T.F_Keeper_next_doors.ok sc_Keeper_next_doors (fun vs H Q E h => ?_) (fun cdv A outer s H vs Q E hr h => ?_)
  · obtain ⟨x, mv, ac, s, Ks, PP, told, rfl, KA, o, k⟩ := h; rfl
  · obtain ⟨x, mv, ac, s, Ks, PP, told, rfl, KA, o, k⟩ := h
    have hu := hr.units
    refine ⟨_, (pss_cons (ps_set (i := 1) sc_Keeper_next_doors.nd rfl (by first | exact Or.inl rfl | exact Or.inr rfl) pe_ddnew)
       (pss_cons (ps_lock (ps_for PassesOwn.never rfl (pi_dk (pe_fldK K (pv 0))) (pg_name (i := 2) sc_Keeper_next_doors.nd rfl (by first | exact Or.inl rfl | exact Or.inr rfl))
       (pss_cons (ps_setLc (i := 3) (own := [("step", 4), ("warmth", 5), ("other", 6)]) (g := (gTup K 3 (gCons (gName 4) (gCons (gName 5) (gCons (gName 6) gNil))))) rfl sc_Keeper_next_doors.nd rfl rfl (sw_true rfl rfl rfl rfl) (pi_list (pe_call (ok_all_steps T) (hr.mono (by decide)) (by rfl) T.m_all_steps T.F_all_steps.kp T.b_all_steps .nil pass0 (pa_cons (pe_fldK K (pv 0)) (pa_cons (pv 2) pa_nil)))) (blkOk_by (own := [("step", 4), ("warmth", 5), ("other", 6)]) (N := ["self", "found", "layout", "steps", "step", "warmth", "other"]) (sc := defScope s_Keeper_next_doors) (by decide +kernel))
       (fun _ _ _ _ _ => (pg_tup rfl (pgs_cons (pg_name (i := 4) sc_Keeper_next_doors.nd rfl (by first | exact Or.inl rfl | exact Or.inr rfl)) (pgs_cons (pg_name (i := 5) sc_Keeper_next_doors.nd rfl (by first | exact Or.inl rfl | exact Or.inr rfl)) (pgs_cons (pg_name (i := 6) sc_Keeper_next_doors.nd rfl (by first | exact Or.inl rfl | exact Or.inr rfl)) pgs_nil))))) (fun _ _ _ _ _ => pts_nil) (fun _ _ _ _ _ => (pv 4)))
       (pss_one (ps_expr (pe_updD hu rfl (pv 1) (pe_lc (own := [("step", 4)]) (g := (gName 4)) rfl sc_Keeper_next_doors.nd (pi_list (pv 3)) (blkOk_by (own := [("step", 4)]) (N := ["self", "found", "layout", "steps", "step", "warmth", "other"]) (sc := defScope s_Keeper_next_doors) (by decide +kernel))
       (fun _ _ _ _ _ => (pg_name (i := 4) sc_Keeper_next_doors.nd rfl (by first | exact Or.inl rfl | exact Or.inr rfl))) (fun _ _ _ _ _ => pts_nil) (fun _ _ _ _ _ => (pe_tupX (pa_cons (pe_call (ok_doors_of T) (hr.mono (by decide)) (by rfl) T.m_doors_of T.F_doors_of.kp T.b_doors_of .nil pass0 (pa_cons (pe_fldK K (pv 0)) (pa_cons (pv 2) (pa_cons (pv 4) pa_nil)))) (pa_cons pe_bl pa_nil))))) ⟨rfl, rfl, rfl, rfl⟩))))))
       (pss_one (ps_ret (pe_callB (cr_sortD hu rfl) (by rfl) T.z_sorted (by decide +kernel) (pa_cons (pv 1) pa_nil)))))), ?_⟩
    have few := KA.few o
    obtain ⟨⟨dx, st, kvs, h1, h2, h3, h4, h5, h6, h7⟩, h8, h9, h10⟩ := KA
    have hz : kvs.length ≤ 1024 := by rw [← dkeys_len, h6]; exact few
    intro f hf
    have nfm : mv ≠ f := ne_of_none h4 hf
    have s1 : Same H (upd H f (DD P w f [])) := Same.new hf
    refine ⟨mv, _, s1 _ _ h4, DD_mut, fun od => ?_⟩
    have bd : (upd H mv (.frz od (DD P w mv kvs))) f = none := by rw [upd_ne nfm.symm]; exact hf
    have eH : upd (upd H f (DD P w f [])) mv (.frz od (DD P w mv kvs)) = upd (upd H mv (.frz od (DD P w mv kvs))) f (DD P w f []) := by
      funext b
      by_cases z1 : b = f
      · rw [z1, upd_same, upd_ne nfm.symm, upd_same]
      · by_cases z2 : b = mv
        · rw [z2, upd_same, upd_ne nfm, upd_same]
        · rw [upd_ne z2, upd_ne z1, upd_ne z1, upd_ne z2]
    refine cast_hp eH ?_
    have tkl : Tk H (upd H mv (.frz od (DD P w mv kvs))) := Tk.upd (DD_not h4)
    have hdl : (upd H mv (.frz od (DD P w mv kvs))) mv = some (.frz od (DD P w mv kvs)) := upd_same
    have hxl : (upd H mv (.frz od (DD P w mv kvs))) x = some (.ins a.CK dx (kfl st mv ac)) := by rw [upd_ne (ne_of h1 h4 DD_nins.symm)]; exact h1
    have Sl : StoreAt a (upd H mv (.frz od (DD P w mv kvs))) st s := h2.upd h4 h3 DD_nxd (fun ob xs => DD_ne ob xs)
    have kdl := h5.mono tkl
    have sB : ∀ {H''}, Same (upd H mv (.frz od (DD P w mv kvs))) H'' → Same H (upd H'' mv (DD P w mv kvs)) := fun e => Same.lock h4 e
    revert bd tkl hdl hxl Sl kdl sB
    clear eH
    generalize upd H mv (.frz od (DD P w mv kvs)) = B
    intro bd tkl hdl hxl Sl kdl sB
    have sf : Same B (upd B f (DD P w f [])) := Same.new bd
    refine ⟨_, rfl, x, _, dx, _, _, rfl, sf _ _ hxl, T.clK, T.n_movers, kfl_mov _ _ _, mv, od, kvs, rfl, sf _ _ hdl, ?_⟩
    refine for_it (walk_dk (kvs := kvs)) (fun i σ H' => ∃ v2 v3 v4 v5 v6, ∃ kv : List Ent, ∃ ds : List (List Int), σ = [some (.ref x), some (.ref f), v2, v3, v4, v5, v6] ∧ Same B H' ∧ H' f = some (DD P w f kv) ∧ KD H' kv ∧ dkeys kv = ds.map (fun d => d.map V.int) ∧ ds.Nodup ∧ (∀ d, d ∈ ds ↔ ∃ l ∈ (dkeys kvs).take i, ∃ y l', Mv s l d y l'))
      ⟨_, _, _, _, _, [], [], rfl, sf, upd_same, KD.nil, rfl, List.nodup_nil, fun c => by simp⟩ (fun i σ H' _ ⟨_, _, _, _, _, _, _, _, s3, _⟩ => s3 _ _ hdl) ?_ ?_
    · rintro i v σ H1 H1' hi ⟨v2, v3, v4, v5, v6, kv, ds, rfl, s2, hf2, kd2, hk2, hn2, hm2⟩ ⟨rfl, e, he, rfl⟩
      obtain ⟨lay, b, vv⟩ := e
      have hb0 := (kdl _ (List.mem_of_getElem? he)).1
      simp only at hb0
      have he' : (dkeys kvs)[i]? = some lay := by unfold dkeys; rw [List.getElem?_map, he]; rfl
      have L : Lay s lay := h10 lay (h6 ▸ List.mem_of_getElem? he')
      have hll := L.len o
      have hsz := o.sz
      have hb1 := hb0.same s2
      have Sl2 := Sl.mono s2
      have stm : ∀ {st1 : List Stp} {z : Stp}, st1.map Stp.key = (stL lay).map (stK lay) → z ∈ st1 → ∃ i' j', lay[i']? = some z.nm ∧ z.nm ≠ .non ∧ lay[j']? = some .non ∧ z.pl = j' ∧ z.lay = swapL lay i' j' := fun {st1 z} e hz => by
        have : z.key ∈ (stL lay).map (stK lay) := by rw [← e]; exact List.mem_map.mpr ⟨z, hz, rfl⟩
        obtain ⟨⟨i', j'⟩, hij, ek⟩ := List.mem_map.mp this
        obtain ⟨h1, h2, h3⟩ := mem_stL.mp hij
        unfold stK Stp.key at ek
        simp only [Prod.mk.injEq] at ek
        obtain ⟨e1, e2, e3⟩ := ek
        have hg : lay[i']? = some (lay.getD i' .non) := by rw [List.getD_eq_getElem?_getD, List.getElem?_eq_getElem h1]; rfl
        rw [e1] at hg
        exact ⟨i', j', hg, fun z => h2 (z ▸ hg), h3, e2.symm, e3.symm⟩
      refine r_seq (r_asg (lcLx (fun st1 : List Stp => st1.map Stp.key = (stL lay).map (stK lay)) Stp.D (fun z => some (.tuple [dV z.nm, .int (z.pl : Int)])) (fun st1 e => ?_) (fun R h => ?_) (fun st1 pa i3 z y H2 hz s3 hy => ?_) (fun st1 D H2 pa s3 hD => ?_)))
      · have e1 := congrArg List.length e
        rw [List.length_map, List.length_map] at e1
        have := stL_len lay
        have : lay.length * lay.length ≤ 5 * 5 := Nat.mul_le_mul (by omega) (by omega)
        omega
      · exact ⟨_, rfl, x, _, dx, _, _, rfl, s2 _ _ hxl, T.clK, T.n_base, kfl_base _ _ _, _, rfl, st, b, s, lay, rfl, Sl2, o, hb1, L, fun st1 q H2 s3 hk hq => h st1 q H2 s3 hk hq⟩
      · obtain ⟨t, u1, u2, u3, rfl, ht, hu1, hu2, hu3⟩ := hy.trip_inv
        exact turn_3 ht.seq fun N hN => ⟨_, rfl, hN _ _ (Same.refl _) hu1⟩
      · have e0 : st1.filterMap (fun z => some (PyData.tuple [dV z.nm, .int (z.pl : Int)])) = st1.map fun z => .tuple [dV z.nm, .int (z.pl : Int)] := by
          clear hD pa
          induction st1 with
          | nil => rfl
          | cons c L ih => rw [List.filterMap_cons, List.map_cons, ← ih]
        rw [e0] at hD
        have hz1 : st1.length ≤ 25 := by
          have e1 := congrArg List.length pa
          rw [List.length_map, List.length_map] at e1
          have := stL_len lay
          have : lay.length * lay.length ≤ 5 * 5 := Nat.mul_le_mul (by omega) (by omega)
          omega
        have s23 := s2.trans s3
        refine ⟨_, rfl, f, rfl, ⟨kv, s3 _ _ hf2⟩, ?_⟩
        refine lcL st1 (fun z => .tuple [dV z.nm, .int (z.pl : Int)]) (fun z => some (.tuple [eI (dd (edA s (lay.idxOf z.nm)) (edA s z.pl)), .bool true])) (by omega) (fun R h => ⟨_, rfl, h D H2 (Same.refl _) hD⟩) (fun i4 z y H3 hz s4 hy => ?_) (fun D2 H3 s4 hD2 => ?_)
        · obtain ⟨i', j', g1, g2, g3, g4, g5⟩ := stm pa (List.mem_of_getElem? hz)
          obtain ⟨c, hc, ec⟩ := (L.mem (List.mem_of_getElem? g1)).resolve_left g2
          have hfl : Cc.fl z.nm = true := by rw [ec]; rfl
          obtain ⟨t, u1, u2, rfl, ht, hu1, hu2⟩ := hy.pair_inv
          obtain rfl := Dq.flat_inv hfl hu1
          obtain rfl := hu2.int_inv
          have s34 := s3.trans s4
          have ei : i' = lay.idxOf z.nm := by rw [ec] at g1 ⊢; exact idx_one (L.one o hc) g1
          refine turn_1 fun N hN => ⟨_, rfl, x, _, dx, _, _, rfl, s34 _ _ (s2 _ _ hxl), T.clK, T.n_base, kfl_base _ _ _, _, rfl, _, rfl, st, b, t, s, lay, i', z.pl, z.nm, rfl, Sl2.mono s34, o, hb1.same s34, L, ht, g1, g2, by rw [g4, ← hll]; exact lt_of_get g3, fun q H4 s5 hq => ?_⟩
          refine ⟨(by show 2 ≤ 1000000; decide), fun q2 H5 _ s6 hq2 => hN _ _ (s5.trans s6) ?_⟩
          rw [← ei]
          exact Dq.pair hq2 (Dq.eI (hq.same s6)) (.bl true)
        · have e2 : st1.filterMap (fun z => some (PyData.tuple [eI (dd (edA s (lay.idxOf z.nm)) (edA s z.pl)), .bool true])) = (st1.map fun z => dd (edA s (lay.idxOf z.nm)) (edA s z.pl)).map fun d => .tuple [eI d, .bool true] := by
            clear hD hD2 pa hz1 e0
            induction st1 with
            | nil => rfl
            | cons c L ih => rw [List.filterMap_cons, List.map_cons, List.map_cons, ← ih]
          rw [e2] at hD2
          obtain ⟨vs2, hvs2, hqv⟩ := hD2
          obtain ⟨ts, ps, rfl, hp, kdp, hkp⟩ := pairs_eIs hqv
          have s34 := s3.trans s4
          have hf4 := s34 _ _ hf2
          have kd4 := kd2.same s34
          obtain ⟨dn, e5, e6, e7⟩ := putAll_ints hk2 hkp hn2
          have hmv : ∀ d, d ∈ (st1.map fun z => dd (edA s (lay.idxOf z.nm)) (edA s z.pl)) ↔ ∃ y l', Mv s lay d y l' := fun d => by
            rw [List.mem_map]
            constructor
            · rintro ⟨z, hz, rfl⟩
              obtain ⟨i', j', g1, g2, g3, g4, g5⟩ := stm pa hz
              obtain ⟨c, hc, ec⟩ := (L.mem (List.mem_of_getElem? g1)).resolve_left g2
              have ei : i' = lay.idxOf z.nm := by rw [ec] at g1 ⊢; exact idx_one (L.one o hc) g1
              exact ⟨z.nm, z.lay, i', j', g1, g2, g3, by rw [ei, g4], g5⟩
            · rintro ⟨y, l', i', j', g1, g2, g3, g4, g5⟩
              have hij : (i', j') ∈ stL lay := mem_stL.mpr ⟨lt_of_get g1, fun z => g2 (by rw [g1] at z; exact Option.some.inj z), g3⟩
              have : stK lay (i', j') ∈ st1.map Stp.key := by rw [pa]; exact List.mem_map.mpr ⟨_, hij, rfl⟩
              obtain ⟨z, hz, ez⟩ := List.mem_map.mp this
              unfold stK Stp.key at ez
              simp only [Prod.mk.injEq] at ez
              obtain ⟨a1, a2, a3⟩ := ez
              have hg : lay.getD i' .non = y := by rw [List.getD_eq_getElem?_getD, g1]; rfl
              rw [hg] at a1
              obtain ⟨c, hc, ec⟩ := (L.mem (List.mem_of_getElem? g1)).resolve_left g2
              have ei : i' = lay.idxOf y := by rw [ec] at g1 ⊢; exact idx_one (L.one o hc) g1
              exact ⟨z, hz, by rw [a1, a2, ← ei, g4]⟩
          have hm7 : ∀ d, d ∈ dn ↔ ∃ l ∈ (dkeys kvs).take (i + 1), ∃ y l', Mv s l d y l' := fun d => by
            rw [e7, hm2, hmv, take_snoc he']
            constructor
            · rintro (⟨l, hl, h⟩ | h)
              · exact ⟨l, List.mem_append_left _ hl, h⟩
              · exact ⟨lay, List.mem_append_right _ List.mem_cons_self, h⟩
            · rintro ⟨l, hl, h⟩
              rcases List.mem_append.mp hl with hl | hl
              · exact .inl ⟨l, hl, h⟩
              · rw [List.mem_singleton] at hl
                exact .inr (hl ▸ h)
          have hkv : kv.length ≤ 16 * 1024 := by
            have h0 : kv.length = ds.length := by rw [← dkeys_len, hk2, List.length_map]
            have h1 := nd_len (ks := (List.range 4).flatMap fun x : Nat => ([(x : Int)] : List Int) :: (List.range 4).map fun y : Nat => [(x : Int), (y : Int)]) hn2 fun d hd => by
              obtain ⟨l, hl, y, l', m⟩ := (hm2 d).mp hd
              have Ll := h10 l (h6 ▸ List.mem_of_mem_take hl)
              obtain ⟨q0, q1, q2, q3⟩ := m.doors o Ll
              have h4 := o.d4
              match d, q1, q2, q3 with
              | [x], _, _, q3 =>
                have := q3 x List.mem_cons_self
                refine List.mem_flatMap.mpr ⟨x.toNat, List.mem_range.mpr (by omega), ?_⟩
                rw [Int.toNat_of_nonneg this.1]
                exact List.mem_cons_self
              | [x, y], _, _, q3 =>
                have h5 := q3 x List.mem_cons_self
                have h6 := q3 y (List.mem_cons_of_mem _ List.mem_cons_self)
                refine List.mem_flatMap.mpr ⟨x.toNat, List.mem_range.mpr (by omega), ?_⟩
                rw [Int.toNat_of_nonneg h5.1]
                refine List.mem_cons_of_mem _ (List.mem_map.mpr ⟨y.toNat, List.mem_range.mpr (by omega), ?_⟩)
                rw [Int.toNat_of_nonneg h6.1]
            have h2 : ((List.range 4).flatMap fun x : Nat => ([(x : Int)] : List Int) :: (List.range 4).map fun y : Nat => [(x : Int), (y : Int)]).length = 20 := by decide
            omega
          have hpl : ps.length ≤ 25 := by
            have := congrArg List.length hkp
            rw [dkeys_len, List.length_map, List.length_map] at this
            omega
          have tk5 : Tk H3 (upd H3 f (DD P w f (putAll kv ps))) := Tk.upd (DD_not hf4)
          refine ⟨D2, rfl, kv, ts, _, ps, hf4, kd4, ⟨hvs2, hp⟩, rfl, kdp, sz_ok (by omega), ?_⟩
          exact ⟨_, _, _, _, _, putAll kv ps, dn, rfl, Same.mut (s2.trans s34) bd, upd_same, (KD.putAll kd4 kdp).mono tk5, e5, e6, hm7⟩
    · rintro σ H1 ⟨v2, v3, v4, v5, v6, kv, ds, rfl, s2, hf2, kd2, hk2, hn2, hm2⟩
      have hm1 := s2 _ _ hdl
      refine ⟨hm1, ?_⟩
      rw [← dkeys_len, List.take_length, h6] at hm2
      have tk3 : Tk H1 (upd H1 mv (DD P w mv kvs)) := Tk.unlock hm1
      refine ⟨_, rfl, f, kv, rfl, .inl (by rw [upd_ne nfm.symm]; exact hf2), kd2.mono tk3, ?_, ?_, fun p H3 s3 hl3 => k ds p H3 ((sB s2).trans s3) hn2 hm2 ?_⟩
      · have e1 : (kv.map fun e => eL e.1) = ds.map eI := by
          have := congrArg (List.map eL) hk2
          unfold dkeys at this
          rw [List.map_map, List.map_map] at this
          rw [show (kv.map fun e => eL e.1) = kv.map (eL ∘ fun x => x.1) from rfl, this]
          refine List.map_congr_left fun d _ => ?_
          rw [eI_eq]; rfl
        rw [e1]
        exact alike_eIs ds
      · intro e he
        have : e.1 ∈ dkeys kv := List.mem_map.mpr ⟨e, he, rfl⟩
        rw [hk2] at this
        obtain ⟨d, hd, ed⟩ := List.mem_map.mp this
        obtain ⟨l, hl, y, l', m⟩ := (hm2 d).mp hd
        have := (m.doors o (h10 l hl)).2.1
        rw [← ed]
        intro z
        have := List.map_eq_nil_iff.mp z
        subst this
        simp at *
      · have := srtI_eI hk2
        unfold dkeys at this
        rw [this] at hl3
        exact hl3
end
end Cc

end

section
set_option Elab.async false
set_option linter.all false
set_option maxRecDepth 100000
set_option maxHeartbeats 4000000
set_option pp.maxSteps 1200
set_option pp.proofs false
namespace Cc
open PySem PySem.Spec L2

theorem StoreAt.sx {a : Ad} {H H' : Hp} {p : Addr} {s : Sc} {xs : List Addr} (h : StoreAt a H p s) (e : Sx xs H H') (hk : ∀ b ∈ xs, (∃ C dx fs, H b = some (.ins C dx fs)) ∨ ∃ ys, H b = some (.lst ys)) : StoreAt a H' p s := by
  obtain ⟨dx, e', q, d, c, g1, g2, g3, g4, g5⟩ := h
  have tk : Tk H H' := e.tk fun b hb o ys z => by
    rcases hk b hb with ⟨C, dx, fs, h⟩ | ⟨ys', h⟩ <;> rw [h] at z <;> cases z
  refine ⟨dx, e', q, d, c, ?_, tk _ _ g2, tk _ _ g3, g4.mono tk, tk _ _ g5⟩
  rcases g1 with ⟨_, g1⟩ | ⟨g1, g1'⟩
  · cases g1
  · refine .inr ⟨e _ _ (fun hb => ?_) g1, e _ _ (fun hb => ?_) g1'⟩
    · rcases hk _ hb with ⟨C, dx, fs, h⟩ | ⟨ys', h⟩ <;> rw [h] at g1 <;> unfold SlX.SlO at g1 <;> cases g1
    · rcases hk _ hb with ⟨C, dx, fs, h⟩ | ⟨ys', h⟩ <;> rw [h] at g1' <;> cases g1'
theorem keeper_end {P : Program} {w : World} {a : Ad} {H H' : Hp} {x dx st mv ac D : Addr} {s : Sc} {PP : List (List V × V)} {Ks : List (List V)} {told told' : List PyData} {kvs : List Ent} (hx : H x = some (.ins a.CK dx (kfl st mv ac))) (S : StoreAt a H st s) (hacc : Ls H ac told)
    (hD : H D = some (DD P w D kvs)) (kd : KD H kvs) (nm : NmOk s PP H kvs) (hk : dkeys kvs = Ks) (hn : Ks.Nodup) (hL : ∀ l ∈ Ks, Lay s l) (hne : st ≠ D) (sx : Sx [x, ac] H H') (hx' : H' x = some (.ins a.CK dx (kfl st D ac))) (ha' : Ls H' ac told') : KeeperAt P w a H' x D ac s Ks PP told' := by
  obtain ⟨vs, hv, _⟩ := hacc
  have kinds : ∀ b ∈ [x, ac], (∃ C dx fs, H b = some (.ins C dx fs)) ∨ ∃ ys, H b = some (.lst ys) := fun b hb => by
    simp only [List.mem_cons, List.not_mem_nil, or_false] at hb
    rcases hb with rfl | rfl
    · exact .inl ⟨_, _, _, hx⟩
    · exact .inr ⟨_, hv⟩
  have tk : Tk H H' := sx.tk fun b hb o ys z => by
    rcases kinds b hb with ⟨C, dx, fs, h⟩ | ⟨ys', h⟩ <;> rw [h] at z <;> cases z
  refine ⟨⟨dx, st, kvs, hx', S.sx sx kinds, hne, sx _ _ (fun hb => ?_) hD, kd.mono tk, hk, nm.mono tk⟩, ha', hn, hL⟩
  simp only [List.mem_cons, List.not_mem_nil, or_false] at hb
  rcases hb with rfl | rfl
  · rw [hx] at hD; exact DD_nins (Option.some.inj hD).symm
  · rw [hv] at hD; exact DD_nel _ (Option.some.inj hD).symm
def sp_Keeper_inspected (P : Program) (w : World) (a : Ad) : Sp := fun vs H Q _ => ∃ (x mv ac b : Addr) (s : Sc) (Ks : List (List V)) (PP : List (List V × V)) (told : List PyData) (r : Row), vs = [.ref x, .int r.1, .ref b] ∧ KeeperAt P w a H x mv ac s Ks PP told ∧ s.Ok ∧ Tq H b r.2 ∧ RowOk s r ∧ told.length ≤ 1000 ∧ (∃ l ∈ Ks, isSo s l r.1 r.2 = true) ∧
  ∀ H' mv', Sx [x, ac] H H' → KeeperAt P w a H' x mv' ac s (Ks.filter fun l => isSo s l r.1 r.2) PP (told ++ [insD r]) → Q (.int ((Ks.filter fun l => isSo s l r.1 r.2).length : Int)) H'
section
variable {P : Program} {w : World} {K : PySem.W.Frag} {mg : Str → Option Value} {base : Heap} {a : Ad}
theorem ok_Keeper_inspected (T : Txt K mg a) : FnOk P w K mg base CX0 5 a.f_Keeper_inspected a.d_Keeper_inspected ["self", "door", "seen"] (sp_Keeper_inspected P w a) := by
  refine T.F_Keeper_inspected.ok sc_Keeper_inspected (fun vs H Q E h => ?_) (fun cdv A outer s H vs Q E hr h => ?_)
  · obtain ⟨x, mv, ac, b, s, Ks, PP, told, r, rfl, KA, o, hb, ok, hlen, ⟨l0, hl0, hso0⟩, k⟩ := h; rfl
  · obtain ⟨x, mv, ac, b, s, Ks, PP, told, r, rfl, KA, o, hb, ok, hlen, ⟨l0, hl0, hso0⟩, k⟩ := h
    have hu := hr.units
    refine ⟨_, (pss_cons (ps_set (i := 3) sc_Keeper_inspected.nd rfl (by first | exact Or.inl rfl | exact Or.inr rfl) (pe_tupX (pa_cons (pe_g T.c_OPEN) (pa_cons (pv 1) (pa_cons (pv 2) pa_nil)))))
       (pss_cons (ps_if (pt_not (pt_val (pe_call (ok_is_sighting T) (hr.mono (by decide)) (by rfl) T.m_is_sighting T.F_is_sighting.kp T.b_is_sighting .nil pass0 (pa_cons (pe_fldK K (pv 0)) (pa_cons (pv 3) pa_nil))))) (pss_one ps_never) pss_nil)
       (pss_cons (ps_lock (ps_setDDc (i := 4) (own := [("layout", 5), ("names", 6)]) (g := (gTup K 2 (gCons (gName 5) (gCons (gName 6) gNil)))) hu rfl sc_Keeper_inspected.nd rfl rfl (sw_trueD rfl rfl rfl rfl) (pi_di (pe_fldK K (pv 0))) (blkOk_by (own := [("layout", 5), ("names", 6)]) (N := ["self", "door", "seen", "row", "found", "layout", "names"]) (sc := defScope s_Keeper_inspected) (by decide +kernel))
       (fun _ _ _ _ _ => (pg_tup rfl (pgs_cons (pg_name (i := 5) sc_Keeper_inspected.nd rfl (by first | exact Or.inl rfl | exact Or.inr rfl)) (pgs_cons (pg_name (i := 6) sc_Keeper_inspected.nd rfl (by first | exact Or.inl rfl | exact Or.inr rfl)) pgs_nil)))) (fun _ _ _ _ _ => (pts_one (pt_val (pe_call (ok_is_so T) (hr.mono (by decide)) (by rfl) T.m_is_so T.F_is_so.kp T.b_is_so .nil pass0 (pa_cons (pe_fldK K (pv 0)) (pa_cons (pv 5) (pa_cons (pv 3) pa_nil))))))) (fun _ _ _ _ _ => (pv 5)) (fun _ _ _ _ _ => (pv 6))))
       (pss_one (ps_ret (pe_meth (pv 0) T.clK T.t_Keeper_narrow (ok_Keeper_narrow T) (hr.mono (by decide)) T.b_Keeper_narrow .nil pass0 (pa_cons (pe_tupX (pa_cons (pe_g T.c_INSPECTED) (pa_cons (pv 1) (pa_cons (pv 2) pa_nil)))) (pa_cons (pv 4) pa_nil)))))))), ?_⟩
    have few := KA.few o
    obtain ⟨⟨dx, st, kvs, h1, h2, h3, h4, h5, h6, h7⟩, h8, h9, h10⟩ := KA
    have hz : kvs.length ≤ 1024 := by rw [← dkeys_len, h6]; exact few
    refine ⟨_, rfl, _, rfl, (by show 3 ≤ 1000000; decide), fun t H1 _ s1 ht => ?_⟩
    refine ⟨_, rfl, x, _, dx, _, _, rfl, s1 _ _ h1, T.clK, T.n_base, kfl_base _ _ _, _, rfl, st, t, b, s, r, rfl, h2.mono s1, o, ht, hb.same s1, ok, fun H2 s2 => ⟨_, rfl, iteF ?_⟩⟩
    have s12 := s1.trans s2
    refine r_next ?_
    have hx2 := s12 _ _ h1
    have hm2 := s12 _ _ h4
    refine ⟨mv, _, hm2, DD_mut, fun od => ?_⟩
    have tkl : Tk H2 (upd H2 mv (.frz od (DD P w mv kvs))) := Tk.upd (DD_not hm2)
    have hdl : (upd H2 mv (.frz od (DD P w mv kvs))) mv = some (.frz od (DD P w mv kvs)) := upd_same
    have hxl : (upd H2 mv (.frz od (DD P w mv kvs))) x = some (.ins a.CK dx (kfl st mv ac)) := by rw [upd_ne (ne_of hx2 hm2 DD_nins.symm)]; exact hx2
    have Sl : StoreAt a (upd H2 mv (.frz od (DD P w mv kvs))) st s := (h2.mono s12).upd hm2 h3 DD_nxd (fun ob xs => DD_ne ob xs)
    have kdl := (h5.same s12).mono tkl
    have nml := (h7.mono (Tk.of s12)).mono tkl
    have htl := tkl _ _ (ht.same s2)
    have hbl := tkl _ _ (hb.same s12)
    have sB : ∀ {H''}, Same (upd H2 mv (.frz od (DD P w mv kvs))) H'' → Same H2 (upd H'' mv (DD P w mv kvs)) := fun e => Same.lock hm2 e
    have frB : ∀ D, (upd H2 mv (.frz od (DD P w mv kvs))) D = none → H2 D = none ∧ D ≠ mv := fun D hD => by
      have : D ≠ mv := fun z => by rw [z, upd_same] at hD; cases hD
      rw [upd_ne this] at hD
      exact ⟨hD, this⟩
    revert tkl hdl hxl Sl kdl nml htl hbl sB frB
    generalize upd H2 mv (.frz od (DD P w mv kvs)) = B
    intro tkl hdl hxl Sl kdl nml htl hbl sB frB
    refine r_asg ⟨_, rfl, x, _, dx, _, _, rfl, hxl, T.clK, T.n_movers, kfl_mov _ _ _, mv, od, kvs, rfl, hdl, fun D hD => ddc_it (walk_di (kvs := kvs)) (fun i H' => ∃ kv2, Same B H' ∧ H' D = some (DD P w D kv2) ∧ KD H' kv2 ∧ NmOk s PP H' kv2 ∧ dkeys kv2 = ((dkeys kvs).take i).filter fun l => isSo s l r.1 r.2)
      ⟨[], Same.new hD, upd_same, KD.nil, (fun e h => nomatch h), rfl⟩ (fun i H' _ ⟨_, s3, _⟩ => s3 _ _ hdl) ?_ ?_⟩
    · rintro i v H3 H4 hi ⟨kv2, s3, hd3, kd3, nm3, hk3⟩ ⟨T', e, he, rfl, hT, rfl⟩
      obtain ⟨lay, b1, vv⟩ := e
      have he' : (dkeys kvs)[i]? = some lay := by unfold dkeys; rw [List.getElem?_map, he]; rfl
      have L : Lay s lay := h10 lay (h6 ▸ List.mem_of_getElem? he')
      have hb1 := (kdl _ (List.mem_of_getElem? he)).1
      obtain ⟨tn, etn, htn⟩ := nml _ (List.mem_of_getElem? he)
      simp only at hb1 etn htn
      subst etn
      have s34 : Same H3 (upd H3 T' (.tup [.ref b1, .ref tn])) := Same.new hT
      have sB4 := s3.trans s34
      refine ⟨T', _, rfl, SqT.of upd_same, rfl, _, _, rfl, _, _, rfl, rfl, rfl, ?_⟩
      refine ⟨_, rfl, x, _, dx, _, _, rfl, sB4 _ _ hxl, T.clK, T.n_base, kfl_base _ _ _, _, rfl, _, rfl, st, b1, t, b, s, lay, r, rfl, Sl.mono sB4, o, hb1.same sB4, L, htl.same sB4, hbl.same sB4, ok, fun H5 s5 => ⟨_, rfl, ?_⟩⟩
      have s35 := s34.trans s5
      have sB5 := s3.trans s35
      have hz2 : kv2.length ≤ 1024 := by
        have h1 := congrArg List.length hk3
        have h2 := List.length_filter_le (fun l => isSo s l r.1 r.2) ((dkeys kvs).take i)
        rw [dkeys_len] at h1
        rw [List.length_take, dkeys_len] at h2
        omega
      have nl : lay ∉ (dkeys kvs).take i := fun z => by
        obtain ⟨i2, hi2, e2⟩ := List.mem_take_iff_getElem.mp z
        have l1 := lt_of_get he'
        have := (List.getElem_inj (h6 ▸ h9) (h₀ := by omega) (h₁ := l1)).mp (e2.trans (List.getElem?_eq_some_iff.mp he').2.symm)
        omega
      have hnk : lay ∉ dkeys kv2 := by rw [hk3]; exact fun z => nl (List.mem_filter.mp z).1
      by_cases hso : isSo s lay r.1 r.2 = true
      · rw [hso]
        refine iteT ⟨_, rfl, _, rfl, b1, kv2, lay, rfl, s35 _ _ hd3, kd3.same s35, hb1.same sB5, L.fl o, sz_lt (by omega), ?_⟩
        have hd5 := s35 _ _ hd3
        have tk5 : Tk H5 (upd H5 D (DD P w D (putD kv2 lay b1 (.ref tn)))) := Tk.upd (DD_not hd5)
        refine ⟨_, Same.mut sB5 hD, upd_same, ((kd3.same s35).put (hb1.same sB5) (L.fl o)).mono tk5, fun e he2 => ?_, ?_⟩
        · rcases putD_mem he2 with ⟨h1, h2⟩ | ⟨h1, _⟩
          · exact ⟨tn, h2, tk5 _ _ (by rw [h1]; exact htn.same sB5)⟩
          · obtain ⟨b', e1, e2⟩ := nm3 e h1
            exact ⟨b', e1, tk5 _ _ (e2.same s35)⟩
        · rw [putD_keys, if_neg hnk, hk3, take_snoc he', List.filter_append]
          simp [hso]
      · rw [show isSo s lay r.1 r.2 = false from by simpa using hso]
        refine iteF ⟨kv2, sB5, s35 _ _ hd3, kd3.same s35, nm3.mono (Tk.of s35), ?_⟩
        rw [hk3, take_snoc he', List.filter_append]
        simp [hso]
    · rintro H3 ⟨kv2, s3, hd3, kd3, nm3, hk3⟩
      have hm3 := s3 _ _ hdl
      refine ⟨hm3, ?_⟩
      rw [← dkeys_len, List.take_length, h6] at hk3
      obtain ⟨hDn, nDm⟩ := frB D hD
      have s4 := s12.trans (sB s3)
      have tk3 : Tk H3 (upd H3 mv (DD P w mv kvs)) := Tk.unlock hm3
      have hd4 : (upd H3 mv (DD P w mv kvs)) D = some (DD P w D kv2) := by rw [upd_ne nDm]; exact hd3
      have kd4 := kd3.mono tk3
      have nm4 := nm3.mono tk3
      have hx4 := s4 _ _ h1
      have S4 := h2.mono s4
      have a4 := h8.mono s4
      have nsD : st ≠ D := (h2.mono s12).ne hDn
      have hb4 := hb.same s4
      revert s4 hd4 kd4 nm4 hx4 S4 a4 hb4
      generalize upd H3 mv (DD P w mv kvs) = H4
      intro s4 hd4 kd4 nm4 hx4 S4 a4 hb4
      refine ⟨_, rfl, x, dx, _, rfl, hx4, kfl_no _ _ _ (by decide +kernel) (by decide +kernel) (by decide +kernel), _, rfl, _, rfl, (by show 3 ≤ 1000000; decide), fun q H5 _ s5 hq5 => ⟨_, rfl, ?_⟩⟩
      have hne : kv2 ≠ [] := fun z => by
        have : l0 ∈ dkeys kv2 := by rw [hk3]; exact List.mem_filter.mpr ⟨hl0, hso0⟩
        rw [z] at this
        cases this
      refine ⟨x, dx, st, mv, ac, D, .ref q, insD r, told, kv2, rfl, s5 _ _ hx4, a4.mono s5, hlen, ?_, s5 _ _ hd4, kd4.same s5, hne, fun H6 sx6 hx6 ha6 => ?_⟩
      · exact .tup hq5 (.cons (.str _) (.cons (.int _) (.cons (Dq.eL (hb4.same s5) ok.fl) .nil)))
      · have := keeper_end (s5 _ _ hx4) (S4.mono s5) (a4.mono s5) (s5 _ _ hd4) (kd4.same s5) (nm4.mono (Tk.of s5)) hk3 (h9.filter _) (fun l hl => h10 l (List.mem_filter.mp hl).1) nsD sx6 hx6 ha6
        have kk := k H6 D ((Sx.of (s4.trans s5)).trans sx6) this
        rw [← hk3, dkeys_len] at kk
        exact kk
end
end Cc

end

section
set_option Elab.async false
set_option linter.all false
set_option maxRecDepth 100000
set_option maxHeartbeats 4000000
namespace Cc
open PySem PySem.Spec L2
theorem eqv_ints : ∀ (a b : List Int), PyData.eqvAll (a.map PyData.int) (b.map PyData.int) = decide (a = b)
  | [], [] => by rw [List.map_nil, PyData.eqvAll.eq_def]; rfl
  | [], y :: b => by rw [List.map_nil, List.map_cons, PyData.eqvAll.eq_def]; rfl
  | x :: a, [] => by rw [List.map_nil, List.map_cons, PyData.eqvAll.eq_def]; rfl
  | x :: a, y :: b => by
    rw [List.map_cons, List.map_cons, PyData.eqvAll, eqv_ints a b]
    have : PyData.eqv (.int x) (.int y) = decide (x = y) := by
      rw [PyData.eqv.eq_def]
      rw [Bool.eq_iff_iff]
      simp
    rw [this, Bool.eq_iff_iff]
    simp
theorem eqv_eI (a b : List Int) : PyData.eqv (eI a) (eI b) = decide (a = b) := by
  unfold eI
  rw [PyData.eqv.eq_def]
  exact eqv_ints a b
theorem shaped_eI (a : List Int) : SeqAt.shaped (eI a) = true := shaped_tup (n := 0) (fun d hd => by
  obtain ⟨i, _, rfl⟩ := List.mem_map.mp hd
  exact ⟨rfl, Nat.le_refl _⟩) (by decide)
theorem nmF_other {s : Sc} {PP : List (List V × V)} {l l' : List V} {y : V} (h : l' ≠ l) : nmF s (PP ++ [(l, y)]) l' = nmF s PP l' := by
  unfold nmF
  congr 1
  funext c
  congr 1
  rw [eq_iff_iff]
  simp only [List.mem_append, List.mem_singleton, Prod.mk.injEq]
  exact ⟨fun z => z.elim id fun z => absurd z.1 h, .inl⟩
end Cc

end

section
set_option Elab.async false
set_option linter.all false
set_option maxRecDepth 100000
set_option maxHeartbeats 8000000
set_option pp.maxSteps 1200
set_option pp.proofs false
namespace Cc
open PySem PySem.Spec L2

def sp_Keeper_saw (P : Program) (w : World) (a : Ad) : Sp := fun vs H Q _ => ∃ (x mv ac t : Addr) (s : Sc) (Ks : List (List V)) (PP : List (List V × V)) (told : List PyData) (sn : List Int), vs = [.ref x, .ref t] ∧ KeeperAt P w a H x mv ac s Ks PP told ∧ s.Ok ∧ Tq H t (sn.map V.int) ∧ DoorsOk s sn ∧ told.length ≤ 1000 ∧ (∃ l0 ∈ Ks, ∃ y l, Mv s l0 sn y l) ∧
  ∀ H' mv' Ks' PP', Sx [x, ac] H H' → KeeperAt P w a H' x mv' ac s Ks' PP' (told ++ [sawD sn]) → (∀ l, l ∈ Ks' ↔ ∃ y, (l, y) ∈ PP') → (∀ l y, (l, y) ∈ PP' ↔ ∃ l0 ∈ Ks, Mv s l0 sn y l) → Q (.int (Ks'.length : Int)) H'
section
variable {P : Program} {w : World} {K : PySem.W.Frag} {mg : Str → Option Value} {base : Heap} {a : Ad}
theorem ok_Keeper_saw (T : Txt K mg a) : FnOk P w K mg base CX0 5 a.f_Keeper_saw a.d_Keeper_saw ["self", "seen"] (sp_Keeper_saw P w a) := by
  refine T.F_Keeper_saw.ok sc_Keeper_saw (fun vs H Q E h => ?_) (fun cdv A outer s H vs Q E hr h => ?_)
  · obtain ⟨x, mv, ac, t, s, Ks, PP, told, sn, rfl, KA, o, ht, okd, hlen, ⟨l00, hl00, y00, l01, hmv00⟩, k⟩ := h; rfl
  · obtain ⟨x, mv, ac, t, s, Ks, PP, told, sn, rfl, KA, o, ht, okd, hlen, ⟨l00, hl00, y00, l01, hmv00⟩, k⟩ := h
    have hu := hr.units
    refine ⟨_, (pss_cons (ps_expr (pe_meth (pv 0) T.clK T.t_Keeper_check_doors (ok_Keeper_check_doors T) (hr.mono (by decide)) T.b_Keeper_check_doors .nil pass0 (pa_cons (pv 1) pa_nil)))
       (pss_cons (ps_set (i := 2) sc_Keeper_saw.nd rfl (by first | exact Or.inl rfl | exact Or.inr rfl) pe_ddnew)
       (pss_cons (ps_lock (ps_for PassesOwn.never rfl (pi_dk (pe_fldK K (pv 0))) (pg_name (i := 3) sc_Keeper_saw.nd rfl (by first | exact Or.inl rfl | exact Or.inr rfl))
       (pss_one (ps_for PassesOwn.never rfl (pi_list (pe_call (ok_all_steps T) (hr.mono (by decide)) (by rfl) T.m_all_steps T.F_all_steps.kp T.b_all_steps .nil pass0 (pa_cons (pe_fldK K (pv 0)) (pa_cons (pv 3) pa_nil)))) (pg_tup rfl (pgs_cons (pg_name (i := 4) sc_Keeper_saw.nd rfl (by first | exact Or.inl rfl | exact Or.inr rfl)) (pgs_cons (pg_name (i := 5) sc_Keeper_saw.nd rfl (by first | exact Or.inl rfl | exact Or.inr rfl)) (pgs_cons (pg_name (i := 6) sc_Keeper_saw.nd rfl (by first | exact Or.inl rfl | exact Or.inr rfl)) pgs_nil))))
       (pss_one (ps_if (pt_cmpR (op_eqDK K hu) (pe_call (ok_doors_of T) (hr.mono (by decide)) (by rfl) T.m_doors_of T.F_doors_of.kp T.b_doors_of .nil pass0 (pa_cons (pe_fldK K (pv 0)) (pa_cons (pv 3) (pa_cons (pv 4) pa_nil)))) (pv 1) (nomark _)) (pss_one (ps_ddput hu (pv 2) (pv 6) (pe_callTy (cr_tupLK K) (by rfl) T.z_tuple (by decide +kernel) (pa_cons (pe_callB (cr_sortedS hu rfl) (by rfl) T.z_sorted (by decide +kernel) (pa_cons (pe_callTy (cr_setOfSK K rfl) (by rfl) T.z_set (by decide +kernel) (pa_cons (pe_lst (pa_starK K (pe_ddget2 hu (pv 2) (pv 6) (pe_tupX pa_nil) ⟨rfl, rfl, rfl, rfl⟩) (pa_cons (pe_ix (ix_tupK K) (pv 4) pe_int (by intro _ _; rfl)) pa_nil))) pa_nil)) pa_nil)) pa_nil)) rfl)) pss_nil))))))
       (pss_one (ps_ret (pe_meth (pv 0) T.clK T.t_Keeper_narrow (ok_Keeper_narrow T) (hr.mono (by decide)) T.b_Keeper_narrow .nil pass0 (pa_cons (pe_tupX (pa_cons (pe_g T.c_SAW) (pa_cons (pv 1) pa_nil))) (pa_cons (pv 2) pa_nil)))))))), ?_⟩
    have few := KA.few o
    obtain ⟨⟨dx, st, kvs, h1, h2, h3, h4, h5, h6, h7⟩, h8, h9, h10⟩ := KA
    have hz : kvs.length ≤ 1024 := by rw [← dkeys_len, h6]; exact few
    refine ⟨_, rfl, x, dx, _, rfl, h1, kfl_no _ _ _ (by decide +kernel) (by decide +kernel) (by decide +kernel), _, rfl, x, dx, st, mv, ac, t, s, sn, rfl, h1, h2, o, ht, okd, fun H0 s0 => ?_⟩
    intro f hf
    have hm0 := s0 _ _ h4
    have nfm : mv ≠ f := ne_of_none hm0 hf
    have s1 : Same H0 (upd H0 f (DD P w f [])) := Same.new hf
    refine ⟨mv, _, s1 _ _ hm0, DD_mut, fun od => ?_⟩
    have bd : (upd H0 mv (.frz od (DD P w mv kvs))) f = none := by rw [upd_ne nfm.symm]; exact hf
    have eH : upd (upd H0 f (DD P w f [])) mv (.frz od (DD P w mv kvs)) = upd (upd H0 mv (.frz od (DD P w mv kvs))) f (DD P w f []) := by
      funext b
      by_cases z1 : b = f
      · rw [z1, upd_same, upd_ne nfm.symm, upd_same]
      · by_cases z2 : b = mv
        · rw [z2, upd_same, upd_ne nfm, upd_same]
        · rw [upd_ne z2, upd_ne z1, upd_ne z1, upd_ne z2]
    refine cast_hp eH ?_
    have tkl : Tk H0 (upd H0 mv (.frz od (DD P w mv kvs))) := Tk.upd (DD_not hm0)
    have hdl : (upd H0 mv (.frz od (DD P w mv kvs))) mv = some (.frz od (DD P w mv kvs)) := upd_same
    have hx0 := s0 _ _ h1
    have hxl : (upd H0 mv (.frz od (DD P w mv kvs))) x = some (.ins a.CK dx (kfl st mv ac)) := by rw [upd_ne (ne_of hx0 hm0 DD_nins.symm)]; exact hx0
    have Sl : StoreAt a (upd H0 mv (.frz od (DD P w mv kvs))) st s := (h2.mono s0).upd hm0 h3 DD_nxd (fun ob xs => DD_ne ob xs)
    have kdl := (h5.same s0).mono tkl
    have htl := tkl _ _ (ht.same s0)
    have sB : ∀ {H''}, Same (upd H0 mv (.frz od (DD P w mv kvs))) H'' → Same H0 (upd H'' mv (DD P w mv kvs)) := fun e => Same.lock hm0 e
    revert bd tkl hdl hxl Sl kdl htl sB
    clear eH
    generalize upd H0 mv (.frz od (DD P w mv kvs)) = B
    intro bd tkl hdl hxl Sl kdl htl sB
    have sf : Same B (upd B f (DD P w f [])) := Same.new bd
    refine ⟨_, rfl, x, _, dx, _, _, rfl, sf _ _ hxl, T.clK, T.n_movers, kfl_mov _ _ _, mv, od, kvs, rfl, sf _ _ hdl, ?_⟩
    refine for_it (walk_dk (kvs := kvs)) (fun i σ H' => ∃ v3 v4 v5 v6, ∃ kv : List Ent, ∃ PF : List (List V × V), σ = [some (.ref x), some (.ref t), some (.ref f), v3, v4, v5, v6] ∧ Same B H' ∧ H' f = some (DD P w f kv) ∧ KD H' kv ∧ NmOk s PF H' kv ∧ (dkeys kv).Nodup ∧ (∀ l, l ∈ dkeys kv ↔ ∃ y, (l, y) ∈ PF) ∧ (∀ l y, (l, y) ∈ PF ↔ ∃ l0 ∈ (dkeys kvs).take i, Mv s l0 sn y l))
      ⟨_, _, _, _, [], [], rfl, sf, upd_same, KD.nil, (fun e h => nomatch h), List.nodup_nil, (fun l => by simp [dkeys]), fun l y => by simp⟩ (fun i σ H' _ ⟨_, _, _, _, _, _, _, s3, _⟩ => s3 _ _ hdl) ?_ ?_
    · rintro i v σ H1 H1' hi ⟨v3, v4, v5, v6, kv, PF, rfl, s2, hf2, kd2, nm2, hn2, hk2, hp2⟩ ⟨rfl, e, he, rfl⟩
      obtain ⟨lay, b, vv⟩ := e
      have hb0 := (kdl _ (List.mem_of_getElem? he)).1
      simp only at hb0
      have he' : (dkeys kvs)[i]? = some lay := by unfold dkeys; rw [List.getElem?_map, he]; rfl
      have L : Lay s lay := h10 lay (h6 ▸ List.mem_of_getElem? he')
      have hll := L.len o
      have hsz := o.sz
      have stm : ∀ {st1 : List Stp} {z : Stp}, st1.map Stp.key = (stL lay).map (stK lay) → z ∈ st1 → ∃ i' j', lay[i']? = some z.nm ∧ z.nm ≠ .non ∧ lay[j']? = some .non ∧ z.pl = j' ∧ z.lay = swapL lay i' j' := fun {st1 z} e hz => by
        have : z.key ∈ (stL lay).map (stK lay) := by rw [← e]; exact List.mem_map.mpr ⟨z, hz, rfl⟩
        obtain ⟨⟨i', j'⟩, hij, ek⟩ := List.mem_map.mp this
        obtain ⟨h1, h2, h3⟩ := mem_stL.mp hij
        unfold stK Stp.key at ek
        simp only [Prod.mk.injEq] at ek
        obtain ⟨e1, e2, e3⟩ := ek
        have hg : lay[i']? = some (lay.getD i' .non) := by rw [List.getD_eq_getElem?_getD, List.getElem?_eq_getElem h1]; rfl
        rw [e1] at hg
        exact ⟨i', j', hg, fun z => h2 (z ▸ hg), h3, e2.symm, e3.symm⟩
      refine ⟨_, rfl, x, _, dx, _, _, rfl, s2 _ _ hxl, T.clK, T.n_base, kfl_base _ _ _, _, rfl, st, b, s, lay, rfl, Sl.mono s2, o, hb0.same s2, L, fun st1 q H2 s3 hkey hq => ?_⟩
      obtain ⟨xs, hxs, hqx⟩ := hq
      have hz1 : xs.length = st1.length := by rw [hqx.length, List.length_map]
      have hz2 : st1.length ≤ 25 := by
        have e1 := congrArg List.length hkey
        rw [List.length_map, List.length_map] at e1
        have := stL_len lay
        have : lay.length * lay.length ≤ 5 * 5 := Nat.mul_le_mul (by omega) (by omega)
        omega
      have s23 := s2.trans s3
      refine ⟨q, rfl, ⟨xs, SqL.of hxs⟩, for_it (walk_list (xs := xs)) (fun j σ H' => ∃ v4 v5 v6, ∃ kv : List Ent, ∃ PF : List (List V × V), σ = [some (.ref x), some (.ref t), some (.ref f), some (.ref b), v4, v5, v6] ∧ Same B H' ∧ H' q = some (.lst xs) ∧ DqAll H' xs (st1.map Stp.D) ∧ H' f = some (DD P w f kv) ∧ KD H' kv ∧ NmOk s PF H' kv ∧ (dkeys kv).Nodup ∧ (∀ l, l ∈ dkeys kv ↔ ∃ y, (l, y) ∈ PF) ∧
          (∀ l y, (l, y) ∈ PF ↔ (∃ l0 ∈ (dkeys kvs).take i, Mv s l0 sn y l) ∨ ∃ z ∈ st1.take j, dd (edA s (lay.idxOf z.nm)) (edA s z.pl) = sn ∧ z.lay = l ∧ z.nm = y))
        ⟨_, _, _, kv, PF, rfl, s23, hxs, hqx, s3 _ _ hf2, kd2.same s3, nm2.mono (Tk.of s3), hn2, hk2, fun l y => by rw [hp2]; simp⟩ (fun i σ H' _ ⟨_, _, _, _, _, _, _, h, _⟩ => SqL.of h) ?_ ?_⟩
      · rintro j v σ H3 H3' hj ⟨v4, v5, v6, kv, PF, rfl, s3, hq3, hqx3, hf3, kd3, nm3, hn3, hk3, hp3⟩ ⟨rfl, hv⟩
        obtain ⟨dz, hdz, hvz⟩ := hqx3.get hv
        rw [List.getElem?_map] at hdz
        obtain ⟨z, hz, rfl⟩ := Option.map_eq_some_iff.mp hdz
        obtain ⟨i', j', g1, g2, g3, g4, g5⟩ := stm hkey (List.mem_of_getElem? hz)
        obtain ⟨c, hc, ec⟩ := (L.mem (List.mem_of_getElem? g1)).resolve_left g2
        have hfl : Cc.fl z.nm = true := by rw [ec]; rfl
        have ei : i' = lay.idxOf z.nm := by rw [ec] at g1 ⊢; exact idx_one (L.one o hc) g1
        have Lz : Lay s z.lay := by rw [g5]; exact L.swap (lt_of_get g1) (lt_of_get g3)
        obtain ⟨T3, u1, u2, u3, rfl, hT3, hu1, hu2, hu3⟩ := hvz.trip_inv
        obtain ⟨ts, w1, w2, rfl, hts, hw1, hw2⟩ := hu1.pair_inv
        obtain rfl := Dq.flat_inv hfl hw1
        obtain rfl := hw2.int_inv
        obtain rfl := hu2.int_inv
        obtain ⟨b6, rfl, hb6⟩ := hu3.eL_inv (Lz.fl o)
        have hkL : ∀ l ∈ dkeys kv, Lay s l := fun l hl => by
          obtain ⟨y, hy⟩ := (hk3 l).mp hl
          rcases (hp3 l y).mp hy with ⟨l0, hl0, m⟩ | ⟨z', hz', _, rfl, _⟩
          · exact m.lay o (h10 l0 (h6 ▸ List.mem_of_mem_take hl0))
          · obtain ⟨i2, j2, q1, q2, q3, q4, q5⟩ := stm hkey (List.mem_of_mem_take hz')
            rw [q5]
            exact L.swap (lt_of_get q1) (lt_of_get q3)
        have hzkv : kv.length ≤ 1024 := by rw [← dkeys_len]; exact lays_few o hn3 hkL
        refine ⟨T3, _, rfl, hT3.seq, rfl, _, _, rfl, _, _, rfl, _, _, rfl, rfl, ?_⟩
        refine ⟨_, rfl, x, _, dx, _, _, rfl, s3 _ _ hxl, T.clK, T.n_base, kfl_base _ _ _, _, rfl, _, rfl, st, b, ts, s, lay, i', z.pl, z.nm, rfl, Sl.mono s3, o, hb0.same s3, L, hts, g1, g2, by rw [g4, ← hll]; exact lt_of_get g3, fun qd H4 s4 hqd => ?_⟩
        have s34 := s3.trans s4
        refine ⟨_, rfl, eI (dd (edA s i') (edA s z.pl)), eI sn, (Dq.eI hqd).dp, (Dq.eI (htl.same s34)).dp, shaped_eI _, shaped_eI _, _, rfl, ?_⟩
        rw [eqv_eI]
        have tkz : ∀ l y, (∃ z' ∈ st1.take (j + 1), dd (edA s (lay.idxOf z'.nm)) (edA s z'.pl) = sn ∧ z'.lay = l ∧ z'.nm = y) ↔ (∃ z' ∈ st1.take j, dd (edA s (lay.idxOf z'.nm)) (edA s z'.pl) = sn ∧ z'.lay = l ∧ z'.nm = y) ∨ (dd (edA s i') (edA s z.pl) = sn ∧ z.lay = l ∧ z.nm = y) := fun l y => by
          rw [take_snoc hz, ei]
          constructor
          · rintro ⟨z', hz', h⟩
            rcases List.mem_append.mp hz' with hz' | hz'
            · exact .inl ⟨z', hz', h⟩
            · rw [List.mem_singleton] at hz'
              exact .inr (hz' ▸ h)
          · rintro (⟨z', hz', h⟩ | h)
            · exact ⟨z', List.mem_append_left _ hz', h⟩
            · exact ⟨z, List.mem_append_right _ List.mem_cons_self, h⟩
        have hf4 := s4 _ _ hf3
        have kd4 := kd3.same s4
        have nm4 := nm3.mono (Tk.of s4)
        by_cases hd : dd (edA s i') (edA s z.pl) = sn
        · refine iteD hd ?_
          have hb64 := hb6.same s4
          refine ⟨_, rfl, ⟨f, kv, rfl, .inl hf4⟩, _, rfl, (by show 0 ≤ 1000000; decide), fun te0 H5 _ s5 hte0 => ⟨f, b6, kv, z.lay, rfl, rfl, .inl (s5 _ _ hf4), kd4.same s5, hb64.same s5, Lz.fl o, ?_⟩⟩
          have hv0 : ∃ t0, ((atD kv z.lay).map (·.2)).getD (.ref te0) = .ref t0 ∧ Tq H5 t0 ((nmF s PF z.lay).map V.str) := by
            cases ea : atD kv z.lay with
            | none =>
              refine ⟨te0, rfl, ?_⟩
              have hni := atD_none.mp ea
              have : nmF s PF z.lay = [] := by
                unfold nmF
                rw [List.filter_eq_nil_iff]
                intro c' _ hc'
                exact hni ((hk3 _).mpr ⟨_, of_decide_eq_true hc'⟩)
              rw [this]
              exact hte0
            | some cc =>
              obtain ⟨t0, e1, e2⟩ := nm4 _ (atD_some ea)
              exact ⟨t0, e1, e2.same s5⟩
          obtain ⟨t0, e0, ht0⟩ := hv0
          rw [e0]
          have hnl : (nmF s PF z.lay).length ≤ 3 := Nat.le_trans (List.length_filter_le _ _) o.len.2.1
          refine ⟨t0, _, rfl, .inl ht0.seq, _, rfl, ts, _, 0, _, rfl, rfl, ((hts.same s4).same s5).seq, rfl, sz_ok (by rw [List.length_append, List.length_map]; simp only [List.length_cons, List.length_nil]; omega), fun l1 hl1 => ?_⟩
          refine ⟨l1, (nmF s PF z.lay ++ [c]).map Sum.inr, rfl, .inl ?_, fun SL n1 n2 => ?_, fun sa SL hsa n1 n2 n3 => ?_⟩
          · have : ((nmF s PF z.lay ++ [c]).map Sum.inr : List Key).map kV = (nmF s PF z.lay).map V.str ++ [z.nm] := by
              rw [ec, List.map_append, List.map_append, List.map_map]; rfl
            rw [this]
            exact SqL.of upd_same
          · have := nd_len n1 n2
            rw [List.length_map, List.length_append] at this
            simp only [List.length_cons, List.length_nil] at this
            unfold PySem.scanBound
            omega
          obtain ⟨Lc, rfl⟩ := inr_keys fun k hk => by
            obtain ⟨c', _, e⟩ := List.mem_map.mp (n2 k hk)
            exact ⟨c', e.symm⟩
          have eS : ((Lc.map Sum.inr : List Key).map fun k => dV (kV k)) = Lc.map PyData.str := by rw [List.map_map]; rfl
          refine ⟨sa, _, rfl, upd_same, alike_strs1 (fun d hd => ?_), fun ds q5 H6 hds s6 hq5 => ?_⟩
          · rw [eS] at hd
            obtain ⟨c', _, e⟩ := List.mem_map.mp hd
            exact ⟨c', e.symm⟩
          rw [eS] at hds
          have hmem : ∀ c', c' ∈ Lc ↔ c' ∈ s.cs ∧ decide ((z.lay, V.str c') ∈ PF ++ [(z.lay, z.nm)]) = true := fun c' => by
            rw [← mem_inr, decide_eq_true_eq, List.mem_append, List.mem_singleton, Prod.mk.injEq]
            constructor
            · intro h
              have := mem_inr.mp (n2 _ h)
              rcases List.mem_append.mp this with h | h
              · unfold nmF at h
                obtain ⟨a1, a2⟩ := List.mem_filter.mp h
                exact ⟨a1, .inl (of_decide_eq_true a2)⟩
              · rw [List.mem_singleton] at h
                subst h
                exact ⟨hc, .inr ⟨rfl, ec.symm⟩⟩
            · rintro ⟨a1, a2 | ⟨_, a2⟩⟩
              · exact n3 _ (mem_inr.mpr (List.mem_append_left _ (List.mem_filter.mpr ⟨a1, decide_eq_true a2⟩)))
              · rw [ec] at a2
                injection a2 with a2
                exact n3 _ (mem_inr.mpr (List.mem_append_right _ (by rw [a2]; exact List.mem_cons_self)))
          have hsr := names_sorted' o hds (nd_inr.mp n1) hmem
          rw [hsr] at hq5
          refine ⟨q5, _, rfl, SqL.of hq5.strs, fun tn H7 _ s7 htn => ?_⟩
          have s47 : Same H4 H7 := ((s5.trans (Same.new hl1)).trans (Same.new hsa)).trans (s6.trans s7)
          have hf7 := s47 _ _ hf4
          refine ⟨_, rfl, _, rfl, f, b6, kv, z.lay, rfl, rfl, hf7, kd4.same s47, hb64.same s47, Lz.fl o, sz_lt (by omega), ?_⟩
          have tk7 : Tk H7 (upd H7 f (DD P w f (putD kv z.lay b6 (.ref tn)))) := Tk.upd (DD_not hf7)
          have s07 := s34.trans s47
          have s37 := s4.trans s47
          have nqf : q ≠ f := ne_of hq3 hf3 (by unfold DD; intro z; cases z)
          refine ⟨_, _, _, putD kv z.lay b6 (.ref tn), PF ++ [(z.lay, z.nm)], rfl, Same.mut s07 bd, by rw [upd_ne nqf]; exact s37 _ _ hq3, (hqx3.same s37).mono tk7, upd_same, ((kd4.same s47).put (hb64.same s47) (Lz.fl o)).mono tk7, fun e he2 => ?_, ?_, fun l => ?_, fun l y => ?_⟩
          · rcases putD_mem he2 with ⟨h1, h2⟩ | ⟨h1, h2⟩
            · exact ⟨tn, h2, tk7 _ _ (by rw [h1]; exact htn)⟩
            · obtain ⟨b', e1, e2⟩ := nm4 e h1
              exact ⟨b', e1, tk7 _ _ (by rw [nmF_other h2]; exact e2.same s47)⟩
          · rw [putD_keys]
            by_cases hm : z.lay ∈ dkeys kv
            · rw [if_pos hm]; exact hn3
            · rw [if_neg hm]
              refine List.nodup_append.mpr ⟨hn3, by simp, fun a ha b hb => ?_⟩
              rintro rfl
              rw [List.mem_singleton] at hb
              exact hm (hb ▸ ha)
          · rw [putD_keys]
            have : (∃ y, (l, y) ∈ PF ++ [(z.lay, z.nm)]) ↔ (∃ y, (l, y) ∈ PF) ∨ l = z.lay := by
              constructor
              · rintro ⟨y, hy⟩
                rcases List.mem_append.mp hy with hy | hy
                · exact .inl ⟨y, hy⟩
                · rw [List.mem_singleton, Prod.mk.injEq] at hy
                  exact .inr hy.1
              · rintro (⟨y, hy⟩ | rfl)
                · exact ⟨y, List.mem_append_left _ hy⟩
                · exact ⟨z.nm, List.mem_append_right _ List.mem_cons_self⟩
            rw [this, ← hk3]
            by_cases hm : z.lay ∈ dkeys kv
            · rw [if_pos hm]
              exact ⟨.inl, fun h => h.elim id fun h => h ▸ hm⟩
            · rw [if_neg hm, List.mem_append, List.mem_singleton]
          · rw [List.mem_append, List.mem_singleton, Prod.mk.injEq, hp3, tkz, or_assoc]
            refine or_congr_right (or_congr_right ⟨fun ⟨h1, h2⟩ => ⟨hd, h1.symm, h2.symm⟩, fun ⟨_, h1, h2⟩ => ⟨h1.symm, h2.symm⟩⟩)
        · refine iteDn hd ⟨_, _, _, kv, PF, rfl, s34, s4 _ _ hq3, hqx3.same s4, hf4, kd4, nm4, hn3, hk3, fun l y => ?_⟩
          rw [hp3, tkz]
          exact or_congr_right ⟨.inl, fun h => h.elim id fun h => absurd h.1 hd⟩
      · rintro σ H3 ⟨v4, v5, v6, kv, PF, rfl, s3, hq3, hqx3, hf3, kd3, nm3, hn3, hk3, hp3⟩
        refine ⟨_, _, _, _, kv, PF, rfl, s3, hf3, kd3, nm3, hn3, hk3, fun l y => ?_⟩
        rw [hp3, take_snoc he', hz1, List.take_length]
        constructor
        · rintro (⟨l0, hl0, m⟩ | ⟨z, hz, h1, h2, h3⟩)
          · exact ⟨l0, List.mem_append_left _ hl0, m⟩
          · obtain ⟨i', j', g1, g2, g3, g4, g5⟩ := stm hkey hz
            obtain ⟨c, hc, ec⟩ := (L.mem (List.mem_of_getElem? g1)).resolve_left g2
            have ei : i' = lay.idxOf z.nm := by rw [ec] at g1 ⊢; exact idx_one (L.one o hc) g1
            refine ⟨lay, List.mem_append_right _ List.mem_cons_self, i', j', by rw [← h3]; exact g1, by rw [← h3]; exact g2, g3, ?_, by rw [← h2]; exact g5⟩
            rw [← h1, ← ei, g4]
        · rintro ⟨l0, hl0, m⟩
          rcases List.mem_append.mp hl0 with hl0 | hl0
          · exact .inl ⟨l0, hl0, m⟩
          · rw [List.mem_singleton] at hl0
            subst hl0
            obtain ⟨i', j', g1, g2, g3, g4, g5⟩ := m
            have hij : (i', j') ∈ stL l0 := mem_stL.mpr ⟨lt_of_get g1, fun z => g2 (by rw [g1] at z; exact Option.some.inj z), g3⟩
            have : stK l0 (i', j') ∈ st1.map Stp.key := by rw [hkey]; exact List.mem_map.mpr ⟨_, hij, rfl⟩
            obtain ⟨z, hz, ez⟩ := List.mem_map.mp this
            unfold stK Stp.key at ez
            simp only [Prod.mk.injEq] at ez
            obtain ⟨a1, a2, a3⟩ := ez
            have hg : l0.getD i' .non = y := by rw [List.getD_eq_getElem?_getD, g1]; rfl
            rw [hg] at a1
            obtain ⟨c, hc, ec⟩ := (L.mem (List.mem_of_getElem? g1)).resolve_left g2
            have ei : i' = l0.idxOf y := by rw [ec] at g1 ⊢; exact idx_one (L.one o hc) g1
            exact .inr ⟨z, hz, by rw [a1, a2, ← ei, g4], by rw [a3, g5], a1⟩
    · rintro σ H3 ⟨v3, v4, v5, v6, kv, PF, rfl, s2, hf2, kd2, nm2, hn2, hk2, hp2⟩
      have hm3 := s2 _ _ hdl
      refine ⟨hm3, ?_⟩
      rw [← dkeys_len, List.take_length, h6] at hp2
      have tk3 : Tk H3 (upd H3 mv (DD P w mv kvs)) := Tk.unlock hm3
      have s4 := s0.trans (sB s2)
      have hd4 : (upd H3 mv (DD P w mv kvs)) f = some (DD P w f kv) := by rw [upd_ne nfm.symm]; exact hf2
      have kd4 := kd2.mono tk3
      have nm4 := nm2.mono tk3
      have hx4 := s4 _ _ h1
      have S4 := h2.mono s4
      have a4 := h8.mono s4
      have nsD : st ≠ f := (h2.mono s0).ne hf
      have ht4 := ht.same s4
      revert s4 hd4 kd4 nm4 hx4 S4 a4 ht4
      generalize upd H3 mv (DD P w mv kvs) = H4
      intro s4 hd4 kd4 nm4 hx4 S4 a4 ht4
      refine ⟨_, rfl, x, dx, _, rfl, hx4, kfl_no _ _ _ (by decide +kernel) (by decide +kernel) (by decide +kernel), _, rfl, (by show 2 ≤ 1000000; decide), fun q H5 _ s5 hq5 => ⟨_, rfl, ?_⟩⟩
      have hne : kv ≠ [] := fun z => by
        have : l01 ∈ dkeys kv := (hk2 _).mpr ⟨y00, (hp2 _ _).mpr ⟨l00, hl00, hmv00⟩⟩
        rw [z] at this
        cases this
      refine ⟨x, dx, st, mv, ac, f, .ref q, sawD sn, told, kv, rfl, s5 _ _ hx4, a4.mono s5, hlen, Dq.pair hq5 (.str _) (Dq.eI (ht4.same s5)), s5 _ _ hd4, kd4.same s5, hne, fun H6 sx6 hx6 ha6 => ?_⟩
      have hL : ∀ l ∈ dkeys kv, Lay s l := fun l hl => by
        obtain ⟨y, hy⟩ := (hk2 l).mp hl
        obtain ⟨l0, hl0, m⟩ := (hp2 l y).mp hy
        exact m.lay o (h10 l0 hl0)
      have := keeper_end (s5 _ _ hx4) (S4.mono s5) (a4.mono s5) (s5 _ _ hd4) (kd4.same s5) (nm4.mono (Tk.of s5)) rfl hn2 hL nsD sx6 hx6 ha6
      have kk := k H6 f (dkeys kv) PF ((Sx.of (s4.trans s5)).trans sx6) this hk2 hp2
      rw [dkeys_len] at kk
      exact kk
end
end Cc

end

section
set_option Elab.async false
set_option linter.all false
set_option maxRecDepth 100000
set_option maxHeartbeats 8000000
set_option pp.maxSteps 1200
set_option pp.proofs false
namespace Cc
open PySem PySem.Spec L2

/-! ### the law's own defs: draws -/
def RowAt (H : Hp) (r q : Addr) : Prop := ∃ i s c : Int, H r = some (.lst [.ref q, .int i, .int s, .int c]) ∧ 0 ≤ i ∧ 0 ≤ s ∧ s < 2147483647 ∧ 0 ≤ c
theorem SqL.upd {K : PySem.W.Frag} {H : Hp} {r q : Addr} {xs : List Int} {ys : List V} {o : HO} (h : SqL K H q (xs.map V.int)) (hr : H r = some (.lst (.ref q :: ys))) : SqL K (L2.upd H r o) q (xs.map V.int) := by
  rcases h with h | h
  · have nq : q ≠ r := by
      rintro rfl
      rcases h with h | ⟨o', h⟩
      · rw [hr] at h
        injection h with h
        injection h with h
        cases xs with
        | nil => cases h
        | cons x xs => injection h with h; cases h
      · rw [hr] at h
        injection h with h
        cases h
    refine .inl (h.imp (fun h => ?_) fun ⟨o', h⟩ => ⟨o', ?_⟩)
    · rw [upd_ne nq]; exact h
    · rw [upd_ne nq]; exact h
  · exact .inr h
theorem r_cell {K : PySem.W.Frag} {H : Hp} {r : Addr} {xs : List V} {k : Int} {v : V} {Q : VK} (h : H r = some (.lst xs)) (e : atI xs k = some v) (q : Q v H) : rIxL K (.ref r) (.int k) H Q := ⟨r, xs, k, v, rfl, rfl, SqL.of h, e, q⟩
theorem Sx.up {H H' : Hp} {r : Addr} {o : HO} (h : Sx [r] H H') : Sx [r] H (upd H' r o) := fun b u hb hu => by
  rw [upd_ne (by simpa using hb)]
  exact h b u hb hu
theorem Sx.refl' {xs : List Addr} {H : Hp} : Sx xs H H := fun _ _ _ h => h
def sp_law_taken (K : PySem.W.Frag) (a : Ad) : Sp := fun vs H Q _ => ∃ (r q : Addr) (m : Nat) (xs : List Int), vs = [.ref r, .int (m : Int)] ∧ RowAt H r q ∧ SqL K H q (xs.map V.int) ∧ xs.length ≤ 1000 ∧ 1 ≤ m ∧ m ≤ 1000000 ∧
  ∀ (v : Nat) H', v < m → Sx [r] H H' → RowAt H' r q → Q (.int (v : Int)) H'
section
variable {P : Program} {w : World} {K : PySem.W.Frag} {mg : Str → Option Value} {base : Heap} {a : Ad}
theorem ok_law_taken (T : Txt K mg a) : FnOk P w K mg base CX0 1 a.f_law_taken a.d_law_taken ["_law_row", "_law_many"] (sp_law_taken K a) := by
  refine T.F_law_taken.ok sc_law_taken (fun vs H Q E h => ?_) (fun cdv A outer s H vs Q E hr h => ?_)
  · obtain ⟨r, q, m, xs, rfl, ⟨i, s, c, hr0, hi, hs, hs2, hc⟩, hq, hlen, hm, hm2, k⟩ := h; rfl
  · obtain ⟨r, q, m, xs, rfl, ⟨i, s, c, hr0, hi, hs, hs2, hc⟩, hq, hlen, hm, hm2, k⟩ := h
    have hu := hr.units
    refine ⟨_, (pss_cons (ps_if (pt_cmpR op_gt (pe_ix (ix_listK K) (pv 0) pe_int (by intro _ _; rfl)) pe_int (nomark _)) (pss_cons (ps_set (i := 2) sc_law_taken.nd rfl (by first | exact Or.inl rfl | exact Or.inr rfl) (pe_op op_mod (pe_callTy call_int1 (by rfl) T.z_int (by decide +kernel) (pa_cons (pe_ix (ix_listK K) (pv 0) pe_int (by intro _ _; rfl)) pa_nil)) (pv 1)))
       (pss_cons (ps_asg (pe_op op_fdiv (pe_ix (ix_listK K) (pv 0) pe_int (by intro _ _; rfl)) (pv 1)) (pg_sub (pv 0) pe_int set_list))
       (pss_one (ps_ret (pv 2))))) pss_nil)
       (pss_cons (ps_asg (pe_op op_add (pe_ix (ix_listK K) (pv 0) pe_int (by intro _ _; rfl)) pe_int) (pg_sub (pv 0) pe_int set_list))
       (pss_cons (ps_if (pt_cmpR op_gt (pe_ix (ix_listK K) (pv 0) pe_int (by intro _ _; rfl)) (pe_callB (call_len_seqK K) (by rfl) T.z_len (by decide +kernel) (pa_cons (pe_ix (ix_listK K) (pv 0) pe_int (by intro _ _; rfl)) pa_nil)) (nomark _)) (pss_cons (ps_asg (pe_op op_mod (pe_callTy call_int1 (by rfl) T.z_int (by decide +kernel) (pa_cons (pe_op op_add (pe_op op_mul (pe_ix (ix_listK K) (pv 0) pe_int (by intro _ _; rfl)) pe_int) pe_int) pa_nil)) pe_int) (pg_sub (pv 0) pe_int set_list))
       (pss_one (ps_ret (pe_op op_mod (pe_callTy call_int1 (by rfl) T.z_int (by decide +kernel) (pa_cons (pe_op op_fdiv (pe_ix (ix_listK K) (pv 0) pe_int (by intro _ _; rfl)) pe_int) pa_nil)) (pv 1))))) pss_nil)
       (pss_cons (ps_set (i := 3) sc_law_taken.nd rfl (by first | exact Or.inl rfl | exact Or.inr rfl) (pe_ix (ix_listK K) (pe_ix (ix_listK K) (pv 0) pe_int (by intro _ _; rfl)) (pe_op op_sub (pe_ix (ix_listK K) (pv 0) pe_int (by intro _ _; rfl)) pe_int) (by intro _ _; rfl)))
       (pss_cons (ps_asg (pe_op op_mod (pe_callTy call_int1 (by rfl) T.z_int (by decide +kernel) (pa_cons (pe_op op_add (pe_op op_add (pe_op op_mul (pe_ix (ix_listK K) (pv 0) pe_int (by intro _ _; rfl)) pe_int) (pv 3)) pe_int) pa_nil)) pe_int) (pg_sub (pv 0) pe_int set_list))
       (pss_cons (ps_asg (pe_ifExp (pt_cmpR op_ge (pv 3) (pe_op op_pow pe_int pe_int) (nomark _)) (pe_op op_fdiv (pv 3) (pv 1)) pe_int) (pg_sub (pv 0) pe_int set_list))
       (pss_one (ps_ret (pe_op op_mod (pe_callTy call_int1 (by rfl) T.z_int (by decide +kernel) (pa_cons (pv 3) pa_nil)) (pv 1)))))))))), ?_⟩
    have kq : ∀ (z : Int) H', Sx [r] H H' → RowAt H' r q → Q (.int (z % (m : Int))) H' := fun z H' s1 hr1 => by
      have h1 := Int.emod_nonneg z (show (m : Int) ≠ 0 by omega)
      have h2 := Int.emod_lt_of_pos z (show (0 : Int) < (m : Int) by omega)
      have := k (z % (m : Int)).toNat H' (by omega) s1 hr1
      rw [show (((z % (m : Int)).toNat : Nat) : Int) = z % (m : Int) by omega] at this
      exact this
    refine ⟨_, rfl, _, _, _, _, rfl, rfl, SqL.of hr0, rfl, ?_⟩
    refine ⟨_, _, rfl, rfl, _, rfl, ?_⟩
    refine ite2 (fun e => ?_) (fun e => ?_)
    · have e := of_decide_eq_true e
      refine ⟨_, rfl, _, _, _, _, rfl, rfl, SqL.of hr0, rfl, .inl ⟨_, rfl, _, rfl, _, _, rfl, rfl, (by show (0 : Int) < (m : Int); omega), ?_⟩⟩
      refine ⟨_, rfl, _, _, _, _, rfl, rfl, SqL.of hr0, rfl, _, rfl, _, _, rfl, rfl, ⟨by omega, by omega⟩, _, rfl, r, _, _, _, rfl, rfl, hr0, rfl, ?_⟩
      refine ⟨_, rfl, ?_⟩
      exact kq c _ (Sx.up Sx.refl') ⟨i, s, _, upd_same, hi, hs, hs2, Int.ediv_nonneg hc (by omega)⟩
    · refine ⟨_, rfl, _, _, _, _, rfl, rfl, SqL.of hr0, rfl, _, _, rfl, rfl, _, rfl, r, _, _, _, rfl, rfl, hr0, rfl, ?_⟩
      have hr1 : (upd H r (.lst [.ref q, .int (i + 1), .int s, .int c])) r = some (.lst [.ref q, .int (i + 1), .int s, .int c]) := upd_same
      have hq1 : SqL K (upd H r (.lst [.ref q, .int (i + 1), .int s, .int c])) q (xs.map V.int) := SqL.upd hq hr0
      have s1 : Sx [r] H (upd H r (.lst [.ref q, .int (i + 1), .int s, .int c])) := Sx.up Sx.refl'
      refine cast_hp (show _ = upd H r (.lst [.ref q, .int (i + 1), .int s, .int c]) from rfl) ?_
      revert hr1 hq1 s1
      generalize upd H r (.lst [.ref q, .int (i + 1), .int s, .int c]) = H1
      intro hr1 hq1 s1
      refine ⟨_, rfl, _, _, _, _, rfl, rfl, SqL.of hr1, rfl, ?_⟩
      refine ⟨_, rfl, _, _, _, _, rfl, rfl, SqL.of hr1, rfl, q, _, rfl, .inl hq1, _, _, rfl, rfl, _, rfl, ?_⟩
      refine ite2 (fun e1 => ?_) (fun e1 => ?_)
      · refine ⟨_, rfl, _, _, _, _, rfl, rfl, SqL.of hr1, rfl, _, _, rfl, rfl, .inl ⟨by omega, by omega⟩, _, _, rfl, rfl, .inl ⟨_, rfl, _, _, rfl, rfl, (by show (0 : Int) < 2147483647; decide), _, rfl, r, _, _, _, rfl, rfl, hr1, rfl, ?_⟩⟩
        have h1 := Int.emod_nonneg (s * 48271 + 11) (show (2147483647 : Int) ≠ 0 by decide)
        have h2 := Int.emod_lt_of_pos (s * 48271 + 11) (show (0 : Int) < 2147483647 by decide)
        refine ⟨_, rfl, _, _, _, _, rfl, rfl, SqL.of upd_same, rfl, _, _, rfl, rfl, ⟨by decide, by decide⟩, .inl ⟨_, rfl, _, rfl, _, _, rfl, rfl, (by show (0 : Int) < (m : Int); omega), ?_⟩⟩
        exact kq _ _ (Sx.up s1) ⟨_, _, c, upd_same, by omega, h1, h2, hc⟩
      · have e1 : ¬ (((xs.map V.int).length : Int) < i + 1) := fun z => e1 (decide_eq_true z)
        rw [List.length_map] at e1
        obtain ⟨n, rfl⟩ : ∃ n : Nat, i = (n : Int) := ⟨i.toNat, by omega⟩
        have hn : n < xs.length := by omega
        have hg : (xs.map V.int)[n]? = some (.int xs[n]) := by rw [List.getElem?_map, List.getElem?_eq_getElem hn]; rfl
        refine ⟨_, rfl, _, _, _, _, rfl, rfl, SqL.of hr1, rfl, _, rfl, _, _, _, _, rfl, rfl, SqL.of hr1, rfl, _, _, rfl, rfl, q, _, (n : Int), _, rfl, (by show V.int ((n : Int) + 1 - 1) = _; rw [show (n : Int) + 1 - 1 = n by omega]), hq1, atI_nat hg, ?_⟩
        generalize xs[n] = z
        refine ⟨_, rfl, _, _, _, _, rfl, rfl, SqL.of hr1, rfl, _, _, rfl, rfl, .inl ⟨by omega, by omega⟩, _, rfl, _, _, rfl, rfl, _, _, rfl, rfl, .inl ⟨_, rfl, _, _, rfl, rfl, (by show (0 : Int) < 2147483647; decide), _, rfl, r, _, _, _, rfl, rfl, hr1, rfl, ?_⟩⟩
        have h1 := Int.emod_nonneg (s * 48271 + z + 11) (show (2147483647 : Int) ≠ 0 by decide)
        have h2 := Int.emod_lt_of_pos (s * 48271 + z + 11) (show (0 : Int) < 2147483647 by decide)
        refine ⟨_, rfl, _, _, rfl, rfl, ⟨by decide, by decide, by decide⟩, _, _, rfl, rfl, _, rfl, ?_⟩
        refine ite2 (fun e2 => ?_) (fun e2 => ?_)
        · have e2 := of_decide_eq_true e2
          have e3 : (10 : Int) ^ (18 : Int).toNat = 1000000000000000000 := by decide
          rw [e3] at e2
          refine ⟨_, rfl, _, rfl, _, _, rfl, rfl, ⟨by omega, by omega⟩, _, rfl, r, _, _, _, rfl, rfl, upd_same, rfl, ?_⟩
          refine ⟨_, rfl, .inl ⟨_, rfl, _, rfl, _, _, rfl, rfl, (by show (0 : Int) < (m : Int); omega), ?_⟩⟩
          exact kq _ _ (Sx.up (Sx.up s1)) ⟨_, _, _, upd_same, by omega, h1, h2, Int.ediv_nonneg (by omega) (by omega)⟩
        · refine ⟨_, rfl, r, _, _, _, rfl, rfl, upd_same, rfl, ?_⟩
          refine ⟨_, rfl, .inl ⟨_, rfl, _, rfl, _, _, rfl, rfl, (by show (0 : Int) < (m : Int); omega), ?_⟩⟩
          exact kq _ _ (Sx.up (Sx.up s1)) ⟨_, _, 0, upd_same, by omega, h1, h2, by omega⟩
end
end Cc

end

section
set_option Elab.async false
set_option linter.all false
set_option maxRecDepth 100000
set_option maxHeartbeats 8000000
set_option pp.maxSteps 1200
set_option pp.proofs false
namespace Cc
open PySem PySem.Spec L2

def sp_law_pick (K : PySem.W.Frag) (a : Ad) : Sp := fun vs H Q _ => ∃ (r q p : Addr) (xs : List Int) (ys : List V), vs = [.ref r, .ref p] ∧ RowAt H r q ∧ SqL K H q (xs.map V.int) ∧ xs.length ≤ 1000 ∧ H p = some (.lst ys) ∧ p ≠ r ∧ ys ≠ [] ∧ ys.length ≤ 1000000 ∧
  ∀ (v : V) (i : Nat) H', ys[i]? = some v → Sx [r] H H' → RowAt H' r q → Q v H'
def sp_law_scheme (K : PySem.W.Frag) (a : Ad) : Sp := fun vs H Q _ => ∃ (r q : Addr) (xs : List Int), vs = [.ref r, .int 5, .int 3] ∧ RowAt H r q ∧ SqL K H q (xs.map V.int) ∧ xs.length ≤ 1000 ∧
  ∀ (s : Sc) (v : V) H', s.Ok → Dq H' v (.tuple [s.dD, s.cD]) → Sx [r] H H' → RowAt H' r q → Q v H'
theorem RowAt.same {H H' : Hp} {r q : Addr} (h : RowAt H r q) (e : Same H H') : RowAt H' r q := by
  obtain ⟨i, s, c, h1, h2⟩ := h
  exact ⟨i, s, c, e _ _ h1, h2⟩
theorem SqL.sx {K : PySem.W.Frag} {H H' : Hp} {r q : Addr} {xs : List Int} (h : SqL K H q (xs.map V.int)) (hr : RowAt H r q) (e : Sx [r] H H') : SqL K H' q (xs.map V.int) := by
  obtain ⟨_, _, _, hr, _⟩ := hr
  rcases h with h | h
  · have nq : q ≠ r := by
      rintro rfl
      rcases h with h | ⟨o', h⟩
      · rw [hr] at h
        injection h with h
        injection h with h
        cases xs with
        | nil => cases h
        | cons x xs => injection h with h; cases h
      · rw [hr] at h
        injection h with h
        cases h
    have nq' : q ∉ [r] := by simpa using nq
    exact .inl (h.imp (fun h => e _ _ nq' h) fun ⟨o', h⟩ => ⟨o', e _ _ nq' h⟩)
  · exact .inr h
theorem RowAt.ntup {H : Hp} {r q : Addr} (h : RowAt H r q) : ∀ p ∈ [r], ∀ o ys, H p ≠ some (.frz o (.tup ys)) := fun p hp o ys e => by
  obtain ⟨i, s, c, h1, _⟩ := h
  rw [List.mem_singleton] at hp
  subst hp
  rw [h1] at e
  cases e
theorem RowAt.ne {H : Hp} {r q f : Addr} (h : RowAt H r q) (hf : H f = none) : f ≠ r := by
  rintro rfl
  obtain ⟨_, _, _, h, _⟩ := h
  rw [hf] at h
  cases h
theorem Ls.sx {H H' : Hp} {r q f : Addr} {ds : List PyData} (h : Ls H f ds) (hr : RowAt H r q) (e : Sx [r] H H') (n : f ≠ r) : Ls H' f ds := by
  obtain ⟨vs, h1, h2⟩ := h
  exact ⟨vs, e _ _ (by simpa using n) h1, h2.mono (e.tk hr.ntup)⟩
theorem while_z {c : TT} {tb : TS} {D : Ends} {σ : St} {H : Hp} (W : Nat → St → Hp → Prop) (Z : St → Hp → Prop) (h0 : ∃ m, W m σ H)
    (turn : ∀ B : St → Hp → Prop, (∀ σ H, Z σ H → B σ H) → ∀ m σ H, W m σ H → c σ H fun b H1 => if b = true then ∃ N : St → Hp → Prop, (∀ σ' H', N σ' H' → ∃ m', m' < m ∧ W m' σ' H') ∧ tb { D with nx := N, ct := N, bk := B } σ H1 else B σ H1)
    (hz : ∀ σ H, Z σ H → D.nx σ H) : tWhile c tb D σ H := ⟨W, h0, turn D.nx hz⟩
theorem Sx.mut {H H' : Hp} {r f : Addr} {o : HO} (e : Sx [r] H H') (h : H f = none) : Sx [r] H (upd H' f o) := fun b u hb hu => by
  have : b ≠ f := by rintro rfl; rw [h] at hu; cases hu
  rw [upd_ne this]
  exact e b u hb hu
def SchW (r q f : Addr) (xs : List Int) (H0 : Hp) (m : Nat) (σ : St) (H' : Hp) : Prop := ∃ (v5 v6 v7 : Option V) (ds : List (Int × Int)), σ = [some (.ref r), some (.int 5), some (.int 3), some (.ref f), some (.int (m : Int)), v5, v6, v7] ∧ Sx [r] H0 H' ∧ RowAt H' r q ∧
  Ls H' f (ds.map fun d => eI [d.1, d.2]) ∧ (∀ d ∈ ds, 1 ≤ d.1 ∧ d.1 ≤ 9 ∧ 1 ≤ d.2 ∧ d.2 ≤ 3) ∧ (ds.map (·.2)).sum + m ≤ 5 ∧ ds.length ≤ 4 ∧ (ds = [] → 1 ≤ m)
def SchZ (r q f : Addr) (xs : List Int) (H0 : Hp) (σ : St) (H' : Hp) : Prop := ∃ (v4 v5 v6 v7 : Option V) (ds : List (Int × Int)), σ = [some (.ref r), some (.int 5), some (.int 3), some (.ref f), v4, v5, v6, v7] ∧ Sx [r] H0 H' ∧ RowAt H' r q ∧
  Ls H' f (ds.map fun d => eI [d.1, d.2]) ∧ (∀ d ∈ ds, 1 ≤ d.1 ∧ d.1 ≤ 9 ∧ 1 ≤ d.2 ∧ d.2 ≤ 3) ∧ (ds.map (·.2)).sum ≤ 5 ∧ ds.length ≤ 4 ∧ ds ≠ []
section
variable {P : Program} {w : World} {K : PySem.W.Frag} {mg : Str → Option Value} {base : Heap} {a : Ad}
theorem ok_law_pick (T : Txt K mg a) : FnOk P w K mg base CX0 2 a.f_law_pick a.d_law_pick ["_law_row", "_law_some"] (sp_law_pick K a) := by
  refine T.F_law_pick.ok sc_law_pick (fun vs H Q E h => ?_) (fun cdv A outer s H vs Q E hr h => ?_)
  · obtain ⟨r, q, p, xs, ys, rfl, hr0, hq, hlen, hp, npr, hne, hz, k⟩ := h; rfl
  · obtain ⟨r, q, p, xs, ys, rfl, hr0, hq, hlen, hp, npr, hne, hz, k⟩ := h
    have hu := hr.units
    refine ⟨_, (pss_one (ps_ret (pe_ix (ix_listK K) (pv 1) (pe_call (ok_law_taken T) (hr.mono (by decide)) (by rfl) T.m_law_taken T.F_law_taken.kp T.b_law_taken .nil pass0 (pa_cons (pv 0) (pa_cons (pe_callB (call_len_seqK K) (by rfl) T.z_len (by decide +kernel) (pa_cons (pv 1) pa_nil)) pa_nil))) (by intro _ _; rfl)))), ?_⟩
    have hy : 1 ≤ ys.length := by cases ys with | nil => exact absurd rfl hne | cons => simp
    refine ⟨_, rfl, _, rfl, _, rfl, ⟨p, ys, rfl, .inl (SqL.of hp), r, q, ys.length, xs, rfl, hr0, hq, hlen, hy, hz, fun v H1 hv s1 hr1 => ?_⟩⟩
    have hg : ys[v]? = some ys[v] := List.getElem?_eq_getElem hv
    exact ⟨p, ys, _, _, rfl, rfl, SqL.of (s1 _ _ (by simpa using npr) hp), atI_nat hg, k _ v H1 hg s1 hr1⟩
theorem ok_law_scheme (T : Txt K mg a) : FnOk P w K mg base CX0 2 a.f_law_scheme a.d_law_scheme ["_law_row", "_law_most", "_law_crates"] (sp_law_scheme K a) := by
  refine T.F_law_scheme.ok sc_law_scheme (fun vs H Q E h => ?_) (fun cdv A outer s H vs Q E hr h => ?_)
  · obtain ⟨r, q, xs, rfl, hr0, hq, hlen, k⟩ := h; rfl
  · obtain ⟨r, q, xs, rfl, hr0, hq, hlen, k⟩ := h
    have hu := hr.units
    refine ⟨_, (pss_cons (ps_par (i := 3) (j := 4) rfl sc_law_scheme.nd rfl rfl (by decide) rfl rfl (pa_cons (pe_lst pa_nil) (pa_cons (pe_op op_add pe_int (pe_call (ok_law_taken T) (hr.mono (by decide)) (by rfl) T.m_law_taken T.F_law_taken.kp T.b_law_taken .nil pass0 (pa_cons (pv 0) (pa_cons (pv 1) pa_nil)))) pa_nil)) (by rfl))
       (pss_cons (ps_while PassesOwn.never (pw_and (pt_cmpR op_gt (pv 4) pe_int (nomark _)) (pw_and1 (pt_cmpR op_lt (pe_callB (call_len_seqK K) (by rfl) T.z_len (by decide +kernel) (pa_cons (pv 3) pa_nil)) pe_int (nomark _)))).pt (pss_cons (ps_set (i := 5) sc_law_scheme.nd rfl (by first | exact Or.inl rfl | exact Or.inr rfl) (pe_callB (call_min2 rfl) (by rfl) T.z_min (by decide +kernel) (pa_cons (pv 4) (pa_cons (pe_op op_add pe_int (pe_call (ok_law_taken T) (hr.mono (by decide)) (by rfl) T.m_law_taken T.F_law_taken.kp T.b_law_taken .nil pass0 (pa_cons (pv 0) (pa_cons pe_int pa_nil)))) pa_nil))))
       (pss_cons (ps_expr (pe_bm PySem.F.plainAttrs_list PySem.F.slot_list_append PySem.F.type_list_append mt_append (pv 3) (pa_cons (pe_tupX (pa_cons (pe_op op_add pe_int (pe_call (ok_law_taken T) (hr.mono (by decide)) (by rfl) T.m_law_taken T.F_law_taken.kp T.b_law_taken .nil pass0 (pa_cons (pv 0) (pa_cons pe_int pa_nil)))) (pa_cons (pv 5) pa_nil))) pa_nil)))
       (pss_one (ps_set (i := 4) sc_law_scheme.nd rfl (by first | exact Or.inl rfl | exact Or.inr rfl) (pe_op op_sub (pv 4) (pv 5)))))))
       (pss_cons (ps_set (i := 6) sc_law_scheme.nd rfl (by first | exact Or.inl rfl | exact Or.inr rfl) (pe_callB (cr_sumK K rfl) (by rfl) T.z_sum (by decide +kernel) (pa_cons (pe_lc (own := [("_law_door", 7)]) (g := (gName 7)) rfl sc_law_scheme.nd (pi_list (pv 3)) (blkOk_by (own := [("_law_door", 7)]) (N := ["_law_row", "_law_most", "_law_crates", "_law_found", "_law_left", "_law_count", "_law_size", "_law_door"]) (sc := defScope s_law_scheme) (by decide +kernel))
       (fun _ _ _ _ _ => (pg_name (i := 7) sc_law_scheme.nd rfl (by first | exact Or.inl rfl | exact Or.inr rfl))) (fun _ _ _ _ _ => pts_nil) (fun _ _ _ _ _ => (pe_ix (ix_tupK K) (pv 7) pe_int (by intro _ _; rfl)))) pa_nil)))
       (pss_cons (ps_set (i := 5) sc_law_scheme.nd rfl (by first | exact Or.inl rfl | exact Or.inr rfl) (pe_callB (call_min2 rfl) (by rfl) T.z_min (by decide +kernel) (pa_cons (pe_op op_add pe_int (pe_call (ok_law_taken T) (hr.mono (by decide)) (by rfl) T.m_law_taken T.F_law_taken.kp T.b_law_taken .nil pass0 (pa_cons (pv 0) (pa_cons (pv 2) pa_nil)))) (pa_cons (pv 6) pa_nil))))
       (pss_one (ps_ret (pe_tupX (pa_cons (pe_callTy (cr_tupLK K) (by rfl) T.z_tuple (by decide +kernel) (pa_cons (pv 3) pa_nil)) (pa_cons (pe_callTy (cr_tupLK K) (by rfl) T.z_tuple (by decide +kernel) (pa_cons (pe_slice (sl_listK K) (pe_lst (pa_cons pe_str (pa_cons pe_str (pa_cons pe_str (pa_cons pe_str (pa_cons pe_str pa_nil)))))) po_none (po_some (pv 5))) pa_nil)) pa_nil))))))))), ?_⟩
    refine ⟨by decide, fun f hf => ?_⟩
    have nfr : f ≠ r := hr0.ne hf
    have s0 : Same H (upd H f (.lst [])) := Same.new hf
    refine ⟨_, rfl, _, rfl, r, q, 5, xs, rfl, hr0.same s0, s0.seq hq, hlen, by decide, by decide, fun v0 H1 hv0 s1 hr1 => ⟨_, _, rfl, rfl, _, _, rfl, ?_⟩⟩
    have s01 : Sx [r] H H1 := (Sx.of s0).trans s1
    have hf1 : H1 f = some (.lst []) := s1 _ _ (by simpa using nfr) upd_same
    refine r_seq (while_z (SchW r q f xs H) (SchZ r q f xs H) ⟨v0 + 1, none, none, none, [], (by rw [Int.natCast_add, Int.add_comm]; rfl), s01, hr1, ⟨[], hf1, .nil⟩, (fun d hd => nomatch hd), (by show (0 : Int) + ((v0 + 1 : Nat) : Int) ≤ 5; omega), Nat.zero_le _, fun _ => Nat.le_add_left 1 v0⟩ ?_ ?_)
    · rintro B hB m σ H2 ⟨v5, v6, v7, ds, rfl, s2, hr2, hl2, hb2, hs2, h42, hn2⟩
      obtain ⟨vs, hf2, hd2⟩ := id hl2
      have hz2 : vs.length = ds.length := by rw [hd2.length, List.length_map]
      have fin : (m = 0 ∨ 4 ≤ ds.length) → B [some (.ref r), some (.int 5), some (.int 3), some (.ref f), some (.int (m : Int)), v5, v6, v7] H2 := fun h => hB _ _ ⟨_, _, _, _, ds, rfl, s2, hr2, hl2, hb2, by omega, h42, fun z => by have := hn2 z; subst z; simp at h; omega⟩
      refine ⟨_, rfl, _, _, rfl, rfl, _, rfl, ?_⟩
      refine ite2 (fun e1 => ?_) (fun e1 => ?_)
      · refine ⟨_, rfl, f, vs, rfl, .inl (SqL.of hf2), _, _, rfl, rfl, _, rfl, ?_⟩
        refine ite2 (fun e2 => ?_) (fun e2 => ?_)
        · have e1 := of_decide_eq_true e1
          have e2 := of_decide_eq_true e2
          refine ⟨fun σ' H' => ∃ m', m' < m ∧ SchW r q f xs H m' σ' H', fun _ _ h => h, ?_⟩
          refine ⟨_, rfl, _, rfl, r, q, 3, xs, rfl, hr2, SqL.sx hq hr0 s2, hlen, by decide, by decide, fun v3 H3 hv3 s3 hr3 => ⟨_, _, rfl, rfl, _, _, rfl, ?_⟩⟩
          obtain ⟨cn, ecn, c1, c3, cm⟩ : ∃ cn : Nat, (if 1 + (v3 : Int) < (m : Int) then 1 + (v3 : Int) else m) = (cn : Int) ∧ 1 ≤ cn ∧ cn ≤ 3 ∧ cn ≤ m := by
            by_cases h : 1 + (v3 : Int) < (m : Int)
            · rw [if_pos h]; exact ⟨1 + v3, by omega, by omega, by omega, by omega⟩
            · rw [if_neg h]; exact ⟨m, rfl, by omega, by omega, by omega⟩
          rw [ecn]
          have hl3 := hl2.sx hr2 s3 nfr
          obtain ⟨vs3, hf3, hd3⟩ := id hl3
          refine ⟨_, rfl, .inl ⟨rfl, _, SqL.of hf3⟩, _, rfl, r, q, 9, xs, rfl, hr3, SqL.sx hq hr0 (s2.trans s3), hlen, by decide, by decide, fun v4 H4 hv4 s4 hr4 => ⟨_, _, rfl, rfl, _, rfl, (by show 2 ≤ 1000000; decide), fun t H5 _ s5 ht5 => ?_⟩⟩
          obtain ⟨vs4, hf4, hd4⟩ := (hl3.sx hr3 s4 nfr).mono s5
          have hz4 : vs4.length = ds.length := by rw [hd4.length, List.length_map]
          have hr5 := hr4.same s5
          refine ⟨f, vs4, _, rfl, rfl, hf4, sz_lt (by omega), ?_⟩
          refine ⟨_, rfl, _, rfl, _, _, rfl, rfl, m - cn, by omega, some (.int (cn : Int)), v6, v7, ds ++ [(1 + (v4 : Int), (cn : Int))], ?_, ?_, ?_, ?_, ?_, ?_, ?_, ?_⟩
          · rw [show ((m - cn : Nat) : Int) = (m : Int) - cn by omega]
            rfl
          · exact (((s2.trans s3).trans s4).trans (Sx.of s5)).mut hf
          · obtain ⟨i5, j5, k5, e5, b5⟩ := hr5
            exact ⟨i5, j5, k5, by rw [upd_ne nfr.symm]; exact e5, b5⟩
          · rw [List.map_append]
            exact Ls.push hf4 hd4 (Dq.eI (l := [1 + (v4 : Int), (cn : Int)]) ht5)
          · intro d hd
            rcases List.mem_append.mp hd with hd | hd
            · exact hb2 d hd
            · rw [List.mem_singleton] at hd
              subst hd
              refine ⟨?_, ?_, ?_, ?_⟩ <;> dsimp only <;> omega
          · rw [List.map_append, List.sum_append, List.map_cons, List.map_nil, List.sum_cons, List.sum_nil]
            dsimp only
            omega
          · rw [List.length_append]
            simp only [List.length_cons, List.length_nil]
            omega
          · intro z
            cases ds <;> cases z
        · exact fin (.inr (by have : ¬ ((vs.length : Int) < 4) := fun z => e2 (decide_eq_true z); omega))
      · exact fin (.inl (by have : ¬ ((0 : Int) < (m : Int)) := fun z => e1 (decide_eq_true z); omega))
    · rintro σ H2 ⟨v4, v5, v6, v7, ds, rfl, s2, hr2, hl2, hb2, hs2, h42, hne⟩
      dsimp only
      refine r_seq (r_asg (r_cb1 (lcL ds (fun d => eI [d.1, d.2]) (fun d => some (.int d.2)) (by omega) (fun R h => ⟨_, rfl, h f _ (Same.refl _) hl2⟩) (fun i d x H3 hi s3 hx => ?_) (fun D3 H3 s3 hl3 => ?_))))
      · obtain ⟨t, rfl, ht⟩ := hx.eI_inv
        exact turn_1 fun N h1 => ⟨_, rfl, t, _, _, _, rfl, rfl, ht.seq, rfl, h1 _ _ (Same.refl _) (.int _)⟩
      have e : ds.filterMap (fun d => some (PyData.int d.2)) = (ds.map (·.2)).map PyData.int := by simp
      rw [e] at hl3
      refine ⟨_, _, rfl, SqL.of hl3.ints, ?_⟩
      have s03 := s2.trans (Sx.of s3)
      have hr3 := hr2.same s3
      have hl23 := hl2.mono s3
      have hsum : 1 ≤ (ds.map (·.2)).sum := by
        cases ds with
        | nil => exact absurd rfl hne
        | cons d r =>
          have h1 := (hb2 d List.mem_cons_self).2.2.1
          have h2 : ∀ l : List (Int × Int), (∀ d ∈ l, 1 ≤ d.1 ∧ d.1 ≤ 9 ∧ 1 ≤ d.2 ∧ d.2 ≤ 3) → 0 ≤ (l.map (·.2)).sum := by
            intro l hl
            induction l with
            | nil => exact Int.le_refl 0
            | cons x l ih =>
              rw [List.map_cons, List.sum_cons]
              have := ih fun d hd => hl d (List.mem_cons_of_mem _ hd)
              have := (hl x List.mem_cons_self).2.2.1
              omega
          rw [List.map_cons, List.sum_cons]
          have := h2 r fun d hd => hb2 d (List.mem_cons_of_mem _ hd)
          omega
      refine ⟨_, rfl, _, rfl, r, q, 3, xs, rfl, hr3, SqL.sx hq hr0 s03, hlen, by decide, by decide, fun v3 H4 hv3 s4 hr4 => ⟨_, _, rfl, rfl, _, rfl, _, _, rfl, ?_⟩⟩
      have hl4 := hl23.sx hr3 s4 nfr
      obtain ⟨cn, ecn, c1, c3, cm⟩ : ∃ cn : Nat, (if (ds.map (·.2)).sum < 1 + (v3 : Int) then (ds.map (·.2)).sum else 1 + (v3 : Int)) = (cn : Int) ∧ 1 ≤ cn ∧ cn ≤ 3 ∧ (cn : Int) ≤ (ds.map (·.2)).sum := by
        by_cases h : (ds.map (·.2)).sum < 1 + (v3 : Int)
        · rw [if_pos h]; exact ⟨(ds.map fun d : Int × Int => d.2).sum.toNat, by omega, by omega, by omega, by omega⟩
        · rw [if_neg h]; exact ⟨1 + v3, by omega, by omega, by omega, by omega⟩
      rw [ecn]
      obtain ⟨vs4, hf4, hd4⟩ := hl4
      refine ⟨_, rfl, f, vs4, rfl, SqL.of hf4, fun t1 H5 _ s5 ht1 => ?_⟩
      refine ⟨by decide, fun l1 hl1 => ?_⟩
      refine ⟨_, rfl, _, rfl, l1, _, rfl, SqL.of upd_same, fun p hp => ?_⟩
      refine ⟨p, _, rfl, SqL.of upd_same, fun t2 H6 _ s6 ht2 => ?_⟩
      refine ⟨(by show 2 ≤ 1000000; decide), fun t3 H7 _ s7 ht3 => ?_⟩
      have e2 : cutV [V.str "fig", V.str "jam", V.str "kiwi", V.str "lime", V.str "plum"] none (some (cn : Int)) = (crN.take cn).map V.str := by
        have : cn = 1 ∨ cn = 2 ∨ cn = 3 := by omega
        rcases this with rfl | rfl | rfl <;> rfl
      rw [e2] at ht2
      have s57 := ((Same.new hl1).trans (Same.new hp)).trans (s6.trans s7)
      have hlen2 : ((edF 0 ds).length : Int) = (ds.map (·.2)).sum := edF_len ds 0 fun d hd => by have := hb2 d hd; omega
      refine k ⟨ds, crN.take cn⟩ (.ref t3) H7 ⟨?_, h42, hb2, ?_, cn, c1, c3, ?_, rfl⟩ (Dq.pair ht3 ?_ ?_) ?_ ?_
      · show 1 ≤ ds.length
        cases ds with | nil => exact absurd rfl hne | cons => simp
      · show (edF 0 ds).length ≤ 5
        omega
      · show cn ≤ (edF 0 ds).length
        omega
      · exact .tup (ht1.same s57) (hd4.same (s5.trans s57))
      · exact Dq.eL (ht2.same s7) (Sc.cv_fl ⟨ds, crN.take cn⟩)
      · exact (s03.trans s4).trans (Sx.of (s5.trans s57))
      · exact hr4.same (s5.trans s57)
end
end Cc

end

section
set_option Elab.async false
set_option linter.all false
set_option maxRecDepth 100000
set_option maxHeartbeats 8000000
set_option pp.maxSteps 1200
set_option pp.proofs false
namespace Cc
open PySem PySem.Spec L2

/-! ### the law's own defs: schemes, layouts -/
def Sc.sD (s : Sc) : PyData := .tuple [s.dD, s.cD]
/-- a scheme stands at v -/
theorem sD_inv {H : Hp} {v : V} {s : Sc} (h : Dq H v s.sD) : ∃ t d c ds, v = .ref t ∧ Tq H t [.ref d, .ref c] ∧ Tq H d ds ∧ DqAll H ds (s.ds.map fun d => eI [d.1, d.2]) ∧ Tq H c s.cv := by
  obtain ⟨t, u, v, rfl, ht, hu, hv⟩ := Dq.pair_inv h
  obtain ⟨d, ds, rfl, hd, hq⟩ := hu.tup_inv
  obtain ⟨c, rfl, hc⟩ := hv.eL_inv s.cv_fl
  exact ⟨t, d, c, ds, rfl, ht, hd, hq, hc⟩
def sp_law_store (a : Ad) : Sp := fun vs H Q _ => ∃ (v : V) (s : Sc), vs = [v] ∧ Dq H v s.sD ∧ s.Ok ∧ ∀ p H', H p = none → Same H H' → StoreAt a H' p s → Q (.ref p) H'
def sp_law_edges (a : Ad) : Sp := fun vs H Q _ => ∃ (v : V) (s : Sc), vs = [v] ∧ Dq H v s.sD ∧ s.Ok ∧ ∀ l H', Same H H' → H' l = some (.lst (s.ed.map V.int)) → Q (.ref l) H'
def sp_law_rank (a : Ad) : Sp := fun vs H Q _ => ∃ (b : Addr) (l : List V), vs = [.ref b] ∧ Tq H b l ∧ l.length ≤ 1000 ∧ (∀ x ∈ l, LV x) ∧ NewL H (l.map rk) Q
def sp_law_seen (a : Ad) : Sp := fun vs H Q _ => ∃ (v : V) (s : Sc) (b : Addr) (l : List V) (d : Int), vs = [v, .ref b, .int d] ∧ Dq H v s.sD ∧ s.Ok ∧ Tq H b l ∧ Lay s l ∧ NewL H (seenL s l d) Q
def sp_law_turned (a : Ad) : Sp := fun vs H Q _ => ∃ (b : Addr) (l : List V) (i j : Nat), vs = [.ref b, .int (i : Int), .int (j : Int)] ∧ Tq H b l ∧ i < l.length ∧ j < l.length ∧ NewL H (swapL l i j) Q
section
variable {P : Program} {w : World} {K : PySem.W.Frag} {mg : Str → Option Value} {base : Heap} {a : Ad}
theorem ok_law_store (T : Txt K mg a) : FnOk P w K mg base CX0 6 a.f_law_store a.d_law_store ["_law_s"] (sp_law_store a) := by
  refine T.F_law_store.ok sc_law_store (fun vs H Q E h => ?_) (fun cdv A outer s H vs Q E hr h => ?_)
  · obtain ⟨v, s, rfl, hs, o, k⟩ := h; rfl
  · obtain ⟨v, s, rfl, hs, o, k⟩ := h
    have hu := hr.units
    refine ⟨_, (pss_one (ps_ret (pe_make T.mkS (ok_Store_init T) (hr.mono (by decide)) (by rfl) T.mS T.b_Store_init .nil pass0 (pa_cons (pe_ix (ix_tupK K) (pv 0) pe_int (by intro _ _; rfl)) (pa_cons (pe_ix (ix_tupK K) (pv 0) pe_int (by intro _ _; rfl)) pa_nil))))), ?_⟩
    obtain ⟨t, u, v, rfl, ht, hu, hv⟩ := Dq.pair_inv hs
    obtain ⟨c, rfl, hc⟩ := hv.eL_inv s.cv_fl
    refine ⟨_, rfl, _, _, _, _, rfl, rfl, ht.seq, rfl, _, rfl, _, _, _, _, rfl, rfl, ht.seq, rfl, ?_⟩
    intro p dx hp hdx hne
    have s1 : Same H (upd (upd H dx (.own p)) p (.ins a.CS dx [])) := fun b o' e => by
      rw [upd_ne (ne_of_none e hp), upd_ne (ne_of_none e hdx)]
      exact e
    refine ⟨p, dx, c, u, s, rfl, upd_same, by rw [upd_ne hne, upd_same], hne, hu.same s1, hc.same s1, o, fun H' sx S => ⟨rfl, k p H' hp (fun b o' e => ?_) S⟩⟩
    refine sx b o' ?_ (s1 _ _ e)
    simp only [List.mem_cons, List.not_mem_nil, or_false, not_or]
    exact ⟨ne_of_none e hp, ne_of_none e hdx⟩
theorem ok_law_edges (T : Txt K mg a) : FnOk P w K mg base CX0 1 a.f_law_edges a.d_law_edges ["_law_s"] (sp_law_edges a) := by
  refine T.F_law_edges.ok sc_law_edges (fun vs H Q E h => ?_) (fun cdv A outer s H vs Q E hr h => ?_)
  · obtain ⟨v, s, rfl, hs, o, k⟩ := h; rfl
  · obtain ⟨v, s, rfl, hs, o, k⟩ := h
    have hu := hr.units
    refine ⟨_, (pss_cons (ps_set (i := 1) sc_law_edges.nd rfl (by first | exact Or.inl rfl | exact Or.inr rfl) (pe_lst pa_nil))
       (pss_cons (ps_for PassesOwn.never rfl (pi_range1 (by rfl) T.z_range (pa_cons (pe_callB (call_len_seqK K) (by rfl) T.z_len (by decide +kernel) (pa_cons (pe_ix (ix_tupK K) (pv 0) pe_int (by intro _ _; rfl)) pa_nil)) pa_nil)) (pg_name (i := 2) sc_law_edges.nd rfl (by first | exact Or.inl rfl | exact Or.inr rfl))
       (pss_one (ps_set (i := 1) sc_law_edges.nd rfl (by first | exact Or.inl rfl | exact Or.inr rfl) (pe_op op_cat (pv 1) (pe_op op_rep (pe_lst (pa_cons (pv 2) pa_nil)) (pe_ix (ix_tupK K) (pe_ix (ix_tupK K) (pe_ix (ix_tupK K) (pv 0) pe_int (by intro _ _; rfl)) (pv 2) (by intro _ _; rfl)) pe_int (by intro _ _; rfl)))))))
       (pss_one (ps_ret (pv 1))))), ?_⟩
    obtain ⟨t, d, c, ds, rfl, ht, hd, hq, hc⟩ := sD_inv hs
    have hl : ds.length = s.ds.length := by rw [hq.length, List.length_map]
    have h4 := o.d4
    have hsz : (edF 0 s.ds).length ≤ 5 := o.sz
    refine ⟨by decide, fun f hf => ?_⟩
    have s0 : Same H (upd H f (.lst [])) := Same.new hf
    refine ⟨_, rfl, _, _, _, _, rfl, rfl, (ht.same s0).seq, rfl, d, ds, rfl, .inr (hd.same s0).seq, (ds.length : Int), rfl, by omega, by omega, ?_⟩
    refine for_it walk_range (fun i σ H' => ∃ f v2, σ = [some (.ref t), some (.ref f), v2] ∧ Same H H' ∧ H' f = some (.lst ((edF 0 (s.ds.take i)).map V.int))) ⟨f, _, rfl, s0, upd_same⟩ (fun _ _ _ _ _ => trivial) ?_ ?_
    · rintro i x σ H1 H1' hi ⟨f1, v2, rfl, s1, hf1⟩ ⟨rfl, rfl⟩
      have hi' : i < s.ds.length := by omega
      have hz : s.ds[i]? = some s.ds[i] := List.getElem?_eq_getElem hi'
      obtain ⟨x, hx, hxd⟩ := hq.get' (d := eI [s.ds[i].1, s.ds[i].2]) (i := i) (by rw [List.getElem?_map, hz]; rfl)
      have hzl := hz
      revert hz hxd
      generalize s.ds[i] = z
      intro hz hxd
      obtain ⟨tx, rfl, htx⟩ := hxd.eI_inv
      have hb := o.dw z (List.mem_of_getElem? hz)
      refine ⟨_, rfl, _, rfl, (by show 1 ≤ sizeLine; decide), fun l1 h1 => ?_⟩
      have s2 : Same H (upd H1' l1 (.lst [.int (0 + (i : Int))])) := s1.trans (Same.new h1)
      refine ⟨_, rfl, _, _, _, _, rfl, rfl, (ht.same s2).seq, rfl, _, rfl, _, _, _, _, rfl, rfl, (hd.same s2).seq, (by rw [Int.zero_add]; exact atI_nat hx), _, _, _, _, rfl, rfl, (htx.same s2).seq, rfl, ?_⟩
      refine ⟨l1, z.2, _, rfl, rfl, upd_same, by omega, by omega, sz_ok (by simp only [List.length_singleton]; omega), fun l2 h2 => ?_⟩
      have ne1 : f1 ≠ l1 := ne_of_none hf1 h1
      have h2' : H1' l2 = none := by
        by_cases z : l2 = l1
        · rw [z]; exact h1
        · rw [upd_ne z] at h2; exact h2
      have ne2 : f1 ≠ l2 := ne_of_none hf1 h2'
      have hle : ∀ i, (edF 0 (s.ds.take i)).length ≤ (edF 0 s.ds).length := by
        have : ∀ (ds : List (Int × Int)) (k : Int) (i : Nat), (edF k (ds.take i)).length ≤ (edF k ds).length := by
          intro ds
          induction ds with
          | nil => intro k i; simp [edF]
          | cons d ds ih =>
            intro k i
            cases i with
            | zero => simp [edF]
            | succ i => rw [List.take_succ_cons, edF, edF, List.length_append, List.length_append]; have := ih (k + 1) i; omega
        exact this s.ds 0
      refine ⟨f1, l2, _, _, rfl, rfl, by rw [upd_ne ne2, upd_ne ne1]; exact hf1, upd_same, ?_, fun l3 h3 => ?_⟩
      · have := hle i
        refine sz_ok ?_
        rw [List.flatten_replicate_singleton, List.length_map, List.length_replicate]
        omega
      · refine ⟨l3, _, rfl, (s2.trans (Same.new h2)).trans (Same.new h3), ?_⟩
        rw [upd_same, edF_snoc s.ds 0 i z hz, List.map_append, List.flatten_replicate_singleton, List.map_replicate]
    · rintro σ H1 ⟨f1, v2, rfl, s1, hf1⟩
      rw [show ((ds.length : Int)).toNat = s.ds.length by omega, List.take_length] at hf1
      exact ⟨_, rfl, k f1 H1 s1 hf1⟩
theorem ok_law_rank (T : Txt K mg a) : FnOk P w K mg base CX0 1 a.f_law_rank a.d_law_rank ["_law_layout"] (sp_law_rank a) := by
  refine T.F_law_rank.ok sc_law_rank (fun vs H Q E h => ?_) (fun cdv A outer s H vs Q E hr h => ?_)
  · obtain ⟨b, l, rfl, hl, hlen, hf, k⟩ := h; rfl
  · obtain ⟨b, l, rfl, hl, hlen, hf, k⟩ := h
    have hu := hr.units
    refine ⟨_, (pss_one (ps_ret (pe_callTy (cr_tupLK K) (by rfl) T.z_tuple (by decide +kernel) (pa_cons (pe_lc (own := [("_law_name", 1)]) (g := (gName 1)) rfl sc_law_rank.nd (pi_tup (pv 0)) (blkOk_by (own := [("_law_name", 1)]) (N := ["_law_layout", "_law_name"]) (sc := defScope s_law_rank) (by decide +kernel))
       (fun _ _ _ _ _ => (pg_name (i := 1) sc_law_rank.nd rfl (by first | exact Or.inl rfl | exact Or.inr rfl))) (fun _ _ _ _ _ => pts_nil) (fun _ _ _ _ _ => (pe_ifExp (pt_cmp (pc_notN (pv 1))) (pv 1) pe_str))) pa_nil)))), ?_⟩
    refine r_ret (r_cb1 (lcTf (fun x => some (dV (rk x))) (by omega) (fun R h => ⟨_, rfl, h H (Same.refl H)⟩) hl (fun i x H1 hx s1 => ?_) (fun D H1 s1 hD => ?_)))
    · refine turn_1 fun N h1 => ⟨_, rfl, _, rfl, ?_⟩
      have hLV := hf x (List.mem_of_getElem? hx)
      refine ite2 (fun e => ?_) (fun e => ?_)
      · have e : x ≠ .non := by simpa using e
        refine ⟨_, rfl, h1 _ _ (Same.refl _) ?_⟩
        have : rk x = x := by unfold rk; rw [if_neg e]
        rw [this]
        exact Dq.flat hLV.fl
      · have e : x = .non := by simpa using e
        subst e
        exact h1 _ _ (Same.refl _) (Dq.flat rfl)
    · have e : l.filterMap (fun x => some (dV (rk x))) = (l.map rk).map dV := by simp
      rw [e] at hD
      exact ⟨_, _, rfl, SqL.of (hD.flat (List.all_eq_true.mpr fun x hx => by obtain ⟨y, hy, rfl⟩ := List.mem_map.mp hx; exact rk_fl (hf y hy))), fun p H2 _ s2 ht => k p H2 (s1.trans s2) ht⟩
theorem ok_law_seen (T : Txt K mg a) : FnOk P w K mg base CX0 2 a.f_law_seen a.d_law_seen ["_law_s", "_law_layout", "_law_door"] (sp_law_seen a) := by
  refine T.F_law_seen.ok sc_law_seen (fun vs H Q E h => ?_) (fun cdv A outer s H vs Q E hr h => ?_)
  · obtain ⟨v, s, b, l, d, rfl, hs, o, hb, L, k⟩ := h; rfl
  · obtain ⟨v, s, b, l, d, rfl, hs, o, hb, L, k⟩ := h
    have hu := hr.units
    refine ⟨_, (pss_cons (ps_set (i := 3) sc_law_seen.nd rfl (by first | exact Or.inl rfl | exact Or.inr rfl) (pe_call (ok_law_edges T) (hr.mono (by decide)) (by rfl) T.m_law_edges T.F_law_edges.kp T.b_law_edges .nil pass0 (pa_cons (pv 0) pa_nil)))
       (pss_one (ps_ret (pe_callTy (cr_tupLK K) (by rfl) T.z_tuple (by decide +kernel) (pa_cons (pe_lc (own := [("_law_k", 4)]) (g := (gName 4)) rfl sc_law_seen.nd (pi_range1 (by rfl) T.z_range (pa_cons (pe_callB (call_len_seqK K) (by rfl) T.z_len (by decide +kernel) (pa_cons (pv 1) pa_nil)) pa_nil)) (blkOk_by (own := [("_law_k", 4)]) (N := ["_law_s", "_law_layout", "_law_door", "_law_edges_here", "_law_k"]) (sc := defScope s_law_seen) (by decide +kernel))
       (fun _ _ _ _ _ => (pg_name (i := 4) sc_law_seen.nd rfl (by first | exact Or.inl rfl | exact Or.inr rfl))) (fun _ _ _ _ _ => (pts_one (pt_cmpR op_eq (pe_ix (ix_listK K) (pv 3) (pv 4) (by intro _ _; rfl)) (pv 2) (nomark _)))) (fun _ _ _ _ _ => (pe_ix (ix_tupK K) (pv 1) (pv 4) (by intro _ _; rfl)))) pa_nil))))), ?_⟩
    have hll := L.len o
    have hsz := o.sz
    refine ⟨_, rfl, v, s, rfl, hs, o, fun e H1 s1 he => ?_⟩
    have hb' := hb.same s1
    dsimp only
    refine r_nameR (r_ret (r_cb1 (lcR (n := (l.length : Int)) (fun i => if s.ed[i]? = some d then (l[i]?).map dV else none) (by omega) (by omega) (fun R h => ⟨_, rfl, b, l, rfl, .inr (hb.same s1).seq, h _ (Same.refl _)⟩) (fun i H2 hi s2 => ?_) (fun D H2 s2 hD => ?_))))
    · have hi' : i < l.length := by omega
      have hg : (s.ed.map V.int)[i]? = some (.int (edA s i)) := by rw [List.getElem?_map, edA_get (by omega)]; rfl
      have hx : l[i]? = some l[i] := List.getElem?_eq_getElem hi'
      have fx : Cc.fl l[i] = true := List.all_eq_true.mp (L.fl o) _ (List.mem_of_getElem? hx)
      rw [hx, edA_get (by omega)]
      refine turn_t (b := decide (edA s i = d)) (fun R h => ⟨_, rfl, _, rfl, _, _, _, _, rfl, rfl, SqL.of (s2 _ _ he), atI_nat hg, _, rfl, rfl, ?_⟩) (fun hb => ?_) (fun hb => ?_)
      · rw [show decide (V.int (edA s i) = V.int d) = decide (edA s i = d) from by simp]
        exact ⟨_, rfl, h _ (Same.refl _)⟩
      · have := of_decide_eq_false hb
        rw [if_neg (by simpa using this)]
      · have := of_decide_eq_true hb
        exact ⟨dV l[i], by rw [if_pos (by rw [this])]; rfl, fun H3 s3 N h1 => ⟨_, rfl, _, rfl, b, l, (i : Int), _, rfl, rfl, ((hb'.same s2).same s3).seq, atI_nat hx, h1 _ _ (Same.refl _) (Dq.flat fx)⟩⟩
    · have e2 : (List.range ((l.length : Int)).toNat).filterMap (fun i => if s.ed[i]? = some d then (l[i]?).map dV else none) = (seenL s l d).map dV := by
        rw [seen_range hll, List.map_filterMap]
        congr 1
        funext i
        by_cases h : s.ed[i]? = some d
        · rw [if_pos h, if_pos h]
        · rw [if_neg h, if_neg h]; rfl
      rw [e2] at hD
      exact ⟨_, _, rfl, SqL.of (hD.flat (List.all_eq_true.mpr fun x hx => List.all_eq_true.mp (L.fl o) x (seen_mem hx))), fun p2 H3 _ s3 ht3 => k p2 H3 ((s1.trans s2).trans s3) ht3⟩
theorem ok_law_turned (T : Txt K mg a) : FnOk P w K mg base CX0 1 a.f_law_turned a.d_law_turned ["_law_layout", "_law_one", "_law_other"] (sp_law_turned a) := by
  refine T.F_law_turned.ok sc_law_turned (fun vs H Q E h => ?_) (fun cdv A outer s H vs Q E hr h => ?_)
  · obtain ⟨b, l, i, j, rfl, hb, hi, hj, k⟩ := h; rfl
  · obtain ⟨b, l, i, j, rfl, hb, hi, hj, k⟩ := h
    have hu := hr.units
    refine ⟨_, (pss_cons (ps_set (i := 3) sc_law_turned.nd rfl (by first | exact Or.inl rfl | exact Or.inr rfl) (pe_callTy (call_list_ofK K) (by rfl) T.z_list (by decide +kernel) (pa_cons (pv 0) pa_nil)))
       (pss_cons (ps_asg (pe_tupX (pa_cons (pe_ix (ix_tupK K) (pv 0) (pv 2) (by intro _ _; rfl)) (pa_cons (pe_ix (ix_tupK K) (pv 0) (pv 1) (by intro _ _; rfl)) pa_nil))) (pg_tup rfl (pgs_cons (pg_sub (pv 3) (pv 1) set_list) (pgs_cons (pg_sub (pv 3) (pv 2) set_list) pgs_nil))))
       (pss_one (ps_ret (pe_callTy (cr_tupLK K) (by rfl) T.z_tuple (by decide +kernel) (pa_cons (pv 3) pa_nil)))))), ?_⟩
    refine ⟨_, rfl, b, l, rfl, .inr hb.seq, fun f hf => ?_⟩
    have s1 : Same H (upd H f (.lst l)) := Same.new hf
    have hx : ∀ m, m < l.length → l[m]? = some (l.getD m .non) := fun m hm => by rw [List.getD_eq_getElem?_getD, List.getElem?_eq_getElem hm]; rfl
    refine ⟨_, rfl, _, rfl, b, l, (j : Int), _, rfl, rfl, (hb.same s1).seq, atI_nat (hx j hj), _, rfl, _, rfl, b, l, (i : Int), _, rfl, rfl, (hb.same s1).seq, atI_nat (hx i hi), (by show 2 ≤ 1000000; decide), fun t H2 ht s2 hT => ?_⟩
    have hf2 : H2 f = some (.lst l) := s2 _ _ upd_same
    have ix : ∀ (n m : Nat), m < n → ixN n (m : Int) = some m := fun n m h => by
      unfold ixN
      rw [if_pos (by omega), if_pos (by omega)]
      rfl
    refine ⟨t, _, rfl, hT.seq, rfl, _, _, rfl, ⟨_, rfl, _, rfl, f, l, (i : Int), i, rfl, rfl, hf2, ix _ _ hi, _, _, rfl, _, rfl, _, rfl, f, _, (j : Int), j, rfl, rfl, upd_same, ix _ _ (by rw [List.length_set]; exact hj), rfl, ?_⟩⟩
    refine ⟨_, rfl, _, _, rfl, SqL.of upd_same, fun p H3 hp s3 hp3 => k p H3 ?_ hp3⟩
    exact (Same.mut (Same.mut (s1.trans s2) hf) hf).trans s3
end
end Cc

end

section
set_option Elab.async false
set_option linter.all false
set_option maxRecDepth 100000
set_option maxHeartbeats 8000000
set_option pp.maxSteps 1200
set_option pp.proofs false
namespace Cc
open PySem PySem.Spec L2

theorem r_setif {tt : TT} {ta tb : TE} {g : TG} {D : Ends} {σ : St} {H : Hp} (Pm : V → Hp → Prop) (h1 : ∀ v H7, Pm v H7 → g v σ H7 D.nx) (h2 : ∀ Q : VK, (∀ v H7, Pm v H7 → Q v H7) → tIf tt ta tb σ H Q) : tAsg (tIf tt ta tb) g D σ H := h2 _ h1
def sp_law_layouts (a : Ad) : Sp := fun vs H Q _ => ∃ (v : V) (s : Sc), vs = [v] ∧ Dq H v s.sD ∧ s.Ok ∧ NewLs H ((lays s).map eL) Q
section
variable {P : Program} {w : World} {K : PySem.W.Frag} {mg : Str → Option Value} {base : Heap} {a : Ad}
theorem ok_law_layouts (T : Txt K mg a) : FnOk P w K mg base CX0 2 a.f_law_layouts a.d_law_layouts ["_law_s"] (sp_law_layouts a) := by
  refine T.F_law_layouts.ok sc_law_layouts (fun vs H Q E h => ?_) (fun cdv A outer s H vs Q E hr h => ?_)
  · obtain ⟨v, s, rfl, hs, o, k⟩ := h; rfl
  · obtain ⟨v, s, rfl, hs, o, k⟩ := h
    have hu := hr.units
    refine ⟨_, (pss_cons (ps_par (i := 1) (j := 2) rfl sc_law_layouts.nd rfl rfl (by decide) rfl rfl (pa_cons (pe_callB (call_len_seqK K) (by rfl) T.z_len (by decide +kernel) (pa_cons (pe_call (ok_law_edges T) (hr.mono (by decide)) (by rfl) T.m_law_edges T.F_law_edges.kp T.b_law_edges .nil pass0 (pa_cons (pv 0) pa_nil)) pa_nil)) (pa_cons (pe_lst (pa_cons (pe_tupX pa_nil) pa_nil)) pa_nil)) (by rfl))
       (pss_cons (ps_for PassesOwn.never rfl (pi_range1 (by rfl) T.z_range (pa_cons (pv 1) pa_nil)) (pg_name (i := 3) sc_law_layouts.nd rfl (by first | exact Or.inl rfl | exact Or.inr rfl))
       (pss_cons (ps_set (i := 4) sc_law_layouts.nd rfl (by first | exact Or.inl rfl | exact Or.inr rfl) (pe_lst pa_nil))
       (pss_cons (ps_for PassesOwn.never rfl (pi_list (pv 2)) (pg_name (i := 5) sc_law_layouts.nd rfl (by first | exact Or.inl rfl | exact Or.inr rfl))
       (pss_cons (ps_setLc (i := 6) (own := [("_law_name", 7)]) (g := (gName 7)) rfl sc_law_layouts.nd rfl rfl (sw_true rfl rfl rfl rfl) (pi_tup (pe_ix (ix_tupK K) (pv 0) pe_int (by intro _ _; rfl))) (blkOk_by (own := [("_law_name", 7)]) (N := ["_law_s", "_law_size", "_law_found", "_law_turn", "_law_longer", "_law_some", "_law_left", "_law_name", "_law_free", "_law_one"]) (sc := defScope s_law_layouts) (by decide +kernel))
       (fun _ _ _ _ _ => (pg_name (i := 7) sc_law_layouts.nd rfl (by first | exact Or.inl rfl | exact Or.inr rfl))) (fun _ _ _ _ _ => (pts_one (pt_cmpR (op_notIn_seqK K) (pv 7) (pv 5) (by with_unfolding_all rfl)))) (fun _ _ _ _ _ => (pv 7)))
       (pss_cons (ps_set (i := 8) sc_law_layouts.nd rfl (by first | exact Or.inl rfl | exact Or.inr rfl) (pe_ifExp (pt_cmpR op_lt (pe_bt PySem.F.slot_tuple_count PySem.F.type_tuple_count (mt_cntK K) (pv 5) (pa_cons pe_non pa_nil)) (pe_op op_sub (pv 1) (pe_callB (call_len_seqK K) (by rfl) T.z_len (by decide +kernel) (pa_cons (pe_ix (ix_tupK K) (pv 0) pe_int (by intro _ _; rfl)) pa_nil))) (nomark _)) (pe_lst (pa_cons pe_non pa_nil)) (pe_lst pa_nil)))
       (pss_one (ps_set (i := 4) sc_law_layouts.nd rfl (by first | exact Or.inl rfl | exact Or.inr rfl) (pe_op op_cat (pv 4) (pe_lc (own := [("_law_one", 9)]) (g := (gName 9)) rfl sc_law_layouts.nd (pi_list (pe_op op_cat (pv 8) (pv 6))) (blkOk_by (own := [("_law_one", 9)]) (N := ["_law_s", "_law_size", "_law_found", "_law_turn", "_law_longer", "_law_some", "_law_left", "_law_name", "_law_free", "_law_one"]) (sc := defScope s_law_layouts) (by decide +kernel))
       (fun _ _ _ _ _ => (pg_name (i := 9) sc_law_layouts.nd rfl (by first | exact Or.inl rfl | exact Or.inr rfl))) (fun _ _ _ _ _ => pts_nil) (fun _ _ _ _ _ => (pe_op (op_catXK K) (pv 5) (pe_tupX (pa_cons (pv 9) pa_nil)))))))))))
       (pss_one (ps_set (i := 2) sc_law_layouts.nd rfl (by first | exact Or.inl rfl | exact Or.inr rfl) (pv 4))))))
       (pss_one (ps_ret (pv 2))))), ?_⟩
    have hsz := o.sz
    have hol := o.len
    obtain ⟨t, d, c, ds, rfl, ht, hd, hq, hc⟩ := sD_inv hs
    have el : (s.ed.map V.int).length = s.ed.length := List.length_map ..
    have ec : s.cv.length = s.cs.length := List.length_map ..
    refine ⟨_, rfl, .ref t, s, rfl, hs, o, fun e H1 s1 he => ⟨e, _, rfl, .inl (SqL.of he), ?_⟩⟩
    rw [el]
    refine ⟨(by show 0 ≤ 1000000; decide), fun t0 H2 ht0 s2 hT0 => ⟨(by show 1 ≤ sizeLine; decide), fun r0 hr0 => ⟨_, _, rfl, ?_⟩⟩⟩
    have s02 : Same H (upd H2 r0 (.lst [.ref t0])) := (s1.trans s2).trans (Same.new hr0)
    refine ⟨_, rfl, (s.ed.length : Int), rfl, by omega, by omega, ?_⟩
    refine for_it walk_range (fun k σ H' => ∃ r v3 v4 v5 v6 v7 v8 v9, σ = [some (.ref t), some (.int (s.ed.length : Int)), some (.ref r), v3, v4, v5, v6, v7, v8, v9] ∧ Same H H' ∧ Ls H' r ((laysN s k).map eL)) ⟨r0, _, _, _, _, _, _, _, rfl, s02, [.ref t0], upd_same, ?_⟩ (fun _ _ _ _ _ => trivial) ?_ ?_
    · exact .one ((Dq.eL (l := []) hT0 rfl).mono (Tk.new hr0))
    · rintro kk x σ H3 H3' hk ⟨r, v3, v4, v5, v6, v7, v8, v9, rfl, s3, rows, hr, hq⟩ ⟨rfl, rfl⟩
      have hk' : kk < s.ed.length := by omega
      refine ⟨by decide, fun g hg => ?_⟩
      have hlen : rows.length = (laysN s kk).length := by rw [hq.length, List.length_map]
      have s34 : Same H3' (upd H3' g (.lst [])) := Same.new hg
      refine ⟨_, rfl, r, rfl, ⟨rows, SqL.of (s34 _ _ hr)⟩, for_it (walk_list (xs := rows)) (fun j σ H' => ∃ g v5 v6 v7 v8 v9, σ = [some (.ref t), some (.int (s.ed.length : Int)), some (.ref r), some (.int (0 + (kk : Int))), some (.ref g), v5, v6, v7, v8, v9] ∧ Same H3' H' ∧ Ls H' g ((((laysN s kk).take j).flatMap (nxt s)).map eL)) ⟨g, _, _, _, _, _, rfl, s34, [], upd_same, .nil⟩
        (fun j σ H' _ ⟨_, _, _, _, _, _, _, s5, _⟩ => SqL.of (s5 _ _ hr)) ?_ ?_⟩
      · rintro j x σ H5 H5' hj ⟨g, v5, v6, v7, v8, v9, rfl, s5, acc, hacc, hqa⟩ ⟨rfl, hx⟩
        obtain ⟨dr, hdr, hxd⟩ := (hq.same s5).get hx
        rw [List.getElem?_map] at hdr
        obtain ⟨row, hrow, rfl⟩ := Option.map_eq_some_iff.mp hdr
        have pr := laysN_pre o kk row (List.mem_of_getElem? hrow)
        obtain ⟨tx, rfl, htx⟩ := hxd.eL_inv pr.fl
        have s05 := s3.trans s5
        refine r_asg (lcTx (xs := s.cv) (fun x => if x ∉ row then some (dV x) else none) ?_ (fun R h => ?_) (fun i x H6 hx6 s6 => ?_) (fun D H6 hDn s6 hD => ?_))
        · omega
        · exact ⟨_, rfl, _, _, _, _, rfl, rfl, (ht.same s05).seq, rfl, h c H5' (Same.refl _) (hc.same s05)⟩
        · have fx := List.all_eq_true.mp s.cv_fl x (List.mem_of_getElem? hx6)
          refine turn_t (b := decide (x ∉ row)) (fun R h => ⟨_, rfl, _, rfl, tx, row, rfl, .inr (htx.same s6).seq, fl_flat fx, fl_flats pr.fl, ?_⟩) (fun hb => ?_) (fun hb => ?_)
          · refine ⟨!inV x row, rfl, ?_⟩
            rw [inV_dec fx pr.fl, show (!decide (x ∈ row)) = decide (x ∉ row) from by simp]
            exact h _ (Same.refl _)
          · rw [if_neg (of_decide_eq_false hb)]
          · exact ⟨dV x, if_pos (of_decide_eq_true hb), fun H7 s7 N h1 => ⟨_, rfl, h1 _ _ (Same.refl _) (Dq.flat fx)⟩⟩
        rw [left_fm] at hD
        have hlf : (s.cv.filter fun x => decide (x ∉ row)).all fl = true := List.all_eq_true.mpr fun x hx => List.all_eq_true.mp s.cv_fl x (List.mem_filter.mp hx).1
        have hD0 := hD.flat hlf
        have s06 := s05.trans s6
        have hg6 : H6 g = some (.lst acc) := s6 _ _ hacc
        have hga := hqa.same s6
        have hlen6 : acc.length ≤ 4 * j := by
          rw [hqa.length, List.length_map]
          have := flat_len (nxt s) 4 ((laysN s kk).take j) fun x _ => nxt_len o x
          rw [List.length_take] at this
          omega
        have hsm := laysN_small o (Nat.le_of_lt hk')
        have hnl := nxt_len o row
        have hpl := pr.len
        have hfl := List.length_filter_le (fun x => decide (x ∉ row)) s.cv
        dsimp only
        refine r_nameS (r_seq (r_setif (fun u H7 => ∃ l8, u = .ref l8 ∧ Same H6 H7 ∧ H7 l8 = some (.lst (if row.count .non < s.ed.length - s.cs.length then [V.non] else []))) (fun u H7 ⟨l8, e8, s7, h8⟩ => ?_) (fun Q hQ => ?_)))
        · subst e8
          dsimp only
          have hff : ((if row.count .non < s.ed.length - s.cs.length then [V.non] else []) ++ s.cv.filter fun x => decide (x ∉ row)).all fl = true := by
            rw [List.all_append, hlf]
            split <;> rfl
          have hfl2 : (if row.count .non < s.ed.length - s.cs.length then [V.non] else []).length ≤ 1 := by
            split <;> simp
          have s7' := s6.trans s7
          have htx7 := htx.same s7'
          have eN : (((if row.count .non < s.ed.length - s.cs.length then [V.non] else []) ++ s.cv.filter fun x => decide (x ∉ row)).map fun x => row ++ [x]) = nxt s row := by
            unfold nxt
            rw [List.map_append]
            congr 1
            split <;> rfl
          refine ⟨_, rfl, ?_⟩
          refine lcL ((if row.count .non < s.ed.length - s.cs.length then [V.non] else []) ++ s.cv.filter fun x => decide (x ∉ row)) dV (fun x => some (eL (row ++ [x]))) (by rw [List.length_append]; omega)
            (fun R h => ⟨_, rfl, _, rfl, l8, D, _, _, rfl, rfl, h8, s7 _ _ hD0, sz_ok (by omega), fun p hp => h p _ (Same.new hp) (Ls.of_flat hff upd_same)⟩) (fun i x y H8 hx8 s8 hy => ?_) (fun D2 H8 s8 hl8 => ?_)
          · have fx := List.all_eq_true.mp hff x (List.mem_of_getElem? hx8)
            obtain rfl := Dq.flat_inv fx hy
            have fr : (row ++ [y]).all Cc.fl = true := by rw [List.all_append, pr.fl]; simp [fx]
            refine turn_1 fun N h1 => ⟨_, rfl, _, rfl, (by show 1 ≤ 1000000; decide), fun q H9 _ s9 hq9 => ⟨tx, q, row, [y], rfl, rfl, ((htx7.same s8).same s9).seq, hq9.seq, by simp only [List.length_singleton]; omega, by simp, fun e => h1 _ _ s9 (Dq.eL (l := row ++ [y]) ?_ fr), fun _ p H10 _ s10 hp => h1 _ _ (s9.trans s10) (Dq.eL hp fr)⟩⟩
            rw [e]
            exact hq9
          · have e8 : ((if row.count .non < s.ed.length - s.cs.length then [V.non] else []) ++ s.cv.filter fun x => decide (x ∉ row)).filterMap (fun x => some (eL (row ++ [x]))) = (nxt s row).map eL := by
              rw [← eN, List.map_map]; exact congrFun (List.filterMap_eq_map (f := fun x => eL (row ++ [x]))) _
            rw [e8] at hl8
            obtain ⟨zs, hz, hqz⟩ := hl8
            have hlz := hqz.length
            rw [List.length_map] at hlz
            have s58 := (s6.trans s7).trans s8
            refine ⟨g, D2, acc, zs, rfl, rfl, s58 _ _ hacc, hz, sz_ok (by omega), fun p hp => ?_⟩
            refine ⟨p, _, _, _, _, _, rfl, (s5.trans s58).trans (Same.new hp), _, upd_same, ?_⟩
            rw [take_snoc hrow, List.flatMap_append, List.flatMap_singleton, List.map_append]
            exact ((hqa.same s58).append hqz).mono (Tk.new hp)
        · have s36 := s06
          refine ⟨_, rfl, ⟨tx, row, rfl, htx.same s6⟩, tx, row, .non, rfl, rfl, (htx.same s6).seq, pr.fl, rfl, ?_⟩
          refine ⟨_, rfl, _, rfl, _, _, _, _, rfl, rfl, (ht.same s06).seq, rfl, c, s.cv, rfl, .inr (hc.same s06).seq, _, _, rfl, rfl, _, _, rfl, rfl, _, rfl, ?_⟩
          refine ite2 (fun hb => ?_) (fun hb => ?_)
          · have hb := of_decide_eq_true hb
            refine ⟨(by show 1 ≤ sizeLine; decide), fun l8 hl8 => hQ _ _ ⟨l8, rfl, Same.new hl8, ?_⟩⟩
            rw [if_pos (by omega)]
            exact upd_same
          · have hb : ¬ _ := fun z => hb (decide_eq_true z)
            refine ⟨by decide, fun l8 hl8 => hQ _ _ ⟨l8, rfl, Same.new hl8, ?_⟩⟩
            rw [if_neg (by omega)]
            exact upd_same
      · rintro σ H5 ⟨g, v5, v6, v7, v8, v9, rfl, s5, hl5⟩
        rw [hlen, List.take_length] at hl5
        exact ⟨_, rfl, g, _, _, _, _, _, _, _, rfl, s3.trans s5, hl5⟩
    · rintro σ H3 ⟨r, v3, v4, v5, v6, v7, v8, v9, rfl, s3, hl3⟩
      exact ⟨_, rfl, k r H3 s3 hl3⟩
end
end Cc

end

section
set_option Elab.async false
set_option linter.all false
set_option maxRecDepth 100000
set_option maxHeartbeats 8000000
set_option pp.maxSteps 1200
set_option pp.proofs false
namespace Cc
open PySem PySem.Spec L2

def sp_law_is_so (a : Ad) : Sp := fun vs H Q _ => ∃ (v : V) (b t c : Addr) (s : Sc) (l : List V) (r : Row), vs = [v, .ref b, .ref t] ∧ Dq H v s.sD ∧ s.Ok ∧ Tq H b l ∧ Lay s l ∧ Tq H t [.str "open", .int r.1, .ref c] ∧ Tq H c r.2 ∧ RowOk s r ∧ ∀ H', Same H H' → Q (.bl (isSo s l r.1 r.2)) H'
section
variable {P : Program} {w : World} {K : PySem.W.Frag} {mg : Str → Option Value} {base : Heap} {a : Ad}
theorem ok_law_is_so (T : Txt K mg a) : FnOk P w K mg base CX0 3 a.f_law_is_so a.d_law_is_so ["_law_s", "_law_layout", "_law_row"] (sp_law_is_so a) := by
  refine T.F_law_is_so.ok sc_law_is_so (fun vs H Q E h => ?_) (fun cdv A outer s H vs Q E hr h => ?_)
  · obtain ⟨v, b, t, c, s, l, r, rfl, hs, o, hb, L, ht, hc, ok, k⟩ := h; rfl
  · obtain ⟨v, b, t, c, s, l, r, rfl, hs, o, hb, L, ht, hc, ok, k⟩ := h
    have hu := hr.units
    refine ⟨_, (pss_cons (ps_set (i := 3) sc_law_is_so.nd rfl (by first | exact Or.inl rfl | exact Or.inr rfl) (pe_call (ok_law_seen T) (hr.mono (by decide)) (by rfl) T.m_law_seen T.F_law_seen.kp T.b_law_seen .nil pass0 (pa_cons (pv 0) (pa_cons (pv 1) (pa_cons (pe_ix (ix_tupK K) (pv 2) pe_int (by intro _ _; rfl)) pa_nil)))))
       (pss_cons (ps_setLc (i := 4) (own := [("_law_k", 5)]) (g := (gName 5)) rfl sc_law_is_so.nd rfl rfl (sw_true rfl rfl rfl rfl) (pi_range1 (by rfl) T.z_range (pa_cons (pe_callB (call_len_seqK K) (by rfl) T.z_len (by decide +kernel) (pa_cons (pv 3) pa_nil)) pa_nil)) (blkOk_by (own := [("_law_k", 5)]) (N := ["_law_s", "_law_layout", "_law_row", "_law_here", "_law_wrong", "_law_k"]) (sc := defScope s_law_is_so) (by decide +kernel))
       (fun _ _ _ _ _ => (pg_name (i := 5) sc_law_is_so.nd rfl (by first | exact Or.inl rfl | exact Or.inr rfl))) (fun _ _ _ _ _ => (pts_one (pw_and (pt_cmpR op_ne (pe_ix (ix_tupK K) (pv 3) (pv 5) (by intro _ _; rfl)) (pe_ix (ix_tupK K) (pe_ix (ix_tupK K) (pv 2) pe_int (by intro _ _; rfl)) (pv 5) (by intro _ _; rfl)) (nomark _)) (pw_and1 (pw_or (pt_cmpR op_ne (pe_ix (ix_tupK K) (pe_ix (ix_tupK K) (pv 2) pe_int (by intro _ _; rfl)) (pv 5) (by intro _ _; rfl)) pe_str (nomark _)) (pw_or1 (pt_cmp (pc_isN (pe_ix (ix_tupK K) (pv 3) (pv 5) (by intro _ _; rfl)))))).pt)).pt)) (fun _ _ _ _ _ => (pv 5)))
       (pss_one (ps_ret (pe_cmpR (op_eqDK K hu) (pv 4) (pe_lst pa_nil) (nomark _)))))), ?_⟩
    have hsz := o.sz
    have hll := L.len o
    have hlen : (seenL s l r.1).length = r.2.length := by rw [seen_len hll, ok.len]
    have hsl : (seenL s l r.1).length ≤ l.length := by
      rw [seen_range hll]
      have := List.length_filterMap_le (fun i => if s.ed[i]? = some r.1 then l[i]? else none) (List.range l.length)
      rw [List.length_range] at this
      exact this
    refine ⟨_, rfl, _, rfl, _, rfl, _, _, _, _, rfl, rfl, ht.seq, rfl, v, s, b, l, r.1, rfl, hs, o, hb, L, fun q H1 s1 hq => ?_⟩
    have hc1 := hc.same s1
    have ht1 := ht.same s1
    have look : ∀ (i : Nat) x y, (seenL s l r.1)[i]? = some x → r.2[i]? = some y → (x = .non ∨ ∃ z, x = .str z) ∧ (y = .non ∨ ∃ z, y = .str z) := fun i x y h1 h2 => by
      refine ⟨?_, ?_⟩
      · rcases L.mem (seen_mem (List.mem_of_getElem? h1)) with h | ⟨c, _, h⟩
        · exact .inl h
        · exact .inr ⟨c, h⟩
      · rcases ok.mem y (List.mem_of_getElem? h2) with h | h | ⟨c, _, h⟩
        · exact .inl h
        · exact .inr ⟨_, h⟩
        · exact .inr ⟨c, h⟩
    dsimp only
    refine r_nameS (r_seq (r_asg (lcR (n := ((seenL s l r.1).length : Int)) (fun i => if okP ((seenL s l r.1).getD i .non) (r.2.getD i .non) = true then none else some (.int (i : Int))) (by omega) (by omega) (fun R h => ⟨_, rfl, q, _, rfl, .inr hq.seq, h _ (Same.refl _)⟩) (fun i H2 hi s2 => ?_) (fun D H2 s2 hD => ?_))))
    · have hi' : i < (seenL s l r.1).length := by omega
      obtain ⟨x, hx⟩ : ∃ x, (seenL s l r.1)[i]? = some x := ⟨_, List.getElem?_eq_getElem hi'⟩
      obtain ⟨y, hy⟩ : ∃ y, r.2[i]? = some y := ⟨_, List.getElem?_eq_getElem (by omega)⟩
      have ⟨lx, ly⟩ := look i x y hx hy
      rw [List.getD_eq_getElem?_getD, List.getD_eq_getElem?_getD, hx, hy]
      have hq2 := hq.same s2
      have ht2 := ht1.same s2
      have hc2 := hc1.same s2
      refine turn_t (b := !okP x y) (fun R h => ⟨_, rfl, _, rfl, _, _, _, _, rfl, rfl, hq2.seq, atI_nat hx, _, rfl, _, _, _, _, rfl, rfl, ht2.seq, rfl, _, rfl, _, _, _, _, rfl, rfl, hc2.seq, atI_nat hy, ?_⟩) (fun hb => ?_) (fun hb => ?_)
      · refine ⟨scal_lv lx ly, _, rfl, ?_⟩
        by_cases e1 : x = y
        · rw [decide_eq_true e1]
          refine iteF ?_
          have : (!okP x y) = false := by unfold okP; rw [decide_eq_true e1]; rfl
          rw [this] at h
          exact h _ (Same.refl _)
        · rw [decide_eq_false e1]
          refine iteT ⟨_, rfl, _, _, _, _, rfl, rfl, ht2.seq, rfl, _, rfl, _, _, _, _, rfl, rfl, hc2.seq, atI_nat hy, scal_lv ly (.inr ⟨_, rfl⟩), _, rfl, ?_⟩
          by_cases e2 : y = .str "?"
          · rw [decide_eq_true e2]
            refine iteF ⟨_, rfl, _, rfl, _, _, _, _, rfl, rfl, hq2.seq, atI_nat hx, ?_⟩
            have : (!okP x y) = decide (x = .non) := by unfold okP; rw [decide_eq_false e1, decide_eq_true e2]; simp
            rw [this] at h
            exact ⟨_, rfl, h _ (Same.refl _)⟩
          · rw [decide_eq_false e2]
            have : (!okP x y) = true := by unfold okP; rw [decide_eq_false e1, decide_eq_false e2]; rfl
            rw [this] at h
            exact iteT (h _ (Same.refl _))
      · show (if okP x y = true then none else some (PyData.int (i : Int))) = none
        rw [show okP x y = true by simpa using hb]; rfl
      · have : okP x y = false := by simpa using hb
        exact ⟨.int (i : Int), by show (if okP x y = true then _ else _) = _; rw [this]; rfl, fun H3 s3 N h1 => ⟨_, rfl, h1 _ _ (Same.refl _) (.int _)⟩⟩
    · dsimp only
      have s12 := s1.trans s2
      refine ⟨_, rfl, (by show 0 ≤ sizeLine; decide), fun l0 hl0 => ?_⟩
      have sF := s12.trans (Same.new hl0 (o := .lst []))
      have kk := k _ sF
      have hD2 := hD.mono (Same.new hl0 (o := .lst []))
      have shp : ∀ is : List Nat, SeqAt.shaped (.list (is.filterMap fun i => if okP ((seenL s l r.1).getD i .non) (r.2.getD i .non) = true then none else some (PyData.int (i : Int)))) = true := fun is => shaped_lst (n := 0) (fun d hd => by
        obtain ⟨i, _, h⟩ := List.mem_filterMap.mp hd
        split at h
        · cases h
        · cases h; exact ⟨rfl, Nat.le_refl _⟩) (by decide)
      refine ⟨_, .list [], hD2.dp, .lst (SqL.of upd_same) .nil, shp _, shaped_nil, ?_⟩
      cases e : (List.range ((seenL s l r.1).length : Int).toNat).filterMap fun i => if okP ((seenL s l r.1).getD i .non) (r.2.getD i .non) = true then none else some (PyData.int (i : Int)) with
      | nil =>
        have e2 := List.filterMap_eq_nil_iff.mp e
        have : isSo s l r.1 r.2 = true := by
          unfold isSo
          rw [List.all_eq_true]
          intro pr hpr
          obtain ⟨i, hi⟩ := List.mem_iff_getElem?.mp hpr
          obtain ⟨h1, h2⟩ := List.getElem?_zip_eq_some.mp hi
          have := e2 i (List.mem_range.mpr (by have := lt_of_get h1; omega))
          rw [List.getD_eq_getElem?_getD, List.getD_eq_getElem?_getD, h1, h2] at this
          by_cases h : okP pr.1 pr.2 = true
          · exact h
          · rw [show (if okP ((some pr.1).getD V.non) ((some pr.2).getD V.non) = true then none else some (PyData.int (i : Int))) = some (PyData.int (i : Int)) from if_neg h] at this
            cases this
        rw [this] at kk
        exact kk
      | cons z zs =>
        have hz : z ∈ (List.range ((seenL s l r.1).length : Int).toNat).filterMap fun i => if okP ((seenL s l r.1).getD i .non) (r.2.getD i .non) = true then none else some (PyData.int (i : Int)) := by rw [e]; exact List.mem_cons_self
        obtain ⟨i, hi, h⟩ := List.mem_filterMap.mp hz
        have hi' : i < (seenL s l r.1).length := by have := List.mem_range.mp hi; omega
        obtain ⟨x, hx⟩ : ∃ x, (seenL s l r.1)[i]? = some x := ⟨_, List.getElem?_eq_getElem hi'⟩
        obtain ⟨y, hy⟩ : ∃ y, r.2[i]? = some y := ⟨_, List.getElem?_eq_getElem (by omega)⟩
        rw [List.getD_eq_getElem?_getD, List.getD_eq_getElem?_getD, hx, hy] at h
        have hf : okP x y = false := by
          by_cases z : okP x y = true
          · rw [show (if okP ((some x).getD V.non) ((some y).getD V.non) = true then none else some (PyData.int (i : Int))) = none from if_pos z] at h
            cases h
          · simpa using z
        have : isSo s l r.1 r.2 = false := by
          unfold isSo
          rw [List.all_eq_false]
          exact ⟨(x, y), List.mem_of_getElem? (List.getElem?_zip_eq_some.mpr ⟨hx, hy⟩), by rw [hf]; exact Bool.false_ne_true⟩
        rw [eqv_cons_nil]
        rw [this] at kk
        exact kk
end
end Cc

end

section
set_option Elab.async false
set_option linter.all false
set_option maxRecDepth 100000
set_option maxHeartbeats 8000000
set_option pp.maxSteps 1200
set_option pp.proofs false
namespace Cc
open PySem PySem.Spec L2

def sp_law_counts (P : Program) (w : World) (a : Ad) : Sp := fun vs H Q _ => ∃ (v : V) (d l : Addr) (s : Sc) (kvs : List Ent) (lg : List Row), vs = [v, .ref d, .ref l] ∧ Dq H v s.sD ∧ s.Ok ∧ H d = some (DD P w d kvs) ∧ KD H kvs ∧ IntsIn kvs ∧ (dkeys kvs).Nodup ∧ (∀ l ∈ dkeys kvs, Lay s l) ∧ kvs.length ≤ 1024 ∧ Ls H l (lg.map rowD) ∧ (∀ r ∈ lg, RowOk s r) ∧ lg.length ≤ 1000 ∧
  ∀ d' H' kvs', Same H H' → H' d' = some (DD P w d' kvs') → KD H' kvs' → dkeys kvs' = lgF s (dkeys kvs) lg → Q (.ref d') H'
section
variable {P : Program} {w : World} {K : PySem.W.Frag} {mg : Str → Option Value} {base : Heap} {a : Ad}
theorem ok_law_counts (T : Txt K mg a) : FnOk P w K mg base CX0 4 a.f_law_counts a.d_law_counts ["_law_s", "_law_counts_here", "_law_log"] (sp_law_counts P w a) := by
  refine T.F_law_counts.ok sc_law_counts (fun vs H Q E h => ?_) (fun cdv A outer s H vs Q E hr h => ?_)
  · obtain ⟨v, d, l, s, kvs, lg, rfl, hs, o, hd, kd, hi, hn, hL, hsz, hl, ok, hlg, k⟩ := h; rfl
  · obtain ⟨v, d, l, s, kvs, lg, rfl, hs, o, hd, kd, hi, hn, hL, hsz, hl, ok, hlg, k⟩ := h
    have hu := hr.units
    refine ⟨_, (pss_cons (ps_for PassesOwn.never rfl (pi_list (pv 2)) (pg_name (i := 3) sc_law_counts.nd rfl (by first | exact Or.inl rfl | exact Or.inr rfl))
       (pss_cons (ps_set (i := 4) sc_law_counts.nd rfl (by first | exact Or.inl rfl | exact Or.inr rfl) pe_ddnew)
       (pss_cons (ps_lock (ps_for PassesOwn.never rfl (pi_dk (pv 1)) (pg_name (i := 5) sc_law_counts.nd rfl (by first | exact Or.inl rfl | exact Or.inr rfl))
       (pss_cons (ps_if (pt_cmpR op_eq (pe_ix (ix_tupK K) (pv 3) pe_int (by intro _ _; rfl)) pe_str (nomark _)) (pss_one (ps_set (i := 6) sc_law_counts.nd rfl (by first | exact Or.inl rfl | exact Or.inr rfl) (pe_ifExp (pt_val (pe_call (ok_law_is_so T) (hr.mono (by decide)) (by rfl) T.m_law_is_so T.F_law_is_so.kp T.b_law_is_so .nil pass0 (pa_cons (pv 0) (pa_cons (pv 5) (pa_cons (pv 3) pa_nil))))) (pe_lst (pa_cons (pv 5) pa_nil)) (pe_lst pa_nil)))) (pss_one (ps_set (i := 6) sc_law_counts.nd rfl (by first | exact Or.inl rfl | exact Or.inr rfl) pe_nv)))
       (pss_one (ps_for PassesOwn.never rfl (pi_list (pv 6)) (pg_name (i := 7) sc_law_counts.nd rfl (by first | exact Or.inl rfl | exact Or.inr rfl))
       (pss_one (ps_ddput hu (pv 4) (pv 7) (pe_op op_add (pe_ddget2 hu (pv 4) (pv 7) pe_int ⟨rfl, rfl, rfl, rfl⟩) (pe_ddget hu (pv 1) (pv 5) (by intro _ _; rfl))) rfl)))))))
       (pss_one (ps_set (i := 1) sc_law_counts.nd rfl (by first | exact Or.inl rfl | exact Or.inr rfl) (pv 4))))))
       (pss_one (ps_ret (pv 1)))), ?_⟩
    obtain ⟨xs, hx, hq⟩ := hl
    have hxl : xs.length = lg.length := by rw [hq.length, List.length_map]
    refine ⟨_, rfl, l, rfl, ⟨xs, SqL.of hx⟩, for_it (walk_list (xs := xs)) (fun i σ H' => ∃ d' kv v3 v4 v5 v6 v7, σ = [some v, some (.ref d'), some (.ref l), v3, v4, v5, v6, v7] ∧ Same H H' ∧ H' d' = some (DD P w d' kv) ∧ KD H' kv ∧ IntsIn kv ∧ dkeys kv = lgF s (dkeys kvs) (lg.take i))
      ⟨d, kvs, _, _, _, _, _, rfl, Same.refl H, hd, kd, hi, rfl⟩ (fun i σ H' _ ⟨_, _, _, _, _, _, _, _, s1, _⟩ => SqL.of (s1 _ _ hx)) ?_ ?_⟩
    · rintro i x σ H1 H1' hi' ⟨d', kv, v3, v4, v5, v6, v7, rfl, s1, hd1, kd1, hi1, hk1⟩ ⟨rfl, hxi⟩
      obtain ⟨dr, hdr, hxd⟩ := (hq.same s1).get hxi
      rw [List.getElem?_map] at hdr
      obtain ⟨r, hr, rfl⟩ := Option.map_eq_some_iff.mp hdr
      have okr := ok r (List.mem_of_getElem? hr)
      obtain ⟨t, c, rfl, ht, hc⟩ := rowD_inv okr.fl hxd
      have hn1 : (dkeys kv).Nodup := by rw [hk1]; exact (lgF_sub s _ _).nodup hn
      have hL1 : ∀ l ∈ dkeys kv, Lay s l := fun l h => hL l ((lgF_sub s (lg.take i) _).subset (hk1 ▸ h))
      have hz1 : kv.length ≤ 1024 := by
        have := (lgF_sub s (lg.take i) (dkeys kvs)).length_le
        rw [← hk1, dkeys_len, dkeys_len] at this
        omega
      -- later = {}
      intro m hm
      have nm : d' ≠ m := ne_of_none hd1 hm
      have s2 : Same H1' (upd H1' m (DD P w m [])) := Same.new hm
      refine ⟨d', DD P w d' kv, s2 _ _ hd1, DD_mut, fun od => ?_⟩
      have bd : (upd H1' d' (.frz od (DD P w d' kv))) m = none := by rw [upd_ne nm.symm]; exact hm
      have eH : upd (upd H1' m (DD P w m [])) d' (.frz od (DD P w d' kv)) = upd (upd H1' d' (.frz od (DD P w d' kv))) m (DD P w m []) := by
        funext b
        by_cases h1 : b = m
        · rw [h1, upd_same, upd_ne nm.symm, upd_same]
        · by_cases h2 : b = d'
          · rw [h2, upd_same, upd_ne nm, upd_same]
          · rw [upd_ne h2, upd_ne h1, upd_ne h1, upd_ne h2]
      refine cast_hp eH ?_
      have tkl : Tk H1' (upd H1' d' (.frz od (DD P w d' kv))) := Tk.upd (DD_not hd1)
      have Sl : Dq (upd H1' d' (.frz od (DD P w d' kv))) v s.sD := (hs.same s1).mono tkl
      have kdl := kd1.mono tkl
      have htl := tkl _ _ ht
      have hcl := tkl _ _ hc
      have hdl : (upd H1' d' (.frz od (DD P w d' kv))) d' = some (.frz od (DD P w d' kv)) := upd_same
      have sB : ∀ {H''}, Same (upd H1' d' (.frz od (DD P w d' kv))) H'' → Same H1' (upd H'' d' (DD P w d' kv)) := fun e => Same.lock hd1 e
      revert bd tkl Sl kdl htl hcl hdl sB
      clear eH
      generalize upd H1' d' (.frz od (DD P w d' kv)) = B
      intro bd tkl Sl kdl htl hcl hdl sB
      refine ⟨_, rfl, d', od, kv, rfl, Same.new bd _ _ hdl, ?_⟩
      refine for_it (walk_dk (kvs := kv)) (fun j σ H' => ∃ kv2 v5 v6 v7, σ = [some v, some (.ref d'), some (.ref l), some (.ref t), some (.ref m), v5, v6, v7] ∧ Same B H' ∧ H' m = some (DD P w m kv2) ∧ KD H' kv2 ∧ IntsIn kv2 ∧ dkeys kv2 = ((dkeys kv).take j).filter fun l => isSo s l r.1 r.2)
        ⟨[], _, _, _, rfl, Same.new bd, upd_same, KD.nil, (fun e h => nomatch h), rfl⟩ (fun j σ H' _ ⟨_, _, _, _, _, s3, _⟩ => s3 _ _ hdl) ?_ ?_
      · rintro j x σ H3 H3' hj ⟨kv2, v5, v6, v7, rfl, s3, hm3, kd3, hi3, hk3⟩ ⟨rfl, e, he, rfl⟩
        obtain ⟨lay, b, cnt⟩ := e
        have he' : (dkeys kv)[j]? = some lay := by unfold dkeys; rw [List.getElem?_map, he]; rfl
        have hlay : Lay s lay := hL1 lay (List.mem_of_getElem? he')
        have hb0 := (kdl _ (List.mem_of_getElem? he)).1
        simp only at hb0
        obtain ⟨⟨b', cv⟩, hat⟩ := atD_mem (List.mem_of_getElem? he')
        obtain ⟨ci, hci⟩ := hi1 _ (atD_some hat)
        simp only at hci
        subst hci
        refine ⟨_, rfl, _, _, _, _, rfl, rfl, (htl.same s3).seq, rfl, rfl, _, rfl, iteD rfl ?_⟩
        refine r_setif (fun u H7 => ∃ q, u = .ref q ∧ Same H3' H7 ∧ H7 q = some (.lst (if isSo s lay r.1 r.2 = true then [.ref b] else []))) (fun u H5 ⟨q, eu, s5, hq5⟩ => ?_) (fun Q hQ => ?_)
        rotate_left
        · refine ⟨_, rfl, _, rfl, _, rfl, v, b, t, c, s, lay, r, rfl, Sl.same s3, o, hb0.same s3, hlay, htl.same s3, hcl.same s3, okr, fun H5 s5 => ⟨_, rfl, ?_⟩⟩
          by_cases hso : isSo s lay r.1 r.2 = true
          · refine iteB hso ⟨_, rfl, (by show 1 ≤ sizeLine; decide), fun q hq => hQ _ _ ⟨q, rfl, s5.trans (Same.new hq), ?_⟩⟩
            rw [if_pos hso]
            exact upd_same
          · refine iteBf (by simpa using hso) ⟨by decide, fun q hq => hQ _ _ ⟨q, rfl, s5.trans (Same.new hq), ?_⟩⟩
            rw [if_neg hso]
            exact upd_same
        subst eu
        refine ⟨_, rfl, q, rfl, ⟨_, SqL.of hq5⟩, ?_⟩
        have hm5 := s5 _ _ hm3
        have kd5 := kd3.same s5
        have hb5 := (hb0.same s3).same s5
        have sB5 := s3.trans s5
        have nl : lay ∉ (dkeys kv).take j := fun z => by
          obtain ⟨i2, hi2, e2⟩ := List.mem_take_iff_getElem.mp z
          have l1 := lt_of_get he'
          have := (List.getElem_inj hn1 (h₀ := by omega) (h₁ := l1)).mp (e2.trans (List.getElem?_eq_some_iff.mp he').2.symm)
          omega
        have hz3 : kv2.length ≤ 1024 := by
          have h1 := congrArg List.length hk3
          have h2 := List.length_filter_le (fun l => isSo s l r.1 r.2) ((dkeys kv).take j)
          rw [dkeys_len] at h1
          rw [List.length_take, dkeys_len] at h2
          omega
        have hnk : lay ∉ dkeys kv2 := by rw [hk3]; exact fun z => nl (List.mem_filter.mp z).1
        have fin : ∀ H6 kv6 v7, Same B H6 → H6 m = some (DD P w m kv6) → KD H6 kv6 → IntsIn kv6 → dkeys kv6 = (dkeys kv2 ++ if isSo s lay r.1 r.2 = true then [lay] else []) →
            ∃ kv2 v5 v6 v7', [some v, some (.ref d'), some (.ref l), some (.ref t), some (.ref m), some (.ref b), some (.ref q), v7] = [some v, some (.ref d'), some (.ref l), some (.ref t), some (.ref m), v5, v6, v7'] ∧ Same B H6 ∧ H6 m = some (DD P w m kv2) ∧ KD H6 kv2 ∧ IntsIn kv2 ∧ dkeys kv2 = ((dkeys kv).take (j + 1)).filter fun l => isSo s l r.1 r.2 := fun H6 kv6 v7 h1 h2 h3 h4 h5 => by
          refine ⟨kv6, _, _, _, rfl, h1, h2, h3, h4, ?_⟩
          rw [h5, hk3, take_snoc he', List.filter_append]
          congr 1
          by_cases e : isSo s lay r.1 r.2 = true
          · simp [e]
          · simp [e]
        by_cases hso : isSo s lay r.1 r.2 = true
        · refine for_it (walk_list (xs := [.ref b])) (fun i σ H' => ∃ kv6 v7, σ = [some v, some (.ref d'), some (.ref l), some (.ref t), some (.ref m), some (.ref b), some (.ref q), v7] ∧ Same B H' ∧ H' q = some (.lst [.ref b]) ∧ H' m = some (DD P w m kv6) ∧ KD H' kv6 ∧ IntsIn kv6 ∧ dkeys kv6 = dkeys kv2 ++ if i = 0 then [] else [lay])
            ⟨kv2, _, rfl, sB5, by rw [if_pos hso] at hq5; exact hq5, hm5, kd5, hi3, by simp⟩ (fun i σ H' _ ⟨_, _, _, _, h, _⟩ => SqL.of h) ?_ ?_
          · rintro i x σ H6 H6' hi6 ⟨kv6, v7, rfl, s6, hq6, hm6, kd6, hi6', hk6⟩ ⟨rfl, hx6⟩
            have hi0 : i = 0 := by simp at hi6; exact hi6
            subst hi0
            obtain rfl : V.ref b = x := by simpa using hx6
            have hb6 := hb0.same s6
            have hk6 : dkeys kv6 = dkeys kv2 := by simpa using hk6
            have hnk6 : lay ∉ dkeys kv6 := by rw [hk6]; exact hnk
            have hz6 : kv6.length ≤ 1024 := by rw [← dkeys_len, hk6, dkeys_len]; exact hz3
            refine ⟨_, rfl, ⟨m, kv6, rfl, .inl hm6⟩, _, rfl, m, b, kv6, lay, rfl, rfl, .inl hm6, kd6, hb6, hlay.fl o, ?_⟩
            rw [atD_none.mpr hnk6]
            refine ⟨_, rfl, _, rfl, d', b, b', kv, lay, .int ci, rfl, rfl, .inr ⟨od, s6 _ _ hdl⟩, kdl.same s6, hb6, hlay.fl o, hat, _, _, rfl, rfl, _, rfl, _, rfl, m, b, kv6, lay, rfl, rfl, hm6, kd6, hb6, hlay.fl o, sz_lt (by omega), ?_⟩
            have tk6 : Tk H6' (upd H6' m (DD P w m (putD kv6 lay b (.int (0 + ci))))) := Tk.upd (DD_not hm6)
            have nq : q ≠ m := ne_of hq6 hm6 (by unfold DD; intro z; cases z)
            refine ⟨_, _, rfl, Same.mut s6 bd, by rw [upd_ne nq]; exact hq6, upd_same, (kd6.put hb6 (hlay.fl o)).mono tk6, hi6'.put _, ?_⟩
            rw [putD_keys, if_neg hnk6, hk6]; simp
          · rintro σ H6 ⟨kv6, v7, rfl, s6, _, hm6, kd6, hi6', hk6⟩
            exact fin H6 kv6 _ s6 hm6 kd6 hi6' (by rw [hk6, if_pos hso]; simp)
        · refine for_it (walk_list (xs := [])) (fun i σ H' => σ = [some v, some (.ref d'), some (.ref l), some (.ref t), some (.ref m), some (.ref b), some (.ref q), v7] ∧ H' = H5) ⟨rfl, rfl⟩ (fun i σ H' _ h => by rw [h.2]; rw [if_neg hso] at hq5; exact SqL.of hq5) ?_ ?_
          · rintro i x σ H6 H6' hi6 _ _
            exact absurd hi6 (Nat.not_lt_zero i)
          · rintro σ H6 ⟨rfl, rfl⟩
            exact fin H6 kv2 _ sB5 hm5 kd5 hi3 (by rw [if_neg hso, List.append_nil])
      · rintro σ H3 ⟨kv2, v5, v6, v7, rfl, s3, hm3, kd3, hi3, hk3⟩
        have hd3 := s3 _ _ hdl
        have tk3 : Tk H3 (upd H3 d' (DD P w d' kv)) := Tk.unlock hd3
        refine ⟨hd3, _, rfl, m, kv2, _, _, _, _, _, rfl, s1.trans (sB s3), by rw [upd_ne nm.symm]; exact hm3, kd3.mono tk3, hi3, ?_⟩
        rw [hk3, ← dkeys_len, List.take_length, hk1, take_snoc hr, lgF_snoc]
    · rintro σ H1 ⟨d', kv, v3, v4, v5, v6, v7, rfl, s1, hd1, kd1, _, hk1⟩
      rw [hxl, List.take_length] at hk1
      exact ⟨_, rfl, k d' H1 kv s1 hd1 kd1 hk1⟩
end
end Cc

end

section
set_option Elab.async false
set_option linter.all false
set_option maxRecDepth 100000
set_option maxHeartbeats 8000000
set_option pp.maxSteps 1200
set_option pp.proofs false
namespace Cc
open PySem PySem.Spec L2

theorem law_rank_sp {a : Ad} : RankSp rk (fun l => l.length ≤ 1000 ∧ ∀ x ∈ l, LV x) (sp_law_rank a) := fun b l H R h ⟨h1, h2⟩ k => ⟨b, l, rfl, h, h1, h2, k⟩
theorem pairs_lay {H : Hp} : ∀ {ls : List (List V)} {vs : List V}, (∀ l ∈ ls, l.all fl = true) → DqAll H vs (ls.map fun l => .tuple [eL l, .int 1]) → ∃ ts ps, vs = ts.map V.ref ∧ Paired (fun t (p : V × V) => Tq H t [p.1, p.2]) ts (ps.map fun e : Ent => (V.ref e.2.1, e.2.2)) ∧ KD H ps ∧ dkeys ps = ls ∧ IntsIn ps
  | [], vs, _, h => by
    cases h
    exact ⟨[], [], rfl, .nil, KD.nil, rfl, fun e h => nomatch h⟩
  | l :: ls, vs, hf, h => by
    obtain ⟨v, ws, rfl, hv, hw⟩ := h.cons_inv
    obtain ⟨ts, ps, rfl, hp, kd, hk, hi⟩ := pairs_lay (fun l h => hf l (List.mem_cons_of_mem _ h)) hw
    obtain ⟨t, u1, u2, rfl, ht, hu1, hu2⟩ := hv.pair_inv
    have fl1 := hf l List.mem_cons_self
    obtain ⟨b, rfl, hb⟩ := hu1.eL_inv fl1
    obtain rfl := hu2.int_inv
    refine ⟨t :: ts, (l, b, .int 1) :: ps, rfl, .cons ht hp, fun p hpm => ?_, by unfold dkeys at hk ⊢; rw [List.map_cons, hk], fun e he => ?_⟩
    · rcases List.mem_cons.mp hpm with rfl | h
      · exact ⟨hb, fl1⟩
      · exact kd p h
    · rcases List.mem_cons.mp he with rfl | h
      · exact ⟨1, rfl⟩
      · exact hi e h
theorem putAll_intsIn : ∀ (ps acc : List Ent), IntsIn ps → IntsIn acc → IntsIn (putAll acc ps)
  | [], acc, _, h => h
  | p :: ps, acc, h, h2 => by
    show IntsIn (putAll (putD acc p.1 p.2.1 p.2.2) ps)
    refine putAll_intsIn ps _ (fun e he => h e (List.mem_cons_of_mem _ he)) ?_
    obtain ⟨i, hi⟩ := h p List.mem_cons_self
    rw [hi]
    exact h2.put i
theorem putAll_kd {H : Hp} : ∀ (ps acc : List Ent), KD H ps → KD H acc → KD H (putAll acc ps)
  | [], acc, _, h => h
  | p :: ps, acc, h, h2 => by
    show KD H (putAll (putD acc p.1 p.2.1 p.2.2) ps)
    have h0 := h p List.mem_cons_self
    exact putAll_kd ps _ (fun e he => h e (List.mem_cons_of_mem _ he)) (h2.put h0.1 h0.2)
def prD (p : List V × V) : PyData := .tuple [eL p.1, dV p.2]
def sp_law_now (P : Program) (w : World) (a : Ad) : Sp := fun vs H Q _ => ∃ (v : V) (l : Addr) (s : Sc) (lg : List Row), vs = [v, .ref l] ∧ Dq H v s.sD ∧ s.Ok ∧ Ls H l (lg.map rowD) ∧ (∀ r ∈ lg, RowOk s r) ∧ lg.length ≤ 1000 ∧ NewLs H ((srtL (lgF s (dk (lays s)) lg)).map eL) Q
def sp_law_firsts (a : Ad) : Sp := fun vs H Q _ => ∃ (l : Addr) (s : Sc) (PP : List (List V × V)), vs = [.ref l] ∧ s.Ok ∧ Ls H l (PP.map prD) ∧ (∀ p ∈ PP, Lay s p.1 ∧ fl p.2 = true) ∧ NewLs H ((srtL (dk (PP.map (·.1)))).map eL) Q
theorem r_consB {r : List V → Hp → VK → Prop} {te : TE} {ta : TA} {σ : St} {H : Hp} {Q : List V → Hp → Prop} (h : te σ H fun v H1 => r [v] H1 fun u H2 => ta σ H2 fun us H3 => Q (u :: us) H3) : tCons (tCB r (tCons te tNil)) ta σ H Q := h
section
variable {P : Program} {w : World} {K : PySem.W.Frag} {mg : Str → Option Value} {base : Heap} {a : Ad}
theorem sort_ok {H : Hp} {d : Addr} {kvs : List Ent} {s : Sc} {f : Addr} {Q : VK} (hd : Rd H d (DD P w d kvs)) (kd : KD H kvs) (o : s.Ok) (hl : ∀ l ∈ dkeys kvs, Lay s l) (k : ∀ p H', Same H H' → Ls H' p ((srtL (dkeys kvs)).map eL) → Q (.ref p) H') :
    rSortK P w f rk (fun l => l.length ≤ 1000 ∧ ∀ x ∈ l, LV x) [.ref d] [.ref f] H Q := by
  refine ⟨d, kvs, rfl, rfl, hd, kd, fun e he => ?_, fun e he => ?_, ?_, fun e he => ?_, fun p H' s1 h => k p H' s1 h⟩
  · have L := hl e.1 (List.mem_map.mpr ⟨e, he, rfl⟩)
    have := L.len o
    have := o.sz
    exact ⟨by omega, L.lv o⟩
  · have L := hl e.1 (List.mem_map.mpr ⟨e, he, rfl⟩)
    refine List.all_eq_true.mpr fun x hx => ?_
    obtain ⟨y, hy, rfl⟩ := List.mem_map.mp hx
    exact rk_fl (L.lv o y hy)
  · have := alike_ranks (ls := dkeys kvs) fun l h => (hl l h).lv o
    unfold dkeys at this
    rw [List.map_map] at this
    exact this
  · exact (hl e.1 (List.mem_map.mpr ⟨e, he, rfl⟩)).ne o
theorem ok_law_now (T : Txt K mg a) : FnOk P w K mg base CX0 5 a.f_law_now a.d_law_now ["_law_s", "_law_log"] (sp_law_now P w a) := by
  refine T.F_law_now.ok sc_law_now (fun vs H Q E h => ?_) (fun cdv A outer s H vs Q E hr h => ?_)
  · obtain ⟨v, l, s, lg, rfl, hs, o, hl, ok, hlg, k⟩ := h; rfl
  · obtain ⟨v, l, s, lg, rfl, hs, o, hl, ok, hlg, k⟩ := h
    have hu := hr.units
    refine ⟨_, (pss_one (ps_ret (pe_callBK (cr_sortK (ok_law_rank T) (hr.mono (by decide)) T.b_law_rank rfl law_rank_sp) (by rfl) T.z_sorted (by decide +kernel) (pa_cons (pe_call (ok_law_counts T) (hr.mono (by decide)) (by rfl) T.m_law_counts T.F_law_counts.kp T.b_law_counts .nil pass0 (pa_cons (pv 0) (pa_cons (pe_callTy (cr_dictOf hu rfl) (by rfl) T.z_dict (by decide +kernel) (pa_cons (pe_lc (own := [("_law_one", 2)]) (g := (gName 2)) rfl sc_law_now.nd (pi_list (pe_call (ok_law_layouts T) (hr.mono (by decide)) (by rfl) T.m_law_layouts T.F_law_layouts.kp T.b_law_layouts .nil pass0 (pa_cons (pv 0) pa_nil))) (blkOk_by (own := [("_law_one", 2)]) (N := ["_law_s", "_law_log", "_law_one"]) (sc := defScope s_law_now) (by decide +kernel))
       (fun _ _ _ _ _ => (pg_name (i := 2) sc_law_now.nd rfl (by first | exact Or.inl rfl | exact Or.inr rfl))) (fun _ _ _ _ _ => pts_nil) (fun _ _ _ _ _ => (pe_tupX (pa_cons (pv 2) (pa_cons pe_int pa_nil))))) pa_nil)) (pa_cons (pv 1) pa_nil)))) pa_nil) (pk_cons (pe_fn T.m_law_rank) pk_nil)))), ?_⟩
    have hsm := lays_small o
    refine ⟨_, rfl, ?_⟩
    dsimp only
    refine r_consB (lcL (lays s) eL (fun l => some (.tuple [eL l, .int 1])) (by omega) (fun R h => ⟨_, rfl, v, s, rfl, hs, o, fun q H1 s1 hq => h q H1 s1 hq⟩) (fun i lay x H1 hi s1 hx => ?_) (fun D H1 s1 hD => ?_))
    · exact turn_1 fun N hN => ⟨_, rfl, (by show 2 ≤ 1000000; decide), fun q H2 _ s2 hq => hN _ _ s2 (Dq.pair hq (hx.same s2) (.int 1))⟩
    have e0 : (lays s).filterMap (fun l => some (PyData.tuple [eL l, .int 1])) = (lays s).map fun l => .tuple [eL l, .int 1] := congrFun (List.filterMap_eq_map (f := fun l => PyData.tuple [eL l, .int 1])) _
    rw [e0] at hD
    obtain ⟨vs, hvs, hq⟩ := hD
    obtain ⟨ts, ps, rfl, hp, kd, hk, hi⟩ := pairs_lay (fun l h => (lays_lay o h).fl o) hq
    refine ⟨D, ts, _, ps, rfl, ⟨hvs, hp⟩, rfl, kd, fun d hd => ?_⟩
    have hkk : dkeys (putAll [] ps) = dk (lays s) := by rw [putAll_dk, hk]
    have kdn := (putAll_kd ps [] kd KD.nil).mono (Tk.new (o := DD P w d (putAll [] ps)) hd)
    have sd := s1.trans (Same.new hd (o := DD P w d (putAll [] ps)))
    have hLk : ∀ l ∈ dkeys (putAll [] ps), Lay s l := fun l h => lays_lay o (mem_dk.mp (hkk ▸ h))
    refine ⟨_, rfl, v, d, l, s, putAll [] ps, lg, rfl, hs.same sd, o, upd_same, kdn, putAll_intsIn ps [] hi (fun e h => nomatch h), by rw [hkk]; exact nd_dk _, hLk, ?_, hl.mono sd, ok, hlg, fun d' H2 kv' s2 hd2 kd2 hk2 => ?_⟩
    · have h1 := putAll_len ps []
      have h2 := congrArg List.length hk
      rw [dkeys_len] at h2
      simp only [List.length_nil] at h1
      omega
    · refine sort_ok (s := s) (.inl hd2) kd2 o (fun l h => ?_) ?_
      · rw [hk2] at h
        exact hLk l ((lgF_sub s lg _).subset h)
      · rw [hk2, hkk]
        exact fun p H3 s3 h3 => k p H3 ((sd.trans s2).trans s3) h3
theorem ok_law_firsts (T : Txt K mg a) : FnOk P w K mg base CX0 4 a.f_law_firsts a.d_law_firsts ["_law_pairs"] (sp_law_firsts a) := by
  refine T.F_law_firsts.ok sc_law_firsts (fun vs H Q E h => ?_) (fun cdv A outer s H vs Q E hr h => ?_)
  · obtain ⟨l, s, PP, rfl, o, hl, ok, k⟩ := h; rfl
  · obtain ⟨l, s, PP, rfl, o, hl, ok, k⟩ := h
    have hu := hr.units
    refine ⟨_, (pss_cons (ps_set (i := 1) sc_law_firsts.nd rfl (by first | exact Or.inl rfl | exact Or.inr rfl) pe_ddnew)
       (pss_cons (ps_for PassesOwn.never rfl (pi_list (pv 0)) (pg_name (i := 2) sc_law_firsts.nd rfl (by first | exact Or.inl rfl | exact Or.inr rfl))
       (pss_one (ps_ddput hu (pv 1) (pe_ix (ix_tupK K) (pv 2) pe_int (by intro _ _; rfl)) pe_bl rfl)))
       (pss_one (ps_ret (pe_callBK (cr_sortK (ok_law_rank T) (hr.mono (by decide)) T.b_law_rank rfl law_rank_sp) (by rfl) T.z_sorted (by decide +kernel) (pa_cons (pv 1) pa_nil) (pk_cons (pe_fn T.m_law_rank) pk_nil)))))), ?_⟩
    obtain ⟨vs, hvs, hq⟩ := hl
    have hvl : vs.length = PP.length := by rw [hq.length, List.length_map]
    intro f hf
    have s0 : Same H (upd H f (DD P w f [])) := Same.new hf
    have hLk : ∀ i, ∀ l ∈ dk ((PP.take i).map (·.1)), Lay s l := fun i l h => by
      obtain ⟨p, hp, rfl⟩ := List.mem_map.mp (mem_dk.mp h)
      exact (ok p (List.mem_of_mem_take hp)).1
    refine ⟨_, rfl, l, rfl, ⟨vs, SqL.of (s0 _ _ hvs)⟩, for_it (walk_list (xs := vs)) (fun i σ H' => ∃ v2 kv, σ = [some (.ref l), some (.ref f), v2] ∧ Same H H' ∧ H' f = some (DD P w f kv) ∧ KD H' kv ∧ dkeys kv = dk ((PP.take i).map (·.1)))
      ⟨_, [], rfl, s0, upd_same, KD.nil, rfl⟩ (fun i σ H' _ ⟨_, _, _, s1, _⟩ => SqL.of (s1 _ _ hvs)) ?_ ?_⟩
    · rintro i x σ H1 H1' hi ⟨v2, kv, rfl, s1, hf1, kd1, hk1⟩ ⟨rfl, hx⟩
      obtain ⟨dp, hdp, hxd⟩ := (hq.same s1).get hx
      rw [List.getElem?_map] at hdp
      obtain ⟨p, hp, rfl⟩ := Option.map_eq_some_iff.mp hdp
      obtain ⟨L, fp⟩ := ok p (List.mem_of_getElem? hp)
      obtain ⟨t, u1, u2, rfl, ht, hu1, hu2⟩ := hxd.pair_inv
      obtain ⟨b, rfl, hb⟩ := hu1.eL_inv (L.fl o)
      have hz : kv.length ≤ 1024 := by
        rw [← dkeys_len, hk1]
        exact lays_few o (nd_dk _) (hLk i)
      refine ⟨_, rfl, _, rfl, _, _, _, _, rfl, rfl, ht.seq, rfl, f, b, kv, p.1, rfl, rfl, hf1, kd1, hb, L.fl o, sz_lt (by omega), ?_⟩
      refine ⟨_, _, rfl, Same.mut s1 hf, upd_same, (kd1.put hb (L.fl o)).mono (Tk.upd (DD_not hf1)), ?_⟩
      rw [putD_keys, hk1, take_snoc hp, List.map_append, List.map_cons, List.map_nil, dk_snoc]
      by_cases e : p.1 ∈ dk ((PP.take i).map (·.1)) <;> simp [e]
    · rintro σ H1 ⟨v2, kv, rfl, s1, hf1, kd1, hk1⟩
      rw [hvl, List.take_length] at hk1
      refine ⟨_, rfl, sort_ok (s := s) (.inl hf1) kd1 o (fun l h => ?_) ?_⟩
      · rw [hk1] at h
        have := hLk PP.length
        rw [List.take_length] at this
        exact this l h
      · rw [hk1]
        exact fun p H3 s3 h3 => k p H3 (s1.trans s3) h3
end
end Cc

end

section
set_option Elab.async false
set_option linter.all false
set_option maxRecDepth 100000
set_option maxHeartbeats 8000000
set_option pp.maxSteps 1200
set_option pp.proofs false
namespace Cc
open PySem PySem.Spec L2

def mvD (z : List Int × V × List V) : PyData := .tuple [eI z.1, dV z.2.1, eL z.2.2]
def mvG (s : Sc) (l : List V) (c : Str) (k : Nat) : Option (List Int × V × List V) := if l[k]? = some .non then some (dd (edA s (l.idxOf (.str c))) (edA s k), .str c, swapL l (l.idxOf (.str c)) k) else none
theorem mvs_eq (s : Sc) (l : List V) : mvs s l = s.cs.flatMap fun c => (List.range l.length).filterMap (mvG s l c) := rfl
theorem r_asgQ {te : TE} {g : TG} {D : Ends} {σ : St} {H : Hp} (Pm : V → Hp → Prop) (h1 : ∀ v H7, Pm v H7 → g v σ H7 D.nx) (h2 : ∀ Q : VK, (∀ v H7, Pm v H7 → Q v H7) → te σ H Q) : tAsg te g D σ H := h2 _ h1
def sp_law_moves (a : Ad) : Sp := fun vs H Q _ => ∃ (v : V) (b : Addr) (s : Sc) (l : List V), vs = [v, .ref b] ∧ Dq H v s.sD ∧ s.Ok ∧ Tq H b l ∧ Lay s l ∧ NewLs H ((mvs s l).map mvD) Q
section
variable {P : Program} {w : World} {K : PySem.W.Frag} {mg : Str → Option Value} {base : Heap} {a : Ad}
theorem ok_law_moves (T : Txt K mg a) : FnOk P w K mg base CX0 2 a.f_law_moves a.d_law_moves ["_law_s", "_law_layout"] (sp_law_moves a) := by
  refine T.F_law_moves.ok sc_law_moves (fun vs H Q E h => ?_) (fun cdv A outer s H vs Q E hr h => ?_)
  · obtain ⟨v, b, s, l, rfl, hs, o, hb, L, k⟩ := h; rfl
  · obtain ⟨v, b, s, l, rfl, hs, o, hb, L, k⟩ := h
    have hu := hr.units
    refine ⟨_, (pss_cons (ps_par (i := 2) (j := 3) rfl sc_law_moves.nd rfl rfl (by decide) rfl rfl (pa_cons (pe_call (ok_law_edges T) (hr.mono (by decide)) (by rfl) T.m_law_edges T.F_law_edges.kp T.b_law_edges .nil pass0 (pa_cons (pv 0) pa_nil)) (pa_cons (pe_lst pa_nil) pa_nil)) (by rfl))
       (pss_cons (ps_for PassesOwn.never rfl (pi_tup (pe_ix (ix_tupK K) (pv 0) pe_int (by intro _ _; rfl))) (pg_name (i := 4) sc_law_moves.nd rfl (by first | exact Or.inl rfl | exact Or.inr rfl))
       (pss_cons (ps_set (i := 5) sc_law_moves.nd rfl (by first | exact Or.inl rfl | exact Or.inr rfl) (pe_bt PySem.F.slot_tuple_index PySem.F.type_tuple_index (mt_idxK K) (pv 1) (pa_cons (pv 4) pa_nil)))
       (pss_one (ps_for PassesOwn.never rfl (pi_range1 (by rfl) T.z_range (pa_cons (pe_callB (call_len_seqK K) (by rfl) T.z_len (by decide +kernel) (pa_cons (pv 1) pa_nil)) pa_nil)) (pg_name (i := 6) sc_law_moves.nd rfl (by first | exact Or.inl rfl | exact Or.inr rfl))
       (pss_one (ps_if (pt_cmp (pc_isN (pe_ix (ix_tupK K) (pv 1) (pv 6) (by intro _ _; rfl)))) (pss_cons (ps_set (i := 7) sc_law_moves.nd rfl (by first | exact Or.inl rfl | exact Or.inr rfl) (pe_slice (sl_tupXK K) (pe_tupX (pa_cons (pe_ix (ix_listK K) (pv 2) (pv 5) (by intro _ _; rfl)) (pa_cons (pe_ix (ix_listK K) (pv 2) (pv 6) (by intro _ _; rfl)) pa_nil))) po_none (po_some (pe_op op_add pe_int (pe_callTy call_int1 (by rfl) T.z_int (by decide +kernel) (pa_cons (pe_cmpR op_ne (pe_ix (ix_listK K) (pv 2) (pv 5) (by intro _ _; rfl)) (pe_ix (ix_listK K) (pv 2) (pv 6) (by intro _ _; rfl)) (nomark _)) pa_nil))))))
       (pss_one (ps_expr (pe_bm PySem.F.plainAttrs_list PySem.F.slot_list_append PySem.F.type_list_append mt_append (pv 3) (pa_cons (pe_tupX (pa_cons (pv 7) (pa_cons (pv 4) (pa_cons (pe_call (ok_law_turned T) (hr.mono (by decide)) (by rfl) T.m_law_turned T.F_law_turned.kp T.b_law_turned .nil pass0 (pa_cons (pv 1) (pa_cons (pv 5) (pa_cons (pv 6) pa_nil)))) pa_nil)))) pa_nil))))) pss_nil))))))
       (pss_one (ps_ret (pv 3))))), ?_⟩
    have hsz := o.sz
    have hll := L.len o
    obtain ⟨t, d, c0, ds, rfl, ht, hd, hq, hc0⟩ := sD_inv hs
    refine ⟨_, rfl, .ref t, s, rfl, hs, o, fun e H1 s1 he => ⟨by decide, fun f hf => ⟨_, _, rfl, ?_⟩⟩⟩
    have s2 : Same H (upd H1 f (.lst [])) := s1.trans (Same.new hf)
    have s12 : Same H1 (upd H1 f (.lst [])) := Same.new hf
    refine ⟨_, rfl, _, _, _, _, rfl, rfl, (ht.same s2).seq, rfl, c0, rfl, ⟨s.cv, (hc0.same s2).seq⟩, for_it (walk_tup (xs := s.cv)) (fun i σ H' => ∃ v4 v5 v6 v7, σ = [some (.ref t), some (.ref b), some (.ref e), some (.ref f), v4, v5, v6, v7] ∧ Same H1 H' ∧ Ls H' f (((s.cs.take i).flatMap fun c => (List.range l.length).filterMap (mvG s l c)).map mvD))
      ⟨_, _, _, _, rfl, s12, [], upd_same, .nil⟩ (fun i σ H' _ ⟨_, _, _, _, _, s3, _⟩ => (hc0.same (s1.trans s3)).seq) ?_ ?_⟩
    · rintro i x σ H2 H2' hi ⟨v4, v5, v6, v7, rfl, s3, hl3⟩ ⟨rfl, hx⟩
      have hx : s.cv[i]? = some x := hx
      have hx' := hx
      unfold Sc.cv at hx'
      rw [List.getElem?_map] at hx'
      obtain ⟨c, hc, rfl⟩ := Option.map_eq_some_iff.mp hx'
      have hcm := List.mem_of_getElem? hc
      have h1 := L.one o hcm
      have hb2 := (hb.same s1).same s3
      refine ⟨_, rfl, ⟨b, l, rfl, hb2⟩, _, rfl, b, l, .str c, rfl, rfl, hb2.seq, L.fl o, rfl, ?_, ?_⟩
      · exact List.count_pos_iff.mp (by omega)
      have hil : l.idxOf (.str c) < l.length := List.idxOf_lt_length_iff.mpr (List.count_pos_iff.mp (by omega))
      have gI : ∀ m, m < l.length → (s.ed.map V.int)[m]? = some (.int (edA s m)) := fun m hm => by rw [List.getElem?_map, edA_get (by omega)]; rfl
      refine ⟨_, rfl, b, l, rfl, .inr hb2.seq, (l.length : Int), rfl, by omega, by omega, ?_⟩
      refine for_it walk_range (fun j σ H' => ∃ v6 v7, σ = [some (.ref t), some (.ref b), some (.ref e), some (.ref f), some (.str c), some (.int (l.idxOf (.str c) : Nat)), v6, v7] ∧ Same H1 H' ∧ Ls H' f ((((s.cs.take i).flatMap fun c => (List.range l.length).filterMap (mvG s l c)) ++ (List.range j).filterMap (mvG s l c)).map mvD)) ⟨_, _, rfl, s3, by simpa using hl3⟩ (fun _ _ _ _ _ => trivial) ?_ ?_
      · rintro j y σ H3 H3' hj ⟨v6, v7, rfl, s4, acc, hacc, hqa⟩ ⟨rfl, rfl⟩
        have hj' : j < l.length := by omega
        have hy : l[j]? = some l[j] := List.getElem?_eq_getElem hj'
        revert hy
        generalize l[j] = y
        intro hy
        have hb3 := (hb.same s1).same s4
        have he3 := s4 _ _ he
        show gName 6 (V.int (0 + (j : Int))) _ _ _
        rw [Int.zero_add]
        refine ⟨_, rfl, _, rfl, b, l, (j : Int), y, rfl, rfl, hb3.seq, atI_nat hy, _, rfl, ?_⟩
        by_cases hn : y = .non
        · rw [decide_eq_true hn]
          subst hn
          have hmg : mvG s l c j = some (dd (edA s (l.idxOf (.str c))) (edA s j), .str c, swapL l (l.idxOf (.str c)) j) := if_pos hy
          refine iteT ?_
          refine r_seq (r_asgQ (fun u H7 => ∃ t5, u = .ref t5 ∧ Same H3' H7 ∧ Tq H7 t5 ((dd (edA s (l.idxOf (.str c))) (edA s j)).map V.int)) (fun u H5 ⟨t5, eu, s5, ht5⟩ => ?_) (fun Q hQ => ?_))
          · subst eu
            have hacc5 := s5 _ _ hacc
            have hz := hqa.length
            refine ⟨_, rfl, .inl ⟨rfl, _, SqL.of hacc5⟩, _, rfl, _, rfl, _, rfl, _, rfl, _, rfl, b, l, l.idxOf (.str c), j, rfl, hb3.same s5, hil, hj', fun t6 H6 s6 ht6 => ?_⟩
            refine ⟨(by show 3 ≤ 1000000; decide), fun t7 H7 _ s7 ht7 => ?_⟩
            have s57 := (s5.trans s6).trans s7
            have hacc7 := s57 _ _ hacc
            refine ⟨f, acc, _, rfl, rfl, hacc7, sz_lt ?_, ?_⟩
            · rw [List.length_map, List.length_append] at hz
              have h3 := flat_len (fun c => (List.range l.length).filterMap (mvG s l c)) l.length (s.cs.take i) fun x _ => by
                have := List.length_filterMap_le (mvG s l x) (List.range l.length)
                rw [List.length_range] at this
                exact this
              have h4 := List.length_filterMap_le (mvG s l c) (List.range j)
              rw [List.length_range] at h4
              have h5 : l.length * (s.cs.take i).length ≤ 5 * 3 := Nat.mul_le_mul (by omega) (Nat.le_trans (by rw [List.length_take]; omega) o.len.2.1)
              omega
            · refine ⟨_, _, rfl, Same.mut (s4.trans s57) hf, ?_⟩
              rw [List.range_succ, List.filterMap_append, List.filterMap_cons, hmg, List.filterMap_nil, ← List.append_assoc, List.map_append]
              refine Ls.push hacc7 (hqa.same s57) ?_
              exact .tup ht7 (.cons (Dq.eI (ht5.same (s6.trans s7))) (.cons (.str c) (.cons (Dq.eL (ht6.same s7) ((L.swap hil hj').fl o)) .nil)))
          · refine ⟨_, rfl, _, rfl, e, _, _, _, rfl, rfl, SqL.of he3, atI_nat (gI _ hil), _, rfl, _, rfl, e, _, _, _, rfl, rfl, SqL.of he3, atI_nat (gI _ hj'), (by show 2 ≤ 1000000; decide), fun t1 H4 _ s5 ht1 => ?_⟩
            have he4 := s5 _ _ he3
            refine ⟨_, rfl, _, rfl, e, _, _, _, rfl, rfl, SqL.of he4, atI_nat (gI _ hil), _, rfl, _, rfl, e, _, _, _, rfl, rfl, SqL.of he4, atI_nat (gI _ hj'), rfl, ?_⟩
            by_cases ee : edA s (l.idxOf (.str c)) = edA s j
            · refine .inr ⟨_, rfl, _, _, rfl, rfl, _, rfl, t1, _, rfl, ht1.seq, fun h => ?_, fun h => fun p H5 hp s6 hp6 => ?_⟩
              · rw [ee] at h
                simp [HT.sIx] at h
              · refine hQ _ _ ⟨p, rfl, s5.trans s6, ?_⟩
                unfold dd
                rw [if_pos ee]
                rw [ee] at hp6 ⊢
                simpa [cutV, HT.sIx] using hp6
            · refine .inr ⟨_, rfl, _, _, rfl, rfl, _, rfl, t1, _, rfl, ht1.seq, fun h => ?_, fun h => ?_⟩
              · refine hQ _ _ ⟨t1, rfl, s5, ?_⟩
                unfold dd
                rw [if_neg ee]
                exact ht1
              · exfalso
                apply h
                simp [HT.sIx, ee]
        · rw [decide_eq_false hn]
          refine iteF ⟨_, _, rfl, s4, acc, hacc, ?_⟩
          rw [List.range_succ, List.filterMap_append, List.filterMap_cons, show mvG s l c j = none from if_neg (by rw [hy]; exact fun z => hn (Option.some.inj z))]
          simpa using hqa
      · rintro σ H3 ⟨v6, v7, rfl, s4, hl4⟩
        refine ⟨_, _, _, _, rfl, s4, ?_⟩
        rw [show ((l.length : Int)).toNat = l.length by omega] at hl4
        rw [take_snoc hc, List.flatMap_append, List.flatMap_singleton]
        exact hl4
    · rintro σ H2 ⟨v4, v5, v6, v7, rfl, s3, hl3⟩
      have e1 : s.cv.length = s.cs.length := List.length_map ..
      rw [e1, List.take_length, ← mvs_eq] at hl3
      exact ⟨_, rfl, k f H2 (s1.trans s3) hl3⟩
end
end Cc

end

section
set_option Elab.async false
set_option linter.all false
set_option maxRecDepth 100000
set_option maxHeartbeats 8000000
set_option pp.maxSteps 1200
set_option pp.proofs false
namespace Cc
open PySem PySem.Spec L2

theorem eqv_shaped {d : PyData} (h : SeqAt.shaped d = true) : PyData.eqv d d = true := by
  unfold SeqAt.shaped at h
  rw [Bool.and_eq_true] at h
  exact SeqAt.eqv_refl_plain d (PyData.plain_of_canLay0 d h.1)
theorem shaped_strs {s : Sc} (o : s.Ok) {L : List Str} (h : ∀ c ∈ L, c ∈ s.cs) : SeqAt.shaped (.list (L.map PyData.str)) = true := shaped_lst (n := 0) (fun d hd => by
  obtain ⟨c, hc, rfl⟩ := List.mem_map.mp hd
  exact ⟨o.strOk (h c hc), Nat.le_refl _⟩) (by decide)
theorem eI_lay (l : List Int) : (eI l).canLay0 = true := lay_all fun d hd => by
  obtain ⟨i, _, rfl⟩ := List.mem_map.mp hd
  rfl
theorem eI_depth (l : List Int) : (eI l).depth ≤ 1 := by
  have : PyData.depthAll (l.map PyData.int) ≤ 0 := depth_all fun d hd => by
    obtain ⟨i, _, rfl⟩ := List.mem_map.mp hd
    exact Nat.le_refl _
  show PyData.depthAll (l.map PyData.int) + 1 ≤ 1
  omega
theorem shaped_eIs (L : List (List Int)) : SeqAt.shaped (.list (L.map eI)) = true := shaped_lst (n := 1) (fun d hd => by
  obtain ⟨l, _, rfl⟩ := List.mem_map.mp hd
  exact ⟨eI_lay l, eI_depth l⟩) (by decide)
theorem refs_eIs {H : Hp} : ∀ {dl : List (List Int)} {vs : List V}, DqAll H vs (dl.map eI) → ∃ ks : List (Addr × List Int), vs = ks.map (fun p => V.ref p.1) ∧ ks.map (·.2) = dl ∧ ∀ p ∈ ks, Tq H p.1 (p.2.map V.int)
  | [], _, h => by obtain rfl := h.nil_inv; exact ⟨[], rfl, rfl, fun p h => nomatch h⟩
  | d :: dl, _, h => by
    obtain ⟨v, ws, rfl, h1, h2⟩ := h.cons_inv
    obtain ⟨ks, rfl, e, h3⟩ := refs_eIs h2
    obtain ⟨b, rfl, hb⟩ := h1.eI_inv
    refine ⟨(b, d) :: ks, rfl, by rw [List.map_cons, e], fun p hp => ?_⟩
    rcases List.mem_cons.mp hp with rfl | hp
    · exact hb
    · exact h3 p hp
def nmOf : V → Option Str
  | .str c => some c
  | _ => none
/-- lists of doors: few -/
def allDoors : List (List Int) := ((List.range 4).map fun i : Nat => [(i : Int)]) ++ (List.range 4).flatMap fun i : Nat => (List.range 4).map fun j : Nat => [(i : Int), (j : Int)]
theorem doors_in {s : Sc} (o : s.Ok) {d : List Int} (h : DoorsOk s d) : d ∈ allDoors := by
  obtain ⟨_, h1, h2, h3⟩ := h
  have h4 := o.d4
  have fin : ∀ e : Int, 0 ≤ e → e < s.ds.length → ∃ n : Nat, n < 4 ∧ (n : Int) = e := fun e a b => ⟨e.toNat, by omega, by omega⟩
  match d, h1, h2, h3 with
  | [e], _, _, h3 =>
    obtain ⟨n, hn, e1⟩ := fin e (h3 e List.mem_cons_self).1 (h3 e List.mem_cons_self).2
    exact List.mem_append_left _ (List.mem_map.mpr ⟨n, List.mem_range.mpr hn, by rw [e1]⟩)
  | [e, f], _, _, h3 =>
    obtain ⟨n, hn, e1⟩ := fin e (h3 e List.mem_cons_self).1 (h3 e List.mem_cons_self).2
    obtain ⟨m, hm, e2⟩ := fin f (h3 f (List.mem_cons_of_mem _ List.mem_cons_self)).1 (h3 f (List.mem_cons_of_mem _ List.mem_cons_self)).2
    exact List.mem_append_right _ (List.mem_flatMap.mpr ⟨n, List.mem_range.mpr hn, List.mem_map.mpr ⟨m, List.mem_range.mpr hm, by rw [e1, e2]⟩⟩)
def sp_law_tells (P : Program) (w : World) (a : Ad) : Sp := fun vs H Q _ => ∃ (v : V) (x mv ac pl rl : Addr) (s : Sc) (Ks : List (List V)) (PPk PP : List (List V × V)) (told : List PyData) (rows : List (List V)), vs = [v, .ref x, .ref pl, .ref rl] ∧ Dq H v s.sD ∧ KeeperAt P w a H x mv ac s Ks PPk told ∧ s.Ok ∧ Ls H pl (PP.map prD) ∧
  (∀ p ∈ PP, Lay s p.1 ∧ (p.2 = .non ∨ ∃ c ∈ s.cs, p.2 = .str c)) ∧ PP.length ≤ 100000 ∧ Ls H rl (rows.map eL) ∧ (∀ l, l ∈ rows ↔ l ∈ Ks) ∧ rows.length ≤ 1024 ∧ (∀ c, (∃ l ∈ Ks, (l, V.str c) ∈ PPk) ↔ ∃ l, (l, V.str c) ∈ PP) ∧ ∀ H', Same H H' → Q (.bl true) H'
section
variable {P : Program} {w : World} {K : PySem.W.Frag} {mg : Str → Option Value} {base : Heap} {a : Ad}
theorem ok_law_tells (T : Txt K mg a) : FnOk P w K mg base CX0 5 a.f_law_tells a.d_law_tells ["_law_s", "_law_keeper", "_law_pairs", "_law_rows"] (sp_law_tells P w a) := by
  refine T.F_law_tells.ok sc_law_tells (fun vs H Q E h => ?_) (fun cdv A outer s H vs Q E hr h => ?_)
  · obtain ⟨v, x, mv, ac, pl, rl, s, Ks, PPk, PP, told, rows, rfl, hs, KA, o, hpl, hpp, hpz, hrl, hrk, hrz, hnm, k⟩ := h; rfl
  · obtain ⟨v, x, mv, ac, pl, rl, s, Ks, PPk, PP, told, rows, rfl, hs, KA, o, hpl, hpp, hpz, hrl, hrk, hrz, hnm, k⟩ := h
    have hu := hr.units
    refine ⟨_, (pss_cons (ps_if (pt_cmpR (op_neDK K hu) (pe_meth0 (pv 1) T.clK T.t_Keeper_could_have_moved (ok_Keeper_could_have_moved T) (hr.mono (by decide)) T.b_Keeper_could_have_moved .nil pass0) (pe_callB (cr_sortedS hu rfl) (by rfl) T.z_sorted (by decide +kernel) (pa_cons (pe_callTy (cr_setOfSK K rfl) (by rfl) T.z_set (by decide +kernel) (pa_cons (pe_lc (own := [("_law_pair", 4)]) (g := (gName 4)) rfl sc_law_tells.nd (pi_list (pv 2)) (blkOk_by (own := [("_law_pair", 4)]) (N := ["_law_s", "_law_keeper", "_law_pairs", "_law_rows", "_law_pair", "_law_doors", "_law_some", "_law_step"]) (sc := defScope s_law_tells) (by decide +kernel))
       (fun _ _ _ _ _ => (pg_name (i := 4) sc_law_tells.nd rfl (by first | exact Or.inl rfl | exact Or.inr rfl))) (fun _ _ _ _ _ => (pts_one (pt_cmp (pc_notN (pe_ix (ix_tupK K) (pv 4) pe_int (by intro _ _; rfl)))))) (fun _ _ _ _ _ => (pe_ix (ix_tupK K) (pv 4) pe_int (by intro _ _; rfl)))) pa_nil)) pa_nil)) (nomark _)) (pss_one (ps_ret pe_bl)) pss_nil)
       (pss_cons (ps_set (i := 5) sc_law_tells.nd rfl (by first | exact Or.inl rfl | exact Or.inr rfl) (pe_lst pa_nil))
       (pss_cons (ps_for PassesOwn.never rfl (pi_list (pv 3)) (pg_name (i := 6) sc_law_tells.nd rfl (by first | exact Or.inl rfl | exact Or.inr rfl))
       (pss_one (ps_set (i := 5) sc_law_tells.nd rfl (by first | exact Or.inl rfl | exact Or.inr rfl) (pe_op op_cat (pv 5) (pe_lc (own := [("_law_step", 7)]) (g := (gName 7)) rfl sc_law_tells.nd (pi_list (pe_call (ok_law_moves T) (hr.mono (by decide)) (by rfl) T.m_law_moves T.F_law_moves.kp T.b_law_moves .nil pass0 (pa_cons (pv 0) (pa_cons (pv 6) pa_nil)))) (blkOk_by (own := [("_law_step", 7)]) (N := ["_law_s", "_law_keeper", "_law_pairs", "_law_rows", "_law_pair", "_law_doors", "_law_some", "_law_step"]) (sc := defScope s_law_tells) (by decide +kernel))
       (fun _ _ _ _ _ => (pg_name (i := 7) sc_law_tells.nd rfl (by first | exact Or.inl rfl | exact Or.inr rfl))) (fun _ _ _ _ _ => pts_nil) (fun _ _ _ _ _ => (pe_ix (ix_tupK K) (pv 7) pe_int (by intro _ _; rfl))))))))
       (pss_cons (ps_if (pt_cmpR (op_neDK K hu) (pe_meth0 (pv 1) T.clK T.t_Keeper_next_doors (ok_Keeper_next_doors T) (hr.mono (by decide)) T.b_Keeper_next_doors .nil pass0) (pe_callB (cr_sortedIK K hu rfl) (by rfl) T.z_sorted (by decide +kernel) (pa_cons (pe_callTy (cr_setOfIK K rfl hu) (by rfl) T.z_set (by decide +kernel) (pa_cons (pv 5) pa_nil)) pa_nil)) (nomark _)) (pss_one (ps_ret pe_bl)) pss_nil)
       (pss_one (ps_ret pe_bl)))))), ?_⟩
    obtain ⟨⟨dx, st, kvs, h1, _⟩, _⟩ := id KA
    refine ⟨_, rfl, x, dx, _, rfl, h1, kfl_no _ _ _ (by decide +kernel) (by decide +kernel) (by decide +kernel), x, mv, ac, s, Ks, PPk, told, rfl, KA, o, fun q1 H1 s1 hq1 => ?_⟩
    dsimp only
    refine r_cb1 (r_cb1 (lcL PP prD (fun p => (nmOf p.2).map PyData.str) (by omega) (fun R h => ⟨_, rfl, h pl H1 (Same.refl _) (hpl.mono s1)⟩) (fun i p y H2 hp s2 hy => ?_) (fun D H2 s2 hD => ?_)))
    · obtain ⟨L, hc⟩ := hpp p (List.mem_of_getElem? hp)
      have fp : fl p.2 = true := by rcases hc with e | ⟨c, _, e⟩ <;> rw [e] <;> rfl
      obtain ⟨t, u1, u2, rfl, ht, hu1, hu2⟩ := hy.pair_inv
      obtain rfl := Dq.flat_inv fp hu2
      refine turn_t (b := decide (p.2 ≠ .non)) (fun R h => ⟨_, rfl, _, _, _, _, rfl, rfl, ht.seq, rfl, _, rfl, ?_⟩) (fun hb => ?_) (fun hb => ?_)
      · have : (!decide (p.2 = V.non)) = decide (p.2 ≠ .non) := by simp
        rw [this]
        exact h _ (Same.refl _)
      · have := of_decide_eq_false hb
        rw [show p.2 = .non by simpa using this]
        rfl
      · have := of_decide_eq_true hb
        rcases hc with e | ⟨c, _, e⟩
        · exact absurd e this
        · exact ⟨.str c, by rw [e]; rfl, fun H3 s3 N hN => ⟨_, rfl, _, _, _, _, rfl, rfl, (ht.same s3).seq, rfl, hN _ _ (Same.refl _) (by rw [e]; exact .str c)⟩⟩
    have e1 : PP.filterMap (fun p => (nmOf p.2).map PyData.str) = (PP.filterMap fun p => nmOf p.2).map PyData.str := List.map_filterMap.symm
    rw [e1] at hD
    have hnn : ∀ c, c ∈ (PP.filterMap fun p => nmOf p.2) ↔ c ∈ s.cs ∧ decide (∃ l ∈ Ks, (l, V.str c) ∈ PPk) = true := fun c => by
      rw [List.mem_filterMap, decide_eq_true_eq, hnm]
      constructor
      · rintro ⟨p, hp, e⟩
        obtain ⟨p1, p2⟩ := p
        rcases (hpp _ hp).2 with e2 | ⟨c', hc', e2⟩
        · simp only at e2 e
          rw [e2] at e
          cases e
        · simp only at e2 e
          subst e2
          obtain rfl : c' = c := by injection e
          exact ⟨hc', p1, hp⟩
      · rintro ⟨_, l, hl⟩
        exact ⟨_, hl, rfl⟩
    revert hD hnn
    generalize (PP.filterMap fun p => nmOf p.2) = nn
    intro hD hnn
    have ek : (nn.map Sum.inr : List Key).map kV = nn.map V.str := by rw [List.map_map]; rfl
    refine ⟨D, nn.map Sum.inr, rfl, .inl (SqL.of (by rw [ek]; exact hD.strs)), fun SL n1 n2 => ?_, fun sa SL hsa n1 n2 n3 => ?_⟩
    · have := nd_len (ks := s.cs.map Sum.inr) n1 fun k hk => by
        obtain ⟨c, hc, rfl⟩ := List.mem_map.mp (n2 k hk)
        exact mem_inr.mpr ((hnn c).mp hc).1
      rw [List.length_map] at this
      have := o.len
      unfold PySem.scanBound
      omega
    obtain ⟨Lc, rfl⟩ := inr_keys fun k hk => by
      obtain ⟨c', _, e⟩ := List.mem_map.mp (n2 k hk)
      exact ⟨c', e.symm⟩
    have eS : ((Lc.map Sum.inr : List Key).map fun k => dV (kV k)) = Lc.map PyData.str := by rw [List.map_map]; rfl
    refine ⟨sa, _, rfl, upd_same, alike_strs1 (fun d hd => ?_), fun ds q5 H3 hds s3 hq5 => ?_⟩
    · rw [eS] at hd
      obtain ⟨c', _, e⟩ := List.mem_map.mp hd
      exact ⟨c', e.symm⟩
    rw [eS] at hds
    have hsr := names_sorted' o hds (nd_inr.mp n1) (p := fun c => decide (∃ l ∈ Ks, (l, V.str c) ∈ PPk)) fun c => by
      rw [← hnn c]
      exact ⟨fun h => mem_inr.mp (n2 _ (mem_inr.mpr h)), fun h => mem_inr.mp (n3 _ (mem_inr.mpr h))⟩
    rw [hsr] at hq5
    have s13 : Same H1 H3 := (s2.trans (Same.new hsa)).trans s3
    have shn : SeqAt.shaped (.list ((nmA s Ks PPk).map PyData.str)) = true := shaped_strs o fun c hc => (List.mem_filter.mp hc).1
    refine ⟨_, _, (hq1.mono s13).dp, hq5.dp, shn, shn, _, rfl, ?_⟩
    have eq1 := eqv_shaped shn
    unfold nmA at eq1 ⊢
    rw [eq1]
    refine iteF ?_
    have s03 := s1.trans s13
    -- doors = []
    refine r_next ?_
    refine ⟨by decide, fun d0 hd0 => ?_⟩
    obtain ⟨rs, hrs, hqr⟩ := hrl
    have hrl2 : rs.length = rows.length := by rw [hqr.length, List.length_map]
    have s4 : Same H3 (upd H3 d0 (.lst [])) := Same.new hd0
    have lenI : ∀ i, ((rows.take i).flatMap fun l => (mvs s l).map (·.1)).length ≤ 15 * i := fun i => by
      have := flat_len (fun l => (mvs s l).map (·.1)) 15 (rows.take i) fun l hl => ?_
      · rw [List.length_take] at this
        omega
      · have L : Lay s l := KA.lay _ ((hrk _).mp (List.mem_of_mem_take hl))
        have h1 := mvs_len o l
        have h2 := L.len o
        have h3 := o.sz
        rw [List.length_map]
        omega
    refine ⟨_, rfl, rl, rfl, ⟨rs, SqL.of ((s03.trans s4) _ _ hrs)⟩, for_it (walk_list (xs := rs)) (fun i σ H' => ∃ v4 dl v6 v7, σ = [some v, some (.ref x), some (.ref pl), some (.ref rl), v4, some (.ref dl), v6, v7] ∧ Same H3 H' ∧ Ls H' dl (((rows.take i).flatMap fun l => (mvs s l).map (·.1)).map eI))
      ⟨_, d0, _, _, rfl, s4, [], upd_same, .nil⟩ (fun i σ H' _ ⟨_, _, _, _, _, s5, _⟩ => SqL.of (s5 _ _ (s03 _ _ hrs))) ?_ ?_⟩
    · rintro i y σ H4 H4' hi ⟨v4, dl, v6, v7, rfl, s5, hdl⟩ ⟨rfl, hy⟩
      have s05 := s03.trans s5
      obtain ⟨dr, hdr, hyd⟩ := (hqr.same s05).get hy
      rw [List.getElem?_map] at hdr
      obtain ⟨lay, hlay, rfl⟩ := Option.map_eq_some_iff.mp hdr
      have L : Lay s lay := KA.lay _ ((hrk _).mp (List.mem_of_getElem? hlay))
      obtain ⟨b, rfl, hb⟩ := hyd.eL_inv (L.fl o)
      have hml := mvs_len o lay
      have hll := L.len o
      have hsz := o.sz
      refine ⟨_, rfl, ?_⟩
      refine lcL (mvs s lay) mvD (fun z => some (eI z.1)) (by omega) (fun R h => ⟨_, rfl, _, rfl, v, b, s, lay, rfl, hs.same s05, o, hb, L, fun q H5 s6 hq5 => h q H5 s6 hq5⟩) (fun j z y H5 hz s6 hy5 => ?_) (fun D5 H5 s6 hD5 => ?_)
      · obtain ⟨t, u1, u2, u3, rfl, ht, hu1, hu2, hu3⟩ := hy5.trip_inv
        exact turn_1 fun N hN => ⟨_, rfl, _, _, _, _, rfl, rfl, ht.seq, rfl, hN _ _ (Same.refl _) hu1⟩
      · have e5 : (mvs s lay).filterMap (fun z => some (eI z.1)) = ((mvs s lay).map (·.1)).map eI := by
          rw [List.map_map]
          exact congrFun (List.filterMap_eq_map (f := fun z : List Int × V × List V => eI z.1)) _
        rw [e5] at hD5
        obtain ⟨vs1, hv1, hq1'⟩ := hdl.mono s6
        obtain ⟨vs2, hv2, hq2'⟩ := hD5
        have l1 := hq1'.length
        have l2 := hq2'.length
        rw [List.length_map] at l1 l2
        have := lenI i
        rw [List.length_map] at l2
        refine ⟨dl, D5, vs1, vs2, rfl, rfl, hv1, hv2, sz_ok (by omega), fun p hp => ?_⟩
        refine ⟨_, p, _, _, rfl, (s5.trans s6).trans (Same.new hp), _, upd_same, ?_⟩
        rw [take_snoc hlay, List.flatMap_append, List.flatMap_singleton, List.map_append]
        exact (hq1'.append hq2').mono (Tk.new hp)
    · rintro σ H4 ⟨v4, dl, v6, v7, rfl, s5, hdl⟩
      rw [hrl2, List.take_length] at hdl
      have s05 := s03.trans s5
      refine ⟨_, rfl, x, dx, _, rfl, s05 _ _ h1, kfl_no _ _ _ (by decide +kernel) (by decide +kernel) (by decide +kernel), x, mv, ac, s, Ks, PPk, told, rfl, KA.mono s05, o, fun ds q6 H6 s6 hnd hmem hq6 => ?_⟩
      obtain ⟨vs, hvs, hqv⟩ := hdl.mono s6
      obtain ⟨ks, rfl, hks, hkt⟩ := refs_eIs hqv
      have hin : ∀ d, d ∈ ks.map (·.2) ↔ ∃ l ∈ Ks, ∃ y l', Mv s l d y l' := fun d => by
        rw [hks, List.mem_flatMap]
        constructor
        · rintro ⟨l, hl, h⟩
          obtain ⟨z, hz, rfl⟩ := List.mem_map.mp h
          have hl' := (hrk l).mp hl
          exact ⟨l, hl', z.2.1, z.2.2, (mem_mvs o (KA.lay l hl')).mp hz⟩
        · rintro ⟨l, hl, y, l', m⟩
          exact ⟨l, (hrk l).mpr hl, List.mem_map.mpr ⟨_, (mem_mvs o (KA.lay l hl)).mpr m, rfl⟩⟩
      refine ⟨_, rfl, dl, ks, rfl, SqL.of hvs, fun p hp => (hkt p hp).seq, fun L n1 n2 => ?_, fun sa L hsa n1 n2 n3 => ?_⟩
      · have := nd_len (ks := allDoors) n1 fun d hd => by
          obtain ⟨l, hl, y, l', m⟩ := (hin d).mp (n2 d hd)
          exact doors_in o (m.doors o (KA.lay l hl))
        have e : allDoors.length = 20 := by decide
        omega
      · have tkn : Tk H6 (upd H6 sa (SetTO P w sa L)) := Tk.new hsa
        refine ⟨sa, L, rfl, upd_same, fun p hp => tkn _ _ (hkt p (n2 p hp)), ?_, fun p hp => ?_, fun ds2 p7 H7 hds2 s7 hp7 => ?_⟩
        · have := alike_eIs (L.map (·.2))
          rw [List.map_map] at this
          exact this
        · obtain ⟨l, hl, y, l', m⟩ := (hin p.2).mp (List.mem_map.mpr ⟨p, n2 p hp, rfl⟩)
          intro z
          have := (m.doors o (KA.lay l hl)).2.1
          rw [z] at this
          simp at this
        · have hds3 : ds2.Perm ((L.map (·.2)).map eI) := by rw [List.map_map]; exact hds2
          obtain ⟨L', pL, rfl⟩ := perm_lift hds3 rfl
          have pD : L'.Perm ds := pL.trans (nd_perm n1 hnd fun d => by
            rw [hmem d, ← hin d]
            refine ⟨fun h => ?_, fun h => ?_⟩
            · obtain ⟨p, hp, rfl⟩ := List.mem_map.mp h
              exact List.mem_map.mpr ⟨p, n2 p hp, rfl⟩
            · obtain ⟨p, hp, rfl⟩ := List.mem_map.mp h
              exact n3 p hp)
          rw [srtD_ints pD] at hp7
          obtain ⟨Ld, _, eLd⟩ := srtD_lift (List.Perm.refl (ds.map eI))
          have shd : SeqAt.shaped (.list (srtD (ds.map eI))) = true := by rw [eLd]; exact shaped_eIs Ld
          have s67 : Same H6 H7 := (Same.new hsa).trans s7
          refine ⟨_, _, (hq6.mono s67).dp, hp7.dp, shd, shd, _, rfl, ?_⟩
          rw [eqv_shaped shd]
          exact iteF (k H7 ((s05.trans s6).trans s67))
end
end Cc

end

section
set_option Elab.async false
set_option linter.all false
set_option maxRecDepth 100000
set_option maxHeartbeats 8000000
set_option pp.maxSteps 1200
set_option pp.proofs false
namespace Cc
open PySem PySem.Spec L2

/-! ### what stands between two turns of the law -/
theorem KeeperAt.sx1 {P : Program} {w : World} {a : Ad} {H H' : Hp} {x mv ac r : Addr} {s : Sc} {Ks : List (List V)} {PP : List (List V × V)} {told : List PyData} {ys : List V} (h : KeeperAt P w a H x mv ac s Ks PP told) (hr : H r = some (.lst ys)) (n : ac ≠ r) (sx : Sx [r] H H') : KeeperAt P w a H' x mv ac s Ks PP told := by
  obtain ⟨⟨dx, st, kvs, h1, h2, h3, h4, h5, h6, h7⟩, ⟨vs, h8, h8'⟩, h9, h10⟩ := h
  have kinds : ∀ b ∈ [r], (∃ C dx fs, H b = some (.ins C dx fs)) ∨ ∃ ys, H b = some (.lst ys) := fun b hb => by
    rw [List.mem_singleton] at hb
    exact .inr ⟨ys, hb ▸ hr⟩
  have tk : Tk H H' := sx.tk fun b hb o ys z => by
    rcases kinds b hb with ⟨C, dx, fs, h⟩ | ⟨ys', h⟩ <;> rw [h] at z <;> cases z
  have n1 : x ∉ [r] := by rw [List.mem_singleton]; exact ne_of h1 hr (by intro z; cases z)
  have n2 : mv ∉ [r] := by rw [List.mem_singleton]; exact ne_of h4 hr (by unfold DD; intro z; cases z)
  exact ⟨⟨dx, st, kvs, sx _ _ n1 h1, h2.sx sx kinds, h3, sx _ _ n2 h4, h5.mono tk, h6, h7.mono tk⟩, ⟨vs, sx _ _ (by simpa using n) h8, h8'.mono tk⟩, h9, h10⟩
theorem Same.sx1 {H0 H H' : Hp} {r : Addr} (s : Same H0 H) (n : H0 r = none) (e : Sx [r] H H') : Same H0 H' := fun b u hb => e b u (by rw [List.mem_singleton]; rintro rfl; rw [n] at hb; cases hb) (s b u hb)
structure LC (P : Program) (w : World) (a : Ad) (H0 : Hp) (q : Addr) (H : Hp) (r x mv ac tl pl lb : Addr) (sv : V) (s : Sc) (l : List V) (Ks : List (List V)) (PPk PP : List (List V × V)) (told : List PyData) : Prop where
  same : Same H0 H
  fr : H0 r = none
  fx : H0 x = none
  fac : H0 ac = none
  ftl : H0 tl = none
  row : RowAt H r q
  nra : r ≠ ac
  nrt : r ≠ tl
  nta : tl ≠ ac
  npr : pl ≠ r
  npa : pl ≠ ac
  npt : pl ≠ tl
  sd : Dq H sv s.sD
  ok : s.Ok
  lb : Tq H lb l
  lk : l ∈ Ks
  ka : KeeperAt P w a H x mv ac s Ks PPk told
  tl : Ls H tl told
  pl : Ls H pl (PP.map prD)
  pp : ∀ p ∈ PP, Lay s p.1 ∧ (p.2 = .non ∨ ∃ c ∈ s.cs, p.2 = .str c)
  pk : ∀ l, l ∈ Ks ↔ ∃ y, (l, y) ∈ PP
  nm : ∀ l ∈ Ks, ∀ c, (l, V.str c) ∈ PPk ↔ (l, V.str c) ∈ PP
  pz : PP.length ≤ 100000
  tsh : ∀ d ∈ told, d.canLay0 = true ∧ d.depth ≤ 2
section
variable {P : Program} {w : World} {a : Ad} {H0 H H' : Hp} {q r x mv ac tl pl lb : Addr} {sv : V} {s : Sc} {l : List V} {Ks : List (List V)} {PPk PP : List (List V × V)} {told : List PyData}
theorem LC.mono (C : LC P w a H0 q H r x mv ac tl pl lb sv s l Ks PPk PP told) (e : Same H H') : LC P w a H0 q H' r x mv ac tl pl lb sv s l Ks PPk PP told :=
  { C with same := C.same.trans e, row := C.row.same e, sd := C.sd.same e, lb := C.lb.same e, ka := C.ka.mono e, tl := C.tl.mono e, pl := C.pl.mono e }
theorem LC.turn (C : LC P w a H0 q H r x mv ac tl pl lb sv s l Ks PPk PP told) (e : Sx [r] H H') (hr : RowAt H' r q) : LC P w a H0 q H' r x mv ac tl pl lb sv s l Ks PPk PP told := by
  have tk := e.tk C.row.ntup
  obtain ⟨i, s', c, h1, _⟩ := id C.row
  exact { C with same := Same.sx1 C.same C.fr e, row := hr, sd := C.sd.mono tk, lb := tk _ _ C.lb, ka := C.ka.sx1 h1 C.nra.symm e, tl := C.tl.sx C.row e C.nrt.symm, pl := C.pl.sx C.row e C.npr }
theorem LC.next {d : PyData} {c : V} {mv' pl' lb' : Addr} {l' : List V} {Ks' : List (List V)} {PPk' PP' : List (List V × V)} (C : LC P w a H0 q H r x mv ac tl pl lb sv s l Ks PPk PP told) (sx : Sx [x, ac] H H') (ka : KeeperAt P w a H' x mv' ac s Ks' PPk' (told ++ [d]))
    (hpl : Ls H pl' (PP'.map prD)) (n1 : pl' ≠ r) (n2 : pl' ≠ ac) (n3 : pl' ≠ tl) (hlb : Tq H lb' l') (lk : l' ∈ Ks') (pp : ∀ p ∈ PP', Lay s p.1 ∧ (p.2 = .non ∨ ∃ c ∈ s.cs, p.2 = .str c)) (pk : ∀ l, l ∈ Ks' ↔ ∃ y, (l, y) ∈ PP')
    (nm : ∀ l ∈ Ks', ∀ c, (l, V.str c) ∈ PPk' ↔ (l, V.str c) ∈ PP') (pz : PP'.length ≤ 100000) (hc : Dq H c d) (sh : d.canLay0 = true ∧ d.depth ≤ 2) :
    ∃ vs, H' tl = some (.lst vs) ∧ vs.length = told.length ∧ LC P w a H0 q (upd H' tl (.lst (vs ++ [c]))) r x mv' ac tl pl' lb' sv s l' Ks' PPk' PP' (told ++ [d]) := by
  obtain ⟨⟨dx, st, kvs, h1, _⟩, ⟨va, ha, _⟩, _⟩ := id C.ka
  obtain ⟨i, s', c', hr, hri⟩ := id C.row
  obtain ⟨vt, ht, hqt⟩ := C.tl
  obtain ⟨vp, hp, hqp⟩ := hpl
  have kinds : ∀ b ∈ [x, ac], (∃ C dx fs, H b = some (.ins C dx fs)) ∨ ∃ ys, H b = some (.lst ys) := fun b hb => by
    simp only [List.mem_cons, List.not_mem_nil, or_false] at hb
    rcases hb with rfl | rfl
    · exact .inl ⟨_, _, _, h1⟩
    · exact .inr ⟨_, ha⟩
  have tk : Tk H H' := sx.tk fun b hb o ys z => by
    rcases kinds b hb with ⟨C, dx, fs, h⟩ | ⟨ys', h⟩ <;> rw [h] at z <;> cases z
  have mem : ∀ {b : Addr} {ys : List V}, H b = some (.lst ys) → b ≠ ac → b ∉ [x, ac] := fun {b ys} hb n => by
    simp only [List.mem_cons, List.not_mem_nil, or_false, not_or]
    exact ⟨ne_of hb h1 (by intro z; cases z), n⟩
  have ht' := sx _ _ (mem ht C.nta) ht
  have hr' := sx _ _ (mem hr C.nra) hr
  have hp' := sx _ _ (mem hp n2) hp
  have sx2 : Sx [tl] H' (upd H' tl (.lst (vt ++ [c]))) := Sx.up Sx.refl'
  have tk2 : Tk H' (upd H' tl (.lst (vt ++ [c]))) := Tk.lst ht'
  refine ⟨vt, ht', by rw [hqt.length], ?_⟩
  refine { same := ?_, fr := C.fr, fx := C.fx, fac := C.fac, ftl := C.ftl, row := ⟨i, s', c', by rw [upd_ne C.nrt]; exact hr', hri⟩, nra := C.nra, nrt := C.nrt, nta := C.nta, npr := n1, npa := n2, npt := n3, sd := (C.sd.mono tk).mono tk2, ok := C.ok, lb := tk2 _ _ (tk _ _ hlb), lk := lk, ka := ka.sx1 ht' C.nta.symm sx2, tl := ?_, pl := ⟨vp, by rw [upd_ne n3]; exact hp', (hqp.mono tk).mono tk2⟩, pp := pp, pk := pk, nm := nm, pz := pz, tsh := fun e he => ?_ }
  · refine Same.mut (fun b u hb => sx _ _ ?_ (C.same _ _ hb)) C.ftl
    simp only [List.mem_cons, List.not_mem_nil, or_false, not_or]
    exact ⟨ne_of_none hb C.fx, ne_of_none hb C.fac⟩
  · exact Ls.push ht' (hqt.mono tk) (hc.mono tk)
  · rcases List.mem_append.mp he with he | he
    · exact C.tsh e he
    · rw [List.mem_singleton] at he
      exact he ▸ sh
end
end Cc

end

section
set_option Elab.async false
set_option linter.all false
set_option maxRecDepth 100000
set_option maxHeartbeats 8000000
set_option pp.maxSteps 1200
set_option pp.proofs false
namespace Cc
open PySem PySem.Spec L2

theorem r_yes' {A B : Hp → Prop} {σ : St} {H : Hp} (h : A H) : tYes σ H fun b H3 => if b = true then A H3 else B H3 := by show (if true = true then A H else B H); rw [if_pos rfl]; exact h
section
variable {K : PySem.W.Frag} {tt : TT} {te tl : TE} {vs : List Nat} {σ : St} {H : Hp} {Q : VK}
/-- a comprehension over a tuple of flat things whose turns draw from the row -/
theorem lcRow {i : Nat} {r q : Addr} {xs : List V} (Okp : V → V → Prop) (hsz : xs.length ≤ 1000000) (hrow : RowAt H r q)
    (hl : ∀ R : VK, (∀ a H1, Same H H1 → Tq H1 a xs → R (.ref a) H1) → tl σ H R)
    (turn : ∀ (j : Nat) x H1, xs[j]? = some x → Sx [r] H H1 → RowAt H1 r q → ∀ N : VK, (∀ y H2, Sx [r] H1 H2 → RowAt H2 r q → Okp x y → fl y = true → N y H2) → te ((wipe σ vs).set i (some x)) H1 N)
    (hw : ∀ x, wipe ((wipe σ vs).set i (some x)) vs = wipe σ vs)
    (done : ∀ D H1 ys, H D = none → Sx [r] H H1 → RowAt H1 r q → H1 D = some (.lst ys) → ys.all fl = true → ys.length = xs.length → (∀ (j : Nat) x y, xs[j]? = some x → ys[j]? = some y → Okp x y) → Q (.ref D) H1) : tLc (iTup K tl) (gName i) tYes te vs σ H Q := by
  refine hl _ fun a H1 s1 hx => ⟨a, rfl, ⟨xs, hx.seq⟩, fun D hD => ?_⟩
  have hD0 : H D = none := Same.free s1 hD
  have hr1 := hrow.same s1
  have nDr : D ≠ r := hr1.ne hD
  refine lc_it (walk_tup (K := K) (a := a) (xs := xs)) (fun n H2 => Sx [r] H H2 ∧ Sx [r] H1 H2 ∧ RowAt H2 r q ∧ ∃ ys, H2 D = some (.lst ys) ∧ ys.all fl = true ∧ ys.length = n ∧ ∀ (j : Nat) x y, xs[j]? = some x → ys[j]? = some y → Okp x y)
    ⟨Sx.of (s1.trans (Same.new hD)), Sx.of (Same.new hD), hr1.same (Same.new hD), [], upd_same, rfl, rfl, fun j x y _ h => by simp at h⟩ (fun n H2 _ p => (p.2.1.tk hr1.ntup _ _ hx).seq) ?_ ?_
  · rintro n x H2 H3 hn ⟨s2, s2', hr2, ys, hy, hyf, hyn, hok⟩ ⟨rfl, e⟩
    refine ⟨hw x, r_yes' ?_⟩
    refine turn n x _ e s2 hr2 _ fun y H4 s4 hr4 ok fy => ?_
    have hy4 := s4 _ _ (by simpa using nDr) hy
    have sm : ∀ {H5 : Hp}, H5 D = none → Sx [r] H5 H4 → Sx [r] H5 (upd H4 D (.lst (ys ++ [y]))) := fun h e => e.mut h
    obtain ⟨i4, j4, k4, e4, b4⟩ := hr4
    refine ⟨ys, hy4, sz_lt (by omega), sm hD0 (s2.trans s4), sm hD (s2'.trans s4), ⟨i4, j4, k4, by rw [upd_ne nDr.symm]; exact e4, b4⟩, ys ++ [y], upd_same, by rw [List.all_append, hyf]; simp [fy], by rw [List.length_append, hyn]; rfl, fun j x' y' h1 h2 => ?_⟩
    by_cases hj : j < ys.length
    · rw [List.getElem?_append_left hj] at h2
      exact hok j x' y' h1 h2
    · rw [List.getElem?_append_right (by omega)] at h2
      have hj2 : j = ys.length := by
        have := lt_of_get h2
        simp only [List.length_cons, List.length_nil] at this
        omega
      subst hj2
      rw [Nat.sub_self] at h2
      rw [hyn, e] at h1
      cases h1
      cases h2
      exact ok
  · rintro H2 ⟨s2, _, hr2, ys, hy, hyf, hyn, hok⟩
    exact done D H2 ys hD0 s2 hr2 hy hyf hyn hok
theorem lcLn {α : Type} {g : TG} (as : List α) (enc : α → PyData) (rr : α → Option PyData) (hsz : as.length ≤ 1000000)
    (hl : ∀ R : VK, (∀ l H1, Same H H1 → Ls H1 l (as.map enc) → R (.ref l) H1) → tl σ H R)
    (turn : ∀ (i : Nat) b x H1, as[i]? = some b → Same H H1 → Dq H1 x (enc b) → TurnOk g tt te vs σ x H1 (rr b)) (done : ∀ D H1, H D = none → Same H H1 → Ls H1 D (as.filterMap rr) → Q (.ref D) H1) : tLc (iList K tl) g tt te vs σ H Q := by
  refine hl _ fun l H1 s1 ⟨xs, hx, hq⟩ => ?_
  have hl2 : xs.length = as.length := by rw [hq.length, List.length_map]
  refine ⟨l, rfl, ⟨xs, SqL.of hx⟩, fun D hD => ?_⟩
  refine lc_run (walk_list (K := K) (a := l) (xs := xs)) as (fun b v H => Dq H v (enc b)) rr hl2.symm (by omega) hD (fun H2 s2 => SqL.of (s2 _ _ hx))
    (fun i H2 x H3 hi s2 y => ?_) (fun i b x H2 e s2 q => turn i b x H2 e (s1.trans s2) q) (fun H2 s2 q => done D H2 (Same.free s1 hD) (s1.trans s2) q)
  obtain ⟨rfl, e⟩ := y
  obtain ⟨d, e1, q⟩ := hq.get e
  rw [List.getElem?_map] at e1
  obtain ⟨b, eb, rfl⟩ := Option.map_eq_some_iff.mp e1
  exact ⟨Same.refl _, b, eb, q.mono (Tk.of s2)⟩
end
/-! ### rows -/
def rowsOf (PP : List (List V × V)) : List (List V) := srtL (dk (PP.map (·.1)))
def sawG (sn : List Int) (z : List Int × V × List V) : Option (List V × V) := if z.1 = sn then some (z.2.2, z.2.1) else none
def laterOf (s : Sc) (sn : List Int) (ls : List (List V)) : List (List V × V) := ls.flatMap fun l => (mvs s l).filterMap (sawG sn)
theorem mem_rows {PP : List (List V × V)} {l : List V} : l ∈ rowsOf PP ↔ ∃ y, (l, y) ∈ PP := by
  unfold rowsOf
  rw [srtL_mem, mem_dk, List.mem_map]
  exact ⟨fun ⟨p, hp, e⟩ => ⟨p.2, e ▸ hp⟩, fun ⟨y, h⟩ => ⟨_, h, rfl⟩⟩
theorem mem_later {s : Sc} (o : s.Ok) {sn : List Int} {ls : List (List V)} (hL : ∀ l ∈ ls, Lay s l) {l : List V} {y : V} : (l, y) ∈ laterOf s sn ls ↔ ∃ l0 ∈ ls, Mv s l0 sn y l := by
  unfold laterOf
  rw [List.mem_flatMap]
  constructor
  · rintro ⟨l0, hl0, h⟩
    obtain ⟨⟨d, x, l'⟩, hz, e⟩ := List.mem_filterMap.mp h
    unfold sawG at e
    simp only at e
    split at e
    · rename_i hd
      cases e
      exact ⟨l0, hl0, hd ▸ (mem_mvs o (hL l0 hl0)).mp hz⟩
    · cases e
  · rintro ⟨l0, hl0, m⟩
    exact ⟨l0, hl0, List.mem_filterMap.mpr ⟨_, (mem_mvs o (hL l0 hl0)).mpr m, if_pos rfl⟩⟩
theorem later_len {s : Sc} (o : s.Ok) {sn : List Int} {ls : List (List V)} (hL : ∀ l ∈ ls, Lay s l) : (laterOf s sn ls).length ≤ 15 * ls.length := flat_len _ 15 ls fun l hl => by
  have h1 := mvs_len o l
  have h2 := (hL l hl).len o
  have h3 := o.sz
  have h4 := List.length_filterMap_le (sawG sn) (mvs s l)
  omega
section
variable {P : Program} {w : World} {a : Ad} {H0 H H' : Hp} {q r x mv ac tl pl lb : Addr} {sv : V} {s : Sc} {l : List V} {Ks : List (List V)} {PPk PP : List (List V × V)} {told : List PyData}
theorem LC.rows (C : LC P w a H0 q H r x mv ac tl pl lb sv s l Ks PPk PP told) : srtL Ks = rowsOf PP := by
  unfold rowsOf
  refine srtL_perm (nd_perm C.ka.nd (nd_dk _) fun y => ?_) fun b hb => (C.ka.lay b hb).lv C.ok
  rw [C.pk, mem_dk, List.mem_map]
  exact ⟨fun ⟨z, h⟩ => ⟨_, h, rfl⟩, fun ⟨p, hp, e⟩ => ⟨p.2, e ▸ hp⟩⟩
theorem LC.rows_len (C : LC P w a H0 q H r x mv ac tl pl lb sv s l Ks PPk PP told) : (rowsOf PP).length = Ks.length := by rw [← C.rows, srtL_len]
theorem LC.rows_mem (C : LC P w a H0 q H r x mv ac tl pl lb sv s l Ks PPk PP told) {y : List V} : y ∈ rowsOf PP ↔ y ∈ Ks := by rw [← C.rows, srtL_mem]
theorem LC.few (C : LC P w a H0 q H r x mv ac tl pl lb sv s l Ks PPk PP told) : (rowsOf PP).length ≤ 1024 := by rw [C.rows_len]; exact lays_few C.ok C.ka.nd C.ka.lay
end
end Cc

end

section
set_option Elab.async false
set_option linter.all false
set_option maxRecDepth 100000
set_option maxHeartbeats 16000000
set_option pp.maxSteps 1200
set_option pp.proofs false
namespace Cc
open PySem PySem.Spec L2

theorem ls_ne_row {H : Hp} {p r q : Addr} {ds : List PyData} (h : Ls H p ds) (hd : ∀ d ∈ ds, ∃ es, d = .tuple es) (hr : RowAt H r q) : p ≠ r := by
  rintro rfl
  obtain ⟨vs, hv, hq⟩ := h
  obtain ⟨i, s, c, h1, _⟩ := hr
  rw [hv] at h1
  obtain rfl : vs = [.ref q, .int i, .int s, .int c] := by injection h1 with h1; injection h1
  obtain ⟨d, e1, e2⟩ := hq.get (i := 1) (v := .int i) rfl
  obtain ⟨es, rfl⟩ := hd d (List.mem_of_getElem? e1)
  obtain ⟨a, _, e3, _⟩ := e2.tup_inv
  cases e3
theorem seen_ok {s : Sc} (o : s.Ok) {l : List V} (L : Lay s l) {d : Nat} (hd : d < s.ds.length) : RowOk s ((d : Int), seenL s l d) where
  d0 := by show (0 : Int) ≤ d; omega
  d1 := by show (d : Int) < s.ds.length; omega
  len := seen_len (L.len o)
  mem := fun x hx => by
    rcases L.mem (seen_mem hx) with h | ⟨c, hc, h⟩
    · exact .inl h
    · exact .inr (.inr ⟨c, hc, h⟩)
theorem lgF_one {s : Sc} {l : List V} {r : Row} {ls : List (List V)} (hl : l ∈ ls) (h : isSo s l r.1 r.2 = true) : l ∈ lgF s ls [r] := by
  show l ∈ ls.filter _
  exact List.mem_filter.mpr ⟨hl, h⟩
def sp_law (K : PySem.W.Frag) (a : Ad) : Sp := fun vs H Q _ => ∃ (q : Addr) (xs : List Int), vs = [.ref q] ∧ SqL K H q (xs.map V.int) ∧ xs.length ≤ 63 ∧ ∀ H', Q (.bl true) H'
/-- between two turns -/
def LI (P : Program) (w : World) (a : Ad) (H0 : Hp) (q : Addr) (i : Nat) (σ : St) (H : Hp) : Prop := ∃ (r x mv ac tl pl lb : Addr) (sv : V) (s : Sc) (l : List V) (Ks : List (List V)) (PPk PP : List (List V × V)) (told : List PyData) (v4 v5 v9 v10 v11 v12 v13 v14 v15 v16 v17 v18 v19 v20 v21 v22 : Option V),
  σ = [some (.ref q), some (.ref r), some sv, some (.ref lb), v4, v5, some (.ref x), some (.ref tl), some (.ref pl), v9, v10, v11, v12, v13, v14, v15, v16, v17, v18, v19, v20, v21, v22] ∧ LC P w a H0 q H r x mv ac tl pl lb sv s l Ks PPk PP told ∧ told.length ≤ i
theorem r_ifand {t1 t2 : TT} {A B : TS} {D : Ends} {σ : St} {H : Hp} (Pn Pm : Hp → Prop) (hA : ∀ H7, Pn H7 → A D σ H7) (hB : ∀ H7, Pm H7 → B D σ H7)
    (h : ∀ R : Bool → Hp → Prop, (∀ H7, Pn H7 → R true H7) → (∀ H7, Pm H7 → R false H7) → tAnd t1 t2 σ H R) : tIfS (tAnd t1 t2) A B D σ H :=
  h _ (fun H7 p => by show (if true = true then _ else _); rw [if_pos rfl]; exact hA H7 p) (fun H7 p => by show (if false = true then _ else _); rw [if_neg Bool.false_ne_true]; exact hB H7 p)
theorem mvD_ok {s : Sc} (o : s.Ok) {l : List V} (L : Lay s l) {z : List Int × V × List V} (hz : z ∈ mvs s l) : (mvD z).canLay0 = true ∧ (mvD z).depth ≤ 2 := by
  obtain ⟨d, x, l'⟩ := z
  have m := (mem_mvs o L).mp hz
  obtain ⟨c, hc, rfl⟩ := m.name L
  refine ⟨lay_all fun e he => ?_, ?_⟩
  · simp only [List.mem_cons, List.not_mem_nil, or_false] at he
    rcases he with rfl | rfl | rfl
    · exact eI_lay d
    · exact o.strOk hc
    · exact (m.lay o L).lay0 o
  · have : PyData.depthAll [eI d, dV (V.str c), eL l'] ≤ 1 := depth_all fun e he => by
      simp only [List.mem_cons, List.not_mem_nil, or_false] at he
      rcases he with rfl | rfl | rfl
      · exact eI_depth d
      · exact Nat.zero_le _
      · exact eL_depth l'
    show PyData.depthAll [eI d, dV (V.str c), eL l'] + 1 ≤ 2
    omega
theorem sawD_ok (d : List Int) : (sawD d).canLay0 = true ∧ (sawD d).depth ≤ 2 := by
  refine ⟨lay_all fun e he => ?_, ?_⟩
  · simp only [List.mem_cons, List.not_mem_nil, or_false] at he
    rcases he with rfl | rfl
    · decide +kernel
    · exact eI_lay d
  · have : PyData.depthAll [.str "saw", eI d] ≤ 1 := depth_all fun e he => by
      simp only [List.mem_cons, List.not_mem_nil, or_false] at he
      rcases he with rfl | rfl
      · exact Nat.zero_le _
      · exact eI_depth d
    show PyData.depthAll [.str "saw", eI d] + 1 ≤ 2
    omega
theorem insD_ok {s : Sc} (o : s.Ok) {r : Row} (ok : RowOk s r) : (insD r).canLay0 = true ∧ (insD r).depth ≤ 2 := by
  refine ⟨lay_all fun e he => ?_, ?_⟩
  · simp only [List.mem_cons, List.not_mem_nil, or_false] at he
    rcases he with rfl | rfl | rfl
    · decide +kernel
    · rfl
    · refine lay_flat fun x hx => ?_
      rcases ok.mem x hx with h | h | ⟨c, hc, h⟩
      · exact .inl h
      · exact .inr (.inr ⟨_, h, by decide +kernel⟩)
      · exact .inr (.inr ⟨c, h, o.strOk hc⟩)
  · have : PyData.depthAll [.str "inspected", .int r.1, eL r.2] ≤ 1 := depth_all fun e he => by
      simp only [List.mem_cons, List.not_mem_nil, or_false] at he
      rcases he with rfl | rfl | rfl
      · exact Nat.zero_le _
      · exact Nat.zero_le _
      · exact eL_depth r.2
    show PyData.depthAll [.str "inspected", .int r.1, eL r.2] + 1 ≤ 2
    omega
theorem fm_filter {α β : Type} (f : α → β) (p : α → Bool) : ∀ l : List α, l.filterMap (fun x => if p x = true then some (f x) else none) = (l.filter p).map f
  | [] => rfl
  | x :: l => by
    by_cases h : p x = true
    · rw [List.filterMap_cons, if_pos h, List.filter_cons_of_pos h, List.map_cons, fm_filter f p l]
    · rw [List.filterMap_cons, if_neg h, List.filter_cons_of_neg h, fm_filter f p l]
theorem r_ifs {tt : TT} {t u : TS} {D : Ends} {σ : St} {H : Hp} (Pm : St → Hp → Prop) (h1 : ∀ σ' H7, Pm σ' H7 → D.nx σ' H7) (h2 : (∀ σ' H7, Pm σ' H7 → D.nx σ' H7) → tIfS tt t u D σ H) : tIfS tt t u D σ H := h2 h1
section
variable {P : Program} {w : World} {K : PySem.W.Frag} {mg : Str → Option Value} {base : Heap} {a : Ad}
theorem ok_law (T : Txt K mg a) : FnOk P w K mg base CX0 10 a.f_law a.d_law ["_law_script"] (sp_law K a) := by
  refine T.F_law.ok sc_law (fun vs H Q E h => ?_) (fun cdv A outer s H vs Q E hr h => ?_)
  · obtain ⟨q, xs, rfl, hq, hxl, k⟩ := h; rfl
  · obtain ⟨q, xs, rfl, hq, hxl, k⟩ := h
    have hu := hr.units
    refine ⟨_, (pss_cons (ps_set (i := 1) sc_law.nd rfl (by first | exact Or.inl rfl | exact Or.inr rfl) (pe_lst (pa_cons (pv 0) (pa_cons pe_int (pa_cons pe_int (pa_cons pe_int pa_nil))))))
       (pss_cons (ps_set (i := 2) sc_law.nd rfl (by first | exact Or.inl rfl | exact Or.inr rfl) (pe_call (ok_law_scheme T) (hr.mono (by decide)) (by rfl) T.m_law_scheme T.F_law_scheme.kp T.b_law_scheme .nil pass0 (pa_cons (pv 1) (pa_cons pe_int (pa_cons pe_int pa_nil)))))
       (pss_cons (ps_asg (pe_tupX (pa_cons (pe_call (ok_law_pick T) (hr.mono (by decide)) (by rfl) T.m_law_pick T.F_law_pick.kp T.b_law_pick .nil pass0 (pa_cons (pv 1) (pa_cons (pe_call (ok_law_layouts T) (hr.mono (by decide)) (by rfl) T.m_law_layouts T.F_law_layouts.kp T.b_law_layouts .nil pass0 (pa_cons (pv 2) pa_nil)) pa_nil))) (pa_cons (pe_call (ok_law_taken T) (hr.mono (by decide)) (by rfl) T.m_law_taken T.F_law_taken.kp T.b_law_taken .nil pass0 (pa_cons (pv 1) (pa_cons (pe_callB (call_len_seqK K) (by rfl) T.z_len (by decide +kernel) (pa_cons (pe_ix (ix_tupK K) (pv 2) pe_int (by intro _ _; rfl)) pa_nil)) pa_nil))) pa_nil))) (pg_tup rfl (pgs_cons (pg_name (i := 3) sc_law.nd rfl (by first | exact Or.inl rfl | exact Or.inr rfl)) (pgs_cons (pg_name (i := 4) sc_law.nd rfl (by first | exact Or.inl rfl | exact Or.inr rfl)) pgs_nil))))
       (pss_cons (ps_set (i := 5) sc_law.nd rfl (by first | exact Or.inl rfl | exact Or.inr rfl) (pe_slice (sl_listK K) (pe_lst (pa_cons (pe_tupX (pa_cons pe_str (pa_cons (pv 4) (pa_cons (pe_call (ok_law_seen T) (hr.mono (by decide)) (by rfl) T.m_law_seen T.F_law_seen.kp T.b_law_seen .nil pass0 (pa_cons (pv 2) (pa_cons (pv 3) (pa_cons (pv 4) pa_nil)))) pa_nil)))) pa_nil)) po_none (po_some (pe_call (ok_law_taken T) (hr.mono (by decide)) (by rfl) T.m_law_taken T.F_law_taken.kp T.b_law_taken .nil pass0 (pa_cons (pv 1) (pa_cons pe_int pa_nil))))))
       (pss_cons (ps_par (i := 6) (j := 7) rfl sc_law.nd rfl rfl (by decide) rfl rfl (pa_cons (pe_make T.mkK (ok_Keeper_init T) (hr.mono (by decide)) (by rfl) T.mK T.b_Keeper_init .nil pass0 (pa_cons (pe_call (ok_law_store T) (hr.mono (by decide)) (by rfl) T.m_law_store T.F_law_store.kp T.b_law_store .nil pass0 (pa_cons (pv 2) pa_nil)) (pa_cons (pv 5) pa_nil))) (pa_cons (pe_lst pa_nil) pa_nil)) (by rfl))
       (pss_cons (ps_setLc (i := 8) (own := [("_law_some", 9)]) (g := (gName 9)) rfl sc_law.nd rfl rfl (sw_true rfl rfl rfl rfl) (pi_list (pe_call (ok_law_now T) (hr.mono (by decide)) (by rfl) T.m_law_now T.F_law_now.kp T.b_law_now .nil pass0 (pa_cons (pv 2) (pa_cons (pv 5) pa_nil)))) (blkOk_by (own := [("_law_some", 9)]) (N := ["_law_script", "_law_row", "_law_s", "_law_layout", "_law_door", "_law_log", "_law_keeper", "_law_told", "_law_pairs", "_law_some", "_law_turn", "_law_steps", "_law_doors", "_law_name", "_law_later", "_law_opened", "_law_one", "_law_other", "_law_call", "_law_count", "_law_seen_here", "_law_pair", "_law_rows"]) (sc := defScope s_law) (by decide +kernel))
       (fun _ _ _ _ _ => (pg_name (i := 9) sc_law.nd rfl (by first | exact Or.inl rfl | exact Or.inr rfl))) (fun _ _ _ _ _ => pts_nil) (fun _ _ _ _ _ => (pe_tupX (pa_cons (pv 9) (pa_cons pe_non pa_nil)))))
       (pss_cons (ps_for PassesOwn.never rfl (pi_range1 (by rfl) T.z_range (pa_cons (pe_call (ok_law_taken T) (hr.mono (by decide)) (by rfl) T.m_law_taken T.F_law_taken.kp T.b_law_taken .nil pass0 (pa_cons (pv 1) (pa_cons pe_int pa_nil))) pa_nil)) (pg_name (i := 10) sc_law.nd rfl (by first | exact Or.inl rfl | exact Or.inr rfl))
       (pss_cons (ps_asg (pe_tupX (pa_cons (pe_call (ok_law_moves T) (hr.mono (by decide)) (by rfl) T.m_law_moves T.F_law_moves.kp T.b_law_moves .nil pass0 (pa_cons (pv 2) (pa_cons (pv 3) pa_nil))) (pa_cons (pe_call (ok_law_taken T) (hr.mono (by decide)) (by rfl) T.m_law_taken T.F_law_taken.kp T.b_law_taken .nil pass0 (pa_cons (pv 1) (pa_cons (pe_callB (call_len_seqK K) (by rfl) T.z_len (by decide +kernel) (pa_cons (pe_ix (ix_tupK K) (pv 2) pe_int (by intro _ _; rfl)) pa_nil)) pa_nil))) pa_nil))) (pg_tup rfl (pgs_cons (pg_name (i := 11) sc_law.nd rfl (by first | exact Or.inl rfl | exact Or.inr rfl)) (pgs_cons (pg_name (i := 4) sc_law.nd rfl (by first | exact Or.inl rfl | exact Or.inr rfl)) pgs_nil))))
       (pss_cons (ps_if (pw_and (pt_cmpR op_gt (pe_call (ok_law_taken T) (hr.mono (by decide)) (by rfl) T.m_law_taken T.F_law_taken.kp T.b_law_taken .nil pass0 (pa_cons (pv 1) (pa_cons pe_int pa_nil))) pe_int (nomark _)) (pw_and1 (pt_cmpR (op_neDK K hu) (pv 11) (pe_lst pa_nil) (nomark _)))).pt (pss_cons (ps_asg (pe_call (ok_law_pick T) (hr.mono (by decide)) (by rfl) T.m_law_pick T.F_law_pick.kp T.b_law_pick .nil pass0 (pa_cons (pv 1) (pa_cons (pv 11) pa_nil))) (pg_tup rfl (pgs_cons (pg_name (i := 12) sc_law.nd rfl (by first | exact Or.inl rfl | exact Or.inr rfl)) (pgs_cons (pg_name (i := 13) sc_law.nd rfl (by first | exact Or.inl rfl | exact Or.inr rfl)) (pgs_cons (pg_name (i := 3) sc_law.nd rfl (by first | exact Or.inl rfl | exact Or.inr rfl)) pgs_nil)))))
       (pss_cons (ps_set (i := 14) sc_law.nd rfl (by first | exact Or.inl rfl | exact Or.inr rfl) (pe_lst pa_nil))
       (pss_cons (ps_for PassesOwn.never rfl (pi_list (pe_call (ok_law_firsts T) (hr.mono (by decide)) (by rfl) T.m_law_firsts T.F_law_firsts.kp T.b_law_firsts .nil pass0 (pa_cons (pv 8) pa_nil))) (pg_name (i := 9) sc_law.nd rfl (by first | exact Or.inl rfl | exact Or.inr rfl))
       (pss_one (ps_set (i := 14) sc_law.nd rfl (by first | exact Or.inl rfl | exact Or.inr rfl) (pe_op op_cat (pv 14) (pe_lc (own := [("_law_opened", 15), ("_law_one", 16), ("_law_other", 17)]) (g := (gTup K 3 (gCons (gName 15) (gCons (gName 16) (gCons (gName 17) gNil))))) rfl sc_law.nd (pi_list (pe_call (ok_law_moves T) (hr.mono (by decide)) (by rfl) T.m_law_moves T.F_law_moves.kp T.b_law_moves .nil pass0 (pa_cons (pv 2) (pa_cons (pv 9) pa_nil)))) (blkOk_by (own := [("_law_opened", 15), ("_law_one", 16), ("_law_other", 17)]) (N := ["_law_script", "_law_row", "_law_s", "_law_layout", "_law_door", "_law_log", "_law_keeper", "_law_told", "_law_pairs", "_law_some", "_law_turn", "_law_steps", "_law_doors", "_law_name", "_law_later", "_law_opened", "_law_one", "_law_other", "_law_call", "_law_count", "_law_seen_here", "_law_pair", "_law_rows"]) (sc := defScope s_law) (by decide +kernel))
       (fun _ _ _ _ _ => (pg_tup rfl (pgs_cons (pg_name (i := 15) sc_law.nd rfl (by first | exact Or.inl rfl | exact Or.inr rfl)) (pgs_cons (pg_name (i := 16) sc_law.nd rfl (by first | exact Or.inl rfl | exact Or.inr rfl)) (pgs_cons (pg_name (i := 17) sc_law.nd rfl (by first | exact Or.inl rfl | exact Or.inr rfl)) pgs_nil))))) (fun _ _ _ _ _ => (pts_one (pt_cmpR (op_eqDK K hu) (pv 15) (pv 12) (nomark _)))) (fun _ _ _ _ _ => (pe_tupX (pa_cons (pv 17) (pa_cons (pv 16) pa_nil)))))))))
       (pss_cons (ps_par (i := 8) (j := 18) rfl sc_law.nd rfl rfl (by decide) rfl rfl (pa_cons (pv 14) (pa_cons (pe_tupX (pa_cons pe_str (pa_cons (pv 12) pa_nil))) pa_nil)) (by rfl))
       (pss_one (ps_set (i := 19) sc_law.nd rfl (by first | exact Or.inl rfl | exact Or.inr rfl) (pe_meth (pv 6) T.clK T.t_Keeper_saw (ok_Keeper_saw T) (hr.mono (by decide)) T.b_Keeper_saw .nil pass0 (pa_cons (pv 12) pa_nil)))))))) (pss_cons (ps_set (i := 20) sc_law.nd rfl (by first | exact Or.inl rfl | exact Or.inr rfl) (pe_callTy (cr_tupLK K) (by rfl) T.z_tuple (by decide +kernel) (pa_cons (pe_lc (own := [("_law_one", 16)]) (g := (gName 16)) rfl sc_law.nd (pi_tup (pe_call (ok_law_seen T) (hr.mono (by decide)) (by rfl) T.m_law_seen T.F_law_seen.kp T.b_law_seen .nil pass0 (pa_cons (pv 2) (pa_cons (pv 3) (pa_cons (pv 4) pa_nil))))) (blkOk_by (own := [("_law_one", 16)]) (N := ["_law_script", "_law_row", "_law_s", "_law_layout", "_law_door", "_law_log", "_law_keeper", "_law_told", "_law_pairs", "_law_some", "_law_turn", "_law_steps", "_law_doors", "_law_name", "_law_later", "_law_opened", "_law_one", "_law_other", "_law_call", "_law_count", "_law_seen_here", "_law_pair", "_law_rows"]) (sc := defScope s_law) (by decide +kernel))
       (fun _ _ _ _ _ => (pg_name (i := 16) sc_law.nd rfl (by first | exact Or.inl rfl | exact Or.inr rfl))) (fun _ _ _ _ _ => pts_nil) (fun _ _ _ _ _ => (pe_andTK K (pv 16) (pe_one (pe_call (ok_law_pick T) (hr.mono (by decide)) (by rfl) T.m_law_pick T.F_law_pick.kp T.b_law_pick .nil pass0 (pa_cons (pv 1) (pa_cons (pe_lst (pa_cons (pv 16) (pa_cons pe_str pa_nil))) pa_nil))))))) pa_nil)))
       (pss_cons (ps_set (i := 18) sc_law.nd rfl (by first | exact Or.inl rfl | exact Or.inr rfl) (pe_tupX (pa_cons pe_str (pa_cons (pv 4) (pa_cons (pv 20) pa_nil)))))
       (pss_cons (ps_setLc (i := 8) (own := [("_law_pair", 21)]) (g := (gName 21)) rfl sc_law.nd rfl rfl (sw_true rfl rfl rfl rfl) (pi_list (pv 8)) (blkOk_by (own := [("_law_pair", 21)]) (N := ["_law_script", "_law_row", "_law_s", "_law_layout", "_law_door", "_law_log", "_law_keeper", "_law_told", "_law_pairs", "_law_some", "_law_turn", "_law_steps", "_law_doors", "_law_name", "_law_later", "_law_opened", "_law_one", "_law_other", "_law_call", "_law_count", "_law_seen_here", "_law_pair", "_law_rows"]) (sc := defScope s_law) (by decide +kernel))
       (fun _ _ _ _ _ => (pg_name (i := 21) sc_law.nd rfl (by first | exact Or.inl rfl | exact Or.inr rfl))) (fun _ _ _ _ _ => (pts_one (pt_val (pe_call (ok_law_is_so T) (hr.mono (by decide)) (by rfl) T.m_law_is_so T.F_law_is_so.kp T.b_law_is_so .nil pass0 (pa_cons (pv 2) (pa_cons (pe_ix (ix_tupK K) (pv 21) pe_int (by intro _ _; rfl)) (pa_cons (pe_tupX (pa_cons pe_str (pa_cons (pv 4) (pa_cons (pv 20) pa_nil)))) pa_nil))))))) (fun _ _ _ _ _ => (pv 21)))
       (pss_one (ps_set (i := 19) sc_law.nd rfl (by first | exact Or.inl rfl | exact Or.inr rfl) (pe_meth (pv 6) T.clK T.t_Keeper_inspected (ok_Keeper_inspected T) (hr.mono (by decide)) T.b_Keeper_inspected .nil pass0 (pa_cons (pv 4) (pa_cons (pv 20) pa_nil)))))))))
       (pss_cons (ps_expr (pe_bm PySem.F.plainAttrs_list PySem.F.slot_list_append PySem.F.type_list_append mt_append (pv 7) (pa_cons (pv 18) pa_nil)))
       (pss_cons (ps_set (i := 22) sc_law.nd rfl (by first | exact Or.inl rfl | exact Or.inr rfl) (pe_call (ok_law_firsts T) (hr.mono (by decide)) (by rfl) T.m_law_firsts T.F_law_firsts.kp T.b_law_firsts .nil pass0 (pa_cons (pv 8) pa_nil)))
       (pss_cons (ps_if (pt_cmpR op_ne (pv 19) (pe_callB (call_len_seqK K) (by rfl) T.z_len (by decide +kernel) (pa_cons (pv 22) pa_nil)) (nomark _)) (pss_one (ps_ret pe_bl)) pss_nil)
       (pss_cons (ps_if (pt_cmpR (op_neDK K hu) (pe_prop (pv 6) T.clK T.p_Keeper_layouts_left (ok_Keeper_layouts_left T) (hr.mono (by decide)) T.b_Keeper_layouts_left .nil pass0 rfl) (pe_callTy (cr_tupLK K) (by rfl) T.z_tuple (by decide +kernel) (pa_cons (pv 22) pa_nil)) (nomark _)) (pss_one (ps_ret pe_bl)) pss_nil)
       (pss_cons (ps_if (pt_cmpR (op_neDK K hu) (pe_prop (pv 6) T.clK T.p_Keeper_seen_so_far (ok_Keeper_seen_so_far T) (hr.mono (by decide)) T.b_Keeper_seen_so_far .nil pass0 rfl) (pv 7) (nomark _)) (pss_one (ps_ret pe_bl)) pss_nil)
       (pss_cons (ps_if (pt_cmpR (op_notInDK K hu rfl (by show (A.deeper (PyProof.Rows.envOfC _ _ _ _ _)).units + 65 < cLine; have := hr.un; omega)) (pv 3) (pv 22) (by with_unfolding_all rfl)) (pss_one (ps_ret pe_bl)) pss_nil)
       (pss_one (ps_if (pt_not (pt_val (pe_call (ok_law_tells T) (hr.mono (by decide)) (by rfl) T.m_law_tells T.F_law_tells.kp T.b_law_tells .nil pass0 (pa_cons (pv 2) (pa_cons (pv 6) (pa_cons (pv 8) (pa_cons (pv 22) pa_nil))))))) (pss_one (ps_ret pe_bl)) pss_nil)))))))))))
       (pss_one (ps_ret pe_bl))))))))), ?_⟩
    refine ⟨_, rfl, (by show 4 ≤ sizeLine; decide), fun r hr => ?_⟩
    have s1 : Same H (upd H r (.lst [.ref q, .int 0, .int 0, .int 0])) := Same.new hr
    have r1 : RowAt (upd H r (.lst [.ref q, .int 0, .int 0, .int 0])) r q := ⟨0, 0, 0, upd_same, by decide, by decide, by decide, by decide⟩
    revert s1 r1
    generalize upd H r (.lst [.ref q, .int 0, .int 0, .int 0]) = H1
    intro s1 r1
    have hx1000 : xs.length ≤ 1000 := by omega
    refine ⟨_, rfl, r, q, xs, rfl, r1, s1.seq hq, hx1000, fun s sv H2 o hs sx2 r2 => ?_⟩
    have s2 := Same.sx1 s1 hr sx2
    obtain ⟨t, d, c, ds, rfl, ht, hd, hds, hc⟩ := sD_inv hs
    have hdl : ds.length = s.ds.length := by rw [hds.length, List.length_map]
    have o4 := o.d4
    have o1 := o.d1
    refine ⟨_, rfl, _, rfl, .ref t, s, rfl, hs, o, fun p H3 s3 hp => ?_⟩
    have r3 := r2.same s3
    obtain ⟨ys, hys, hqy⟩ := id hp
    have hyl : ys.length = (lays s).length := by rw [hqy.length, List.length_map]
    have hsm := lays_small o
    have hyne : ys ≠ [] := fun z => by
      rw [z] at hyl
      exact laysN_pos o _ (Nat.le_refl _) (List.length_eq_zero_iff.mp hyl.symm)
    refine ⟨r, q, p, xs, ys, rfl, r3, (s2.trans s3).seq hq, hx1000, hys, ls_ne_row hp (fun d hd => by obtain ⟨l, _, e⟩ := List.mem_map.mp hd; exact ⟨_, e.symm⟩) r3, hyne, by omega, fun v i H4 hv sx4 r4 => ?_⟩
    obtain ⟨dl, hdl', hvd⟩ := hqy.get hv
    rw [List.getElem?_map] at hdl'
    obtain ⟨l, hl, rfl⟩ := Option.map_eq_some_iff.mp hdl'
    have L := lays_lay o (List.mem_of_getElem? hl)
    obtain ⟨lb, rfl, hlb⟩ := hvd.eL_inv (L.fl o)
    have tk4 := sx4.tk r3.ntup
    have s4 := Same.sx1 (s2.trans s3) hr sx4
    have tk24 : Tk H2 H4 := (Tk.of s3).trans tk4
    refine ⟨_, rfl, _, rfl, _, _, _, _, rfl, rfl, (tk24 _ _ ht).seq, rfl, d, ds, rfl, .inr (tk24 _ _ hd).seq, r, q, s.ds.length, xs, by rw [hdl]; rfl, r4, s4.seq hq, hx1000, o1, by omega, fun dr H5 hdr sx5 r5 => ?_⟩
    have s5 := Same.sx1 s4 hr sx5
    have tk5 := sx5.tk r4.ntup
    have tk25 := tk24.trans tk5
    have lb5 := tk5 _ _ (tk4 _ _ hlb)
    have hs5 := hs.mono tk25
    refine ⟨(by show 2 ≤ 1000000; decide), fun t6 H6 _ s6 ht6 => ?_⟩
    refine ⟨t6, _, rfl, ht6.seq, rfl, _, _, rfl, _, _, rfl, rfl, ?_⟩
    have s16 := s5.trans s6
    have r6 := r5.same s6
    have lb6 := lb5.same s6
    have hs6 := hs5.same s6
    -- the log
    refine ⟨_, rfl, _, rfl, _, rfl, _, rfl, .ref t, s, lb, l, (dr : Int), rfl, hs6, o, lb6, L, fun b H7 s7 hb => ?_⟩
    refine ⟨(by show 3 ≤ 1000000; decide), fun t8 H8 _ s8 ht8 => ⟨(by show 1 ≤ sizeLine; decide), fun l9 hl9 => ?_⟩⟩
    have s69 : Same H6 (upd H8 l9 (.lst [.ref t8])) := (s7.trans s8).trans (Same.new hl9)
    have r9 := r6.same s69
    refine ⟨_, rfl, r, q, 2, xs, rfl, r9, (s16.trans s69).seq hq, hx1000, by decide, by decide, fun n H10 hn sx10 r10 => ?_⟩
    have n9r : l9 ≠ r := (r6.same (s7.trans s8)).ne hl9
    have hl10 : H10 l9 = some (.lst [.ref t8]) := sx10 _ _ (by simpa using n9r) upd_same
    refine ⟨_, rfl, l9, _, rfl, SqL.of hl10, fun lp hlp => ?_⟩
    have s10 := Same.sx1 (s16.trans s69) hr sx10
    have tk10 := sx10.tk r9.ntup
    have tk610 : Tk H6 H10 := (Tk.of s69).trans tk10
    have okr := seen_ok o L hdr
    have iso : isSo s l (dr : Int) (seenL s l dr) = true := isSo_of fun i x t h1 h2 => by rw [h1] at h2; cases h2; exact .inl rfl
    obtain ⟨lg, hlg1, hlg2, hlg3, hlg4⟩ : ∃ lg : List Row, DqAll H10 (cutV [V.ref t8] none (some (n : Int))) (lg.map rowD) ∧ (∀ r ∈ lg, RowOk s r) ∧ lg.length ≤ 1000 ∧ l ∈ lgF s (dk (lays s)) lg := by
      have hm : l ∈ dk (lays s) := mem_dk.mpr (List.mem_of_getElem? hl)
      have : n = 0 ∨ n = 1 := by omega
      rcases this with rfl | rfl
      · exact ⟨[], .nil, (fun r h => nomatch h), Nat.zero_le _, hm⟩
      · refine ⟨[((dr : Int), seenL s l dr)], ?_, fun r h => ?_, (by show 1 ≤ 1000; decide), lgF_one hm iso⟩
        · refine .one (?_ : Dq H10 (.ref t8) (rowD ((dr : Int), seenL s l dr)))
          refine Dq.mono (tk10) ?_
          exact (Dq.tup ht8 (.cons (.str _) (.cons (.int _) (.cons (Dq.eL (hb.same s8) okr.fl) .nil)))).mono (Tk.new hl9)
        · rw [List.mem_singleton] at h
          exact h ▸ okr
    have s11 : Same H10 (upd H10 lp (.lst (cutV [V.ref t8] none (some (n : Int))))) := Same.new hlp
    have hlg : Ls (upd H10 lp (.lst (cutV [V.ref t8] none (some (n : Int))))) lp (lg.map rowD) := ⟨_, upd_same, hlg1.same s11⟩
    have sA := s10.trans s11
    have rA := r10.same s11
    have tkA : Tk H6 (upd H10 lp (.lst (cutV [V.ref t8] none (some (n : Int))))) := tk610.trans (Tk.of s11)
    revert hlg sA rA tkA
    clear hlg1 s11
    generalize upd H10 lp (.lst (cutV [V.ref t8] none (some (n : Int)))) = HA
    intro hlg sA rA tkA
    have hsA := hs6.mono tkA
    have lbA := tkA _ _ lb6
    -- the keeper
    refine ⟨_, rfl, .ref t, s, rfl, hsA, o, fun st HB hst sB hS => ?_⟩
    refine ⟨_, rfl, ?_⟩
    intro x dx hx hdx hne
    have sC : Same HB (upd (upd HB dx (.own x)) x (.ins a.CK dx [])) := fun b u e => by
      rw [upd_ne (ne_of_none e hx), upd_ne (ne_of_none e hdx)]
      exact e
    have sAC := sB.trans sC
    have hlgne : lgF s (dk (lays s)) lg ≠ [] := fun z => by rw [z] at hlg4; cases hlg4
    refine ⟨x, dx, st, lp, s, lg, rfl, upd_same, hS.mono sC, o, hlg.mono sAC, hlg2, hlg3, hlgne, fun HD mv ac sxD hmv hac KA => ⟨rfl, ?_⟩⟩
    have hxA : HA x = none := sB.free hx
    have hacA : HA ac = none := sAC.free hac
    have hmvA : HA mv = none := sAC.free hmv
    have sD' : Same HA HD := fun b u e => sxD _ _ (by rw [List.mem_singleton]; exact ne_of_none e hxA) (sAC _ _ e)
    refine ⟨by decide, fun tl htl => ⟨_, _, rfl, ?_⟩⟩
    have sE : Same HD (upd HD tl (.lst [])) := Same.new htl
    have sAE := sD'.trans sE
    have htlA : HA tl = none := sD'.free htl
    have KAE := KA.mono sE
    have htlE : (upd HD tl (.lst [])) tl = some (.lst []) := upd_same
    have nta : tl ≠ ac := by
      obtain ⟨va, ha, _⟩ := KA.acc
      exact (ne_of_none ha htl).symm
    revert sAE KAE htlE
    generalize upd HD tl (.lst []) = HE
    intro sAE KAE htlE
    have rE := rA.same sAE
    have hsE := hsA.same sAE
    have lbE := lbA.same sAE
    have nrt : r ≠ tl := (rA.ne htlA).symm
    have nra : r ≠ ac := (rA.ne hacA).symm
    -- the pairs
    have hKz : (srtL (lgF s (dk (lays s)) lg)).length ≤ 1024 := lays_few o KA.nd KA.lay
    dsimp only
    refine r_seq (r_asg (lcLn (srtL (lgF s (dk (lays s)) lg)) eL (fun l => some (prD (l, .non))) (by omega) (fun R h => ⟨_, rfl, _, rfl, .ref t, lp, s, lg, rfl, hsE, o, hlg.mono sAE, hlg2, hlg3, fun q1 H1 s1 hq1 => h q1 H1 s1 hq1⟩) (fun i lay y H1 hi s1 hy => ?_) (fun pl HF hpl sF hplF => ?_)))
    · exact turn_1 fun N hN => ⟨_, rfl, (by show 2 ≤ 1000000; decide), fun t1 H2 _ s2 ht1 => hN _ _ s2 (Dq.pair ht1 (hy.same s2) (Dq.flat (x := .non) rfl))⟩
    have ePP : (srtL (lgF s (dk (lays s)) lg)).filterMap (fun l => some (prD (l, .non))) = ((srtL (lgF s (dk (lays s)) lg)).map fun l => (l, V.non)).map prD := by
      rw [List.map_map]
      exact congrFun (List.filterMap_eq_map (f := fun l => prD (l, V.non))) _
    rw [ePP] at hplF
    have CF : LC P w a H q HF r x mv ac tl pl lb (.ref t) s l (srtL (lgF s (dk (lays s)) lg)) [] ((srtL (lgF s (dk (lays s)) lg)).map fun l => (l, V.non)) [] := by
      obtain ⟨va, ha, _⟩ := KAE.acc
      exact {
        same := (sA.trans sAE).trans sF
        fr := hr
        fx := sA.free hxA
        fac := sA.free hacA
        ftl := sA.free htlA
        row := rE.same sF
        nra := nra
        nrt := nrt
        nta := nta
        npr := rE.ne hpl
        npa := (ne_of_none ha hpl).symm
        npt := (ne_of_none htlE hpl).symm
        sd := hsE.same sF
        ok := o
        lb := lbE.same sF
        lk := srtL_mem.mpr hlg4
        ka := KAE.mono sF
        tl := ⟨[], sF _ _ htlE, .nil⟩
        pl := hplF
        pp := fun p hp => by
          obtain ⟨y, hy, rfl⟩ := List.mem_map.mp hp
          exact ⟨KA.lay y hy, .inl rfl⟩
        pk := fun y => ⟨fun h => ⟨.non, List.mem_map.mpr ⟨y, h, rfl⟩⟩, fun ⟨z, h⟩ => by
          obtain ⟨u, hu, e⟩ := List.mem_map.mp h
          cases e
          exact hu⟩
        nm := fun y hy c => ⟨fun h => (nomatch h), fun h => by
          obtain ⟨u, _, e⟩ := List.mem_map.mp h
          cases e⟩
        pz := by rw [List.length_map]; omega
        tsh := fun d hd => nomatch hd }
    -- the turns
    dsimp only
    refine ⟨_, rfl, r, q, 9, xs, rfl, CF.row, CF.same.seq hq, hx1000, by decide, by decide, fun nT HG hnT sxG rG => ?_⟩
    have CG := CF.turn sxG rG
    refine ⟨(nT : Int), rfl, by omega, by omega, ?_⟩
    refine for_it walk_range (fun i σ H' => LI P w a H q i σ H') ⟨r, x, mv, ac, tl, pl, lb, .ref t, s, l, _, _, _, _, _, _, _, _, _, _, _, _, _, _, _, _, _, _, _, _, rfl, CG, Nat.zero_le _⟩ (fun _ _ _ _ _ => trivial) ?_ ?_
    rotate_left
    · rintro σ H1 _
      exact k H1
    clear CG CF
    rintro i0 y σ H1 H1' hi ⟨r, x, mv, ac, tl, pl, lb, sv, s, l, Ks, PPk, PP, told, v4, v5, v9, v10, v11, v12, v13, v14, v15, v16, v17, v18, v19, v20, v21, v22, rfl, C, hn⟩ ⟨rfl, rfl⟩
    have ok := C.ok
    have o4 := ok.d4
    have o1 := ok.d1
    obtain ⟨t, d, c, ds, rfl, ht, hd, hds, hc⟩ := sD_inv C.sd
    have hdl : ds.length = s.ds.length := by rw [hds.length, List.length_map]
    have L := C.ka.lay l C.lk
    refine ⟨_, rfl, _, rfl, .ref t, lb, s, l, rfl, C.sd, ok, C.lb, L, fun ms H2 s2 hms => ?_⟩
    have C2 := C.mono s2
    refine ⟨_, rfl, _, rfl, _, _, _, _, rfl, rfl, (ht.same s2).seq, rfl, d, ds, rfl, .inr (hd.same s2).seq, r, q, s.ds.length, xs, by rw [hdl]; rfl, C2.row, C2.same.seq hq, hx1000, o1, by omega, fun dr H3 hdr sx3 r3 => ?_⟩
    have C3 := C2.turn sx3 r3
    have hms3 : Ls H3 ms ((mvs s l).map mvD) := hms.sx C2.row sx3 (ls_ne_row hms (fun d hd => by obtain ⟨z, _, e⟩ := List.mem_map.mp hd; exact ⟨_, e.symm⟩) C2.row)
    refine ⟨(by show 2 ≤ 1000000; decide), fun t4 H4 _ s4 ht4 => ?_⟩
    refine ⟨t4, _, rfl, ht4.seq, rfl, _, _, rfl, _, _, rfl, rfl, ?_⟩
    have C4 := C3.mono s4
    have hms4 := hms3.mono s4
    clear C C2 C3
    dsimp only
    refine r_seq (r_ifs (fun σ' H7 => ∃ (mv' pl' lb' : Addr) (l' : List V) (Ks' : List (List V)) (PPk' PP' : List (List V × V)) (d : PyData) (c : V) (vs : List V) (v4 v5 v9 v10 v11 v12 v13 v14 v15 v16 v17 v20 v21 v22 : Option V),
      σ' = [some (.ref q), some (.ref r), some (.ref t), some (.ref lb'), v4, v5, some (.ref x), some (.ref tl), some (.ref pl'), v9, v10, v11, v12, v13, v14, v15, v16, v17, some c, some (.int (Ks'.length : Int)), v20, v21, v22] ∧ H7 tl = some (.lst vs) ∧ vs.length = told.length ∧
      LC P w a H q (upd H7 tl (.lst (vs ++ [c]))) r x mv' ac tl pl' lb' (.ref t) s l' Ks' PPk' PP' (told ++ [d]))
      (fun σ' H7 ⟨mv', pl', lb', l', Ks', PPk', PP', d', c', vs, v4, v5, v9, v10, v11, v12, v13, v14, v15, v16, v17, v20, v21, v22, eσ, ht7, hvl, C7⟩ => ?_) (fun fin => ?_))
    · subst eσ
      -- told.append(call)
      refine ⟨_, rfl, .inl ⟨rfl, _, SqL.of ht7⟩, _, rfl, tl, vs, c', rfl, rfl, ht7, sz_lt (by omega), ?_⟩
      revert C7
      generalize upd H7 tl (.lst (vs ++ [c'])) = H8
      intro C7
      refine ⟨_, rfl, pl', s, PP', rfl, ok, C7.pl, fun p hp => ?_, fun rl H9 s9 hrl => ?_⟩
      · obtain ⟨a1, a2⟩ := C7.pp p hp
        exact ⟨a1, by rcases a2 with e | ⟨c, _, e⟩ <;> rw [e] <;> rfl⟩
      have C9 := C7.mono s9
      obtain ⟨rs, hrs, hqr⟩ := id hrl
      have hrl2 : rs.length = Ks'.length := by rw [hqr.length, List.length_map]; exact C9.rows_len
      -- count
      refine ⟨_, rfl, _, rfl, rl, rs, rfl, .inl (SqL.of hrs), ?_⟩
      refine ⟨rfl, _, rfl, iteN (by rw [hrl2]) ?_⟩
      -- layouts_left
      obtain ⟨⟨dx, st, kvs, hx9, _⟩, _⟩ := id C9.ka
      have e9 := C9.rows
      have L9 : ∀ l ∈ rowsOf PP', Lay s l := fun y hy => C9.ka.lay y (C9.rows_mem.mp hy)
      refine ⟨_, rfl, x, dx, _, rfl, hx9, x, mv', ac, s, Ks', PPk', told ++ [d'], rfl, C9.ka, ok, fun q1 H10 s10 hq1 => ?_⟩
      rw [e9] at hq1
      refine ⟨_, rfl, rl, rs, rfl, SqL.of (s10 _ _ hrs), fun q2 H11 _ s11 hq2 => ?_⟩
      have sh1 : SeqAt.shaped (.tuple ((rowsOf PP').map eL)) = true := shaped_layt ok L9
      refine ⟨_, .tuple ((rowsOf PP').map eL), (hq1.same s11).dp, (Dq.tup hq2 (hqr.same (s10.trans s11))).dp, sh1, sh1, _, rfl, ?_⟩
      rw [eqv_shaped sh1]
      refine iteF ?_
      have C11 := (C9.mono s10).mono s11
      have s911 := s10.trans s11
      -- seen_so_far
      refine r_next ?_
      refine ⟨_, rfl, x, dx, _, rfl, s911 _ _ hx9, x, mv', ac, s, Ks', PPk', told ++ [d'], rfl, C11.ka, fun q3 H12 s12 hq3 => ?_⟩
      have sh2 : SeqAt.shaped (.list (told ++ [d'])) = true := shaped_lst (n := 2) (fun e he => C11.tsh e he) (by decide)
      refine ⟨_, rfl, _, _, hq3.dp, (C11.tl.mono s12).dp, sh2, sh2, _, rfl, ?_⟩
      rw [eqv_shaped sh2]
      refine iteF ?_
      have C12 := C11.mono s12
      have s912 := s911.trans s12
      -- layout not in rows
      refine r_next ?_
      have sh3 : SeqAt.shaped (.list ((rowsOf PP').map eL)) = true := shaped_lays ok L9
      have lm : l' ∈ rowsOf PP' := C12.rows_mem.mpr C12.lk
      have sh4 : SeqAt.shaped (eL l') = true := by
        have h1 := (L9 l' lm).lay0 ok
        have h2 := eL_depth l'
        unfold SeqAt.shaped
        rw [Bool.and_eq_true]
        exact ⟨h1, decide_eq_true (by omega)⟩
      refine ⟨_, rfl, _, rfl, eL l', (rowsOf PP').map eL, (Dq.eL C12.lb ((L9 l' lm).fl ok)).dp, (hrl.mono s912).dp, sh4, sh3, _, rfl, ?_⟩
      have any1 : ((rowsOf PP').map eL).any (fun z => PyData.eqv z (eL l')) = true := List.any_eq_true.mpr ⟨_, List.mem_map.mpr ⟨_, lm, rfl⟩, eqv_shaped sh4⟩
      rw [any1]
      refine iteF ?_
      -- tells
      refine r_next ?_
      refine ⟨_, rfl, _, rfl, _, rfl, _, rfl, .ref t, x, mv', ac, pl', rl, s, Ks', PPk', PP', told ++ [d'], rowsOf PP', rfl, C12.sd, C12.ka, ok, C12.pl, C12.pp, C12.pz, hrl.mono s912, fun y => C12.rows_mem, C12.few, fun c => ?_, fun H13 s13 => ?_⟩
      · constructor
        · rintro ⟨y, hy, h⟩
          exact ⟨y, (C12.nm y hy c).mp h⟩
        · rintro ⟨y, h⟩
          have hy := (C12.pk y).mpr ⟨_, h⟩
          exact ⟨y, hy, (C12.nm y hy c).mpr h⟩
      · refine ⟨_, rfl, iteF ?_⟩
        exact ⟨r, x, mv', ac, tl, pl', lb', .ref t, s, l', Ks', PPk', PP', told ++ [d'], _, _, _, _, _, _, _, _, _, _, _, _, _, _, _, _, rfl, C12.mono s13, by rw [List.length_append]; simp only [List.length_cons, List.length_nil]; omega⟩
    · refine r_ifand (fun H7 => LC P w a H q H7 r x mv ac tl pl lb (.ref t) s l Ks PPk PP told ∧ Ls H7 ms ((mvs s l).map mvD) ∧ mvs s l ≠ []) (fun H7 => LC P w a H q H7 r x mv ac tl pl lb (.ref t) s l Ks PPk PP told)
        (fun H7 ⟨C7, hm7, hmne⟩ => ?_) (fun H7 C7 => ?_) (fun R hRt hRf => ?_)
      rotate_left
      rotate_left
      · -- the test
        refine ⟨_, rfl, r, q, 3, xs, rfl, C4.row, C4.same.seq hq, hx1000, by decide, by decide, fun n5 H5 hn5 sx5 r5 => ?_⟩
        have C5 := C4.turn sx5 r5
        have hms5 := hms4.sx C4.row sx5 (ls_ne_row hms4 (fun d hd => by obtain ⟨z, _, e⟩ := List.mem_map.mp hd; exact ⟨_, e.symm⟩) C4.row)
        refine ⟨_, _, rfl, rfl, _, rfl, ?_⟩
        refine ite2 (fun e => ?_) (fun e => ?_)
        · refine ⟨_, rfl, (by show 0 ≤ sizeLine; decide), fun l0 hl0 => ?_⟩
          have s6 : Same H5 (upd H5 l0 (.lst [])) := Same.new hl0
          have sh : SeqAt.shaped (.list ((mvs s l).map mvD)) = true := shaped_lst (n := 2) (fun e he => by obtain ⟨z, hz, rfl⟩ := List.mem_map.mp he; exact mvD_ok ok L hz) (by decide)
          refine ⟨_, .list [], (hms5.mono s6).dp, .lst (SqL.of upd_same) .nil, sh, shaped_nil, _, rfl, ?_⟩
          cases em : mvs s l with
          | nil => exact hRf _ (C5.mono s6)
          | cons z zs =>
            rw [List.map_cons, eqv_cons_nil]
            exact hRt _ ⟨C5.mono s6, hms5.mono s6, by rw [em]; simp⟩
        · exact hRf _ C5
      · -- saw
        obtain ⟨ys, hys, hqy⟩ := id hm7
        have hyl : ys.length = (mvs s l).length := by rw [hqy.length, List.length_map]
        have hml := mvs_len ok l
        have hll := L.len ok
        have hsz := ok.sz
        have hyne : ys ≠ [] := fun z => by
          rw [z] at hyl
          exact hmne (List.length_eq_zero_iff.mp hyl.symm)
        refine ⟨_, rfl, _, rfl, r, q, ms, xs, ys, rfl, C7.row, C7.same.seq hq, hx1000, hys, ls_ne_row hm7 (fun d hd => by obtain ⟨z, _, e⟩ := List.mem_map.mp hd; exact ⟨_, e.symm⟩) C7.row, hyne, by omega, fun v i8 H8 hv sx8 r8 => ?_⟩
        have C8 := C7.turn sx8 r8
        obtain ⟨dz, hdz, hvd⟩ := hqy.get hv
        rw [List.getElem?_map] at hdz
        obtain ⟨⟨sn, y0, l'⟩, hz, rfl⟩ := Option.map_eq_some_iff.mp hdz
        have mv0 := (mem_mvs ok L).mp (List.mem_of_getElem? hz)
        have L' := mv0.lay ok L
        obtain ⟨t9, u1, u2, u3, rfl, ht9, hu1, hu2, hu3⟩ := (hvd.mono (sx8.tk C7.row.ntup)).trip_inv
        obtain ⟨td, rfl, htd⟩ := hu1.eI_inv
        obtain ⟨lb', rfl, hlb'⟩ := hu3.eL_inv (L'.fl ok)
        refine ⟨t9, _, rfl, ht9.seq, rfl, _, _, rfl, _, _, rfl, _, _, rfl, rfl, ?_⟩
        refine ⟨by decide, fun f hf => ?_⟩
        have s9 : Same H8 (upd H8 f (.lst [])) := Same.new hf
        refine ⟨_, rfl, pl, s, PP, rfl, ok, C8.pl.mono s9, fun p hp => ?_, fun rl H10 s10 hrl => ?_⟩
        · obtain ⟨a1, a2⟩ := C8.pp p hp
          exact ⟨a1, by rcases a2 with e | ⟨c, _, e⟩ <;> rw [e] <;> rfl⟩
        obtain ⟨rs, hrs, hqr⟩ := hrl
        have hrl2 : rs.length = (rowsOf PP).length := by rw [hqr.length, List.length_map]; rfl
        have L8 : ∀ l ∈ rowsOf PP, Lay s l := fun y hy => C8.ka.lay y (C8.rows_mem.mp hy)
        have few8 := C8.few
        have hf10 : H10 f = some (.lst []) := s10 _ _ upd_same
        refine ⟨rl, rfl, ⟨rs, SqL.of hrs⟩, for_it (walk_list (xs := rs)) (fun i σ H' => ∃ (dl : Addr) (v9 v15 v16 v17 : Option V), σ = [some (.ref q), some (.ref r), some (.ref t), some (.ref lb'), some (.int (dr : Int)), v5, some (.ref x), some (.ref tl), some (.ref pl), v9, some (.int (0 + (i0 : Int))), some (.ref ms), some (.ref td), some u2, some (.ref dl), v15, v16, v17, v18, v19, v20, v21, v22] ∧ Same H8 H' ∧ Same H10 H' ∧ H8 dl = none ∧ Ls H' dl ((laterOf s sn ((rowsOf PP).take i)).map prD))
          ⟨f, _, _, _, _, rfl, s9.trans s10, Same.refl _, hf, [], hf10, .nil⟩ (fun i σ H' _ ⟨_, _, _, _, _, _, _, s11, _⟩ => SqL.of (s11 _ _ hrs)) ?_ ?_⟩
        · rintro i y σ H11 H11' hi11 ⟨dl, v9, v15, v16, v17, rfl, s11, s11', hdl8, hdl11⟩ ⟨rfl, hy⟩
          obtain ⟨dy, hdy, hyd⟩ := (hqr.same s11').get hy
          rw [List.getElem?_map] at hdy
          obtain ⟨lay, hlay, rfl⟩ := Option.map_eq_some_iff.mp hdy
          have hlay : (rowsOf PP)[i]? = some lay := hlay
          have Ly := L8 lay (List.mem_of_getElem? hlay)
          obtain ⟨b, rfl, hb⟩ := hyd.eL_inv (Ly.fl ok)
          have hml2 := mvs_len ok lay
          have hll2 := Ly.len ok
          refine ⟨_, rfl, ?_⟩
          refine lcL (mvs s lay) mvD (fun z => (sawG sn z).map prD) (by omega) (fun R h => ⟨_, rfl, _, rfl, .ref t, b, s, lay, rfl, C8.sd.same s11, ok, hb, Ly, fun q1 H12 s12 hq1 => h q1 H12 s12 hq1⟩) (fun j z y H12 hz12 s12 hy12 => ?_) (fun D H12 s12 hD => ?_)
          · obtain ⟨d1, x1, l1⟩ := z
            have m1 := (mem_mvs ok Ly).mp (List.mem_of_getElem? hz12)
            have Ll1 := m1.lay ok Ly
            obtain ⟨c1, hc1, rfl⟩ := m1.name Ly
            obtain ⟨t12, w1, w2, w3, rfl, ht12, hw1, hw2, hw3⟩ := hy12.trip_inv
            obtain ⟨b1, rfl, hb1⟩ := hw3.eL_inv (Ll1.fl ok)
            have htd12 := (htd.same s11).same s12
            refine turn_3t (b := decide (d1 = sn)) ht12.seq (fun R h => ⟨_, rfl, _, rfl, eI d1, eI sn, hw1.dp, (Dq.eI htd12).dp, shaped_eI _, shaped_eI _, ?_⟩) (fun hb => ?_) (fun hb => ?_)
            · rw [eqv_eI]
              exact ⟨_, rfl, h _ (Same.refl _)⟩
            · unfold sawG
              rw [if_neg (of_decide_eq_false hb)]
              rfl
            · refine ⟨prD (l1, .str c1), by unfold sawG; rw [if_pos (of_decide_eq_true hb)]; rfl, fun H13 s13 N hN => ⟨_, rfl, _, rfl, (by show 2 ≤ 1000000; decide), fun t14 H14 _ s14 ht14 => hN _ _ s14 (Dq.pair ht14 (Dq.eL ((hb1.same s13).same s14) (Ll1.fl ok)) (hw2.same (s13.trans s14)))⟩⟩
          · have e12 : (mvs s lay).filterMap (fun z => (sawG sn z).map prD) = ((mvs s lay).filterMap (sawG sn)).map prD := List.map_filterMap.symm
            rw [e12] at hD
            obtain ⟨vs1, hv1, hq1⟩ := hdl11.mono s12
            obtain ⟨vs2, hv2, hq2⟩ := hD
            have l1 := hq1.length
            have l2 := hq2.length
            rw [List.length_map] at l1 l2
            have l3 := later_len ok (sn := sn) (ls := (rowsOf PP).take i) fun y hy => L8 y (List.mem_of_mem_take hy)
            have l4 := List.length_filterMap_le (sawG sn) (mvs s lay)
            rw [List.length_take] at l3
            refine ⟨dl, D, vs1, vs2, rfl, rfl, hv1, hv2, sz_ok (by omega), fun p hp => ?_⟩
            refine ⟨p, _, _, _, _, rfl, (s11.trans s12).trans (Same.new hp), (s11'.trans s12).trans (Same.new hp), (s11.trans s12).free hp, _, upd_same, ?_⟩
            have eL2 : laterOf s sn ((rowsOf PP).take (i + 1)) = laterOf s sn ((rowsOf PP).take i) ++ (mvs s lay).filterMap (sawG sn) := by
              unfold laterOf
              rw [take_snoc hlay, List.flatMap_append, List.flatMap_singleton]
            rw [eL2, List.map_append]
            exact (hq1.append hq2).mono (Tk.new hp)
        · rintro σ H11 ⟨dl, v9, v15, v16, v17, rfl, s11, s11', hdl8, hdl11⟩
          rw [hrl2, List.take_length] at hdl11
          have C11 := C8.mono s11
          refine ⟨_, rfl, _, rfl, (by show 2 ≤ 1000000; decide), fun tc H12 _ s12 htc => ⟨_, _, rfl, ?_⟩⟩
          have C12 := C11.mono s12
          have s812 := s11.trans s12
          obtain ⟨⟨dx, st, kvs, hx12, _⟩, ⟨va, ha8, _⟩, _⟩ := id C12.ka
          obtain ⟨⟨_, _, _, _, _⟩, ⟨va8, hac8, _⟩, _⟩ := id C8.ka
          obtain ⟨vt8, htl8, _⟩ := id C8.tl
          have hml3 := later_len ok (sn := sn) L8
          have hmem : ∀ l1 y1, (l1, y1) ∈ laterOf s sn (rowsOf PP) ↔ ∃ l0 ∈ Ks, Mv s l0 sn y1 l1 := fun l1 y1 => by
            rw [mem_later ok L8]
            exact ⟨fun ⟨l0, h, m⟩ => ⟨l0, C8.rows_mem.mp h, m⟩, fun ⟨l0, h, m⟩ => ⟨l0, C8.rows_mem.mpr h, m⟩⟩
          refine ⟨_, rfl, x, dx, _, rfl, hx12, kfl_no _ _ _ (by decide +kernel) (by decide +kernel) (by decide +kernel), _, rfl, x, mv, ac, td, s, Ks, PPk, told, sn, rfl, C12.ka, ok, htd.same s812, mv0.doors ok L, by omega, ⟨l, C12.lk, y0, l', mv0⟩, fun H13 mv' Ks' PPk' sx13 ka13 hk13 hp13 => ?_⟩
          obtain ⟨vs, hvt, hvl, C13⟩ := C12.next sx13 ka13 (hdl11.mono s12) (C8.row.ne hdl8) (ne_of_none hac8 hdl8).symm (ne_of_none htl8 hdl8).symm (hlb'.same s812)
            ((hk13 l').mpr ⟨y0, (hp13 l' y0).mpr ⟨l, C12.lk, mv0⟩⟩)
            (fun p hp => by
              obtain ⟨l0, hl0, m⟩ := (hmem p.1 p.2).mp hp
              have L0 := C12.ka.lay l0 hl0
              exact ⟨m.lay ok L0, .inr (m.name L0)⟩)
            (fun l1 => by
              rw [hk13]
              exact exists_congr fun y1 => by rw [hp13, hmem])
            (fun l1 _ c1 => by rw [hp13, hmem]) (by omega)
            (Dq.pair htc (.str "saw") (Dq.eI (htd.same s812))) (sawD_ok sn)
          exact fin _ _ ⟨mv', dl, lb', l', Ks', PPk', laterOf s sn (rowsOf PP), sawD sn, .ref tc, vs, _, _, _, _, _, _, _, _, _, _, _, _, _, _, rfl, hvt, hvl, C13⟩
      · -- inspected
        have hll := L.len ok
        have hsz := ok.sz
        have hsl : (seenL s l (dr : Int)).length ≤ l.length := by
          rw [seen_range hll]
          have := List.length_filterMap_le (fun i => if s.ed[i]? = some (dr : Int) then l[i]? else none) (List.range l.length)
          rw [List.length_range] at this
          exact this
        refine r_seq (r_asg (r_cb1 (lcRow (r := r) (q := q) (xs := seenL s l (dr : Int)) (fun x y => (x = .non ∧ y = .non) ∨ (x ≠ .non ∧ (y = x ∨ y = .str "?"))) (by omega) C7.row
          (fun R h => ⟨_, rfl, _, rfl, _, rfl, .ref t, s, lb, l, (dr : Int), rfl, C7.sd, ok, C7.lb, L, fun p H8 s8 hp => h p H8 s8 hp⟩) (fun j x0 H8 hx0 sx8 r8 N hN => ?_) (fun _ => rfl) (fun D H8 ys hD sx8 r8 hys hyf hyl hyk => ?_))))
        · rcases L.mem (seen_mem (List.mem_of_getElem? hx0)) with e | ⟨c0, hc0, e⟩
          · subst e
            exact ⟨_, rfl, false, rfl, iteF (hN _ _ Sx.refl' r8 (.inl ⟨rfl, rfl⟩) rfl)⟩
          · subst e
            have hw0 := crN_word c0 (by obtain ⟨n, _, _, _, e⟩ := ok.cs; rw [e] at hc0; exact List.mem_of_mem_take hc0)
            refine ⟨_, rfl, true, ⟨hw0.2.2.2.1, ?_⟩, iteT ?_⟩
            · have : (c0.length : Int) ≠ 0 := by have := hw0.1; omega
              simpa using this
            · refine ⟨_, rfl, _, rfl, (by show 2 ≤ sizeLine; decide), fun l2 hl2 => ?_⟩
              have s9 : Same H8 (upd H8 l2 (.lst [.str c0, .str "?"])) := Same.new hl2
              refine ⟨r, q, l2, xs, [.str c0, .str "?"], rfl, r8.same s9, (Same.trans (Same.sx1 C7.same C7.fr sx8) s9).seq hq, hx1000, upd_same, r8.ne hl2, by simp, by simp, fun v i9 H9 hv sx9 r9 => ?_⟩
              refine hN v H9 ((Sx.of s9).trans sx9) r9 (.inr ⟨(by intro z; cases z), ?_⟩) ?_
              · match i9, hv with
                | 0, hv => exact .inl (Option.some.inj hv).symm
                | 1, hv => exact .inr (Option.some.inj hv).symm
              · match i9, hv with
                | 0, hv => cases hv; rfl
                | 1, hv => cases hv; rfl
        · have C8 := C7.turn sx8 r8
          refine ⟨D, ys, rfl, SqL.of hys, fun tq H9 _ s9 htq => ?_⟩
          have C9 := C8.mono s9
          refine ⟨_, rfl, _, rfl, (by show 3 ≤ 1000000; decide), fun tc H10 _ s10 htc => ?_⟩
          have C10 := C9.mono s10
          have htq10 := htq.same s10
          have okr : RowOk s ((dr : Int), ys) := by
            refine ⟨by show (0 : Int) ≤ dr; omega, by show (dr : Int) < s.ds.length; omega, by show ys.length = _; rw [hyl]; exact seen_len hll, fun y hy => ?_⟩
            obtain ⟨j, hj⟩ := List.mem_iff_getElem?.mp hy
            have hj : ys[j]? = some y := hj
            obtain ⟨z, hj2⟩ : ∃ z, (seenL s l (dr : Int))[j]? = some z := ⟨_, List.getElem?_eq_getElem (by have := lt_of_get hj; omega)⟩
            rcases hyk j _ y hj2 hj with ⟨_, e⟩ | ⟨hn, e | e⟩
            · exact .inl e
            · rw [e]
              rcases L.mem (seen_mem (List.mem_of_getElem? hj2)) with h | ⟨c, hc, h⟩
              · exact .inl h
              · exact .inr (.inr ⟨c, hc, h⟩)
            · exact .inr (.inl e)
          have iso : isSo s l (dr : Int) ys = true := isSo_of fun j x t h1 h2 => by
            rcases hyk j x t h1 h2 with ⟨e1, e2⟩ | ⟨hn, e | e⟩
            · exact .inl (e2.trans e1.symm)
            · exact .inl e
            · exact .inr ⟨e, hn⟩
          dsimp only
          refine r_nameS (r_seq (r_asg (lcLn PP prD (fun p => if isSo s p.1 (dr : Int) ys = true then some (prD p) else none) (by have := C10.pz; omega) (fun R h => ⟨_, rfl, h pl H10 (Same.refl _) C10.pl⟩) (fun j p y H11 hp s11 hy => ?_) (fun pl' H11 hpl' s11 hpl11 => ?_))))
          · obtain ⟨a1, a2⟩ := C10.pp p (List.mem_of_getElem? hp)
            obtain ⟨tp, u1, u2, rfl, htp, hu1, hu2⟩ := id hy.pair_inv
            obtain ⟨b, rfl, hb⟩ := hu1.eL_inv (a1.fl ok)
            refine turn_t (b := isSo s p.1 (dr : Int) ys) (fun R h => ⟨_, rfl, _, rfl, _, _, _, _, rfl, rfl, htp.seq, rfl, _, rfl, _, rfl, (by show 3 ≤ 1000000; decide), fun to H12 _ s12 hto => ⟨.ref t, b, to, tq, s, p.1, ((dr : Int), ys), rfl, C10.sd.same (s11.trans s12), ok, hb.same s12, a1, hto, htq10.same (s11.trans s12), okr, fun H13 s13 => ⟨_, rfl, h _ (s12.trans s13)⟩⟩⟩) (fun hb => ?_) (fun hb => ?_)
            · rw [if_neg (by simp [hb])]
            · exact ⟨prD p, if_pos hb, fun H12 s12 N hN => ⟨_, rfl, hN _ _ (Same.refl _) (hy.same s12)⟩⟩
          · have e11 : PP.filterMap (fun p => if isSo s p.1 (dr : Int) ys = true then some (prD p) else none) = (PP.filter fun p => isSo s p.1 (dr : Int) ys).map prD := fm_filter _ _ PP
            rw [e11] at hpl11
            have C11 := C10.mono s11
            obtain ⟨⟨dx, st, kvs, hx11, _⟩, ⟨va, ha11, _⟩, _⟩ := id C11.ka
            obtain ⟨⟨_, _, _, _, _⟩, ⟨va10, hac10, _⟩, _⟩ := id C10.ka
            obtain ⟨vt10, htl10, _⟩ := id C10.tl
            refine ⟨_, rfl, x, dx, _, rfl, hx11, kfl_no _ _ _ (by decide +kernel) (by decide +kernel) (by decide +kernel), _, rfl, _, rfl, x, mv, ac, tq, s, Ks, PPk, told, ((dr : Int), ys), rfl, C11.ka, ok, htq10.same s11, okr, by omega, ⟨l, C11.lk, iso⟩, fun H12 mv' sx12 ka12 => ?_⟩
            obtain ⟨vs, hvt, hvl, C12⟩ := C11.next sx12 ka12 hpl11 (C10.row.ne hpl') (ne_of_none hac10 hpl').symm (ne_of_none htl10 hpl').symm C11.lb
              (List.mem_filter.mpr ⟨C11.lk, iso⟩)
              (fun p hp => C11.pp p (List.mem_filter.mp hp).1)
              (fun l1 => by
                rw [List.mem_filter, C11.pk]
                exact ⟨fun ⟨⟨y1, h1⟩, h2⟩ => ⟨y1, List.mem_filter.mpr ⟨h1, h2⟩⟩, fun ⟨y1, h⟩ => ⟨⟨y1, (List.mem_filter.mp h).1⟩, (List.mem_filter.mp h).2⟩⟩)
              (fun l1 hl1 c1 => by
                obtain ⟨h1, h2⟩ := List.mem_filter.mp hl1
                rw [C11.nm l1 h1, List.mem_filter]
                exact ⟨fun h => ⟨h, h2⟩, fun h => h.1⟩)
              (Nat.le_trans (List.length_filter_le _ _) C11.pz)
              (.tup (htc.same s11) (.cons (.str "inspected") (.cons (.int (dr : Int)) (.cons (Dq.eL (htq10.same s11) okr.fl) .nil)))) (insD_ok ok okr)
            exact fin _ _ ⟨mv', pl', lb, l, _, PPk, _, insD ((dr : Int), ys), .ref tc, vs, _, _, _, _, _, _, _, _, _, _, _, _, _, _, rfl, hvt, hvl, C12⟩
end
end Cc

end

section
set_option Elab.async false
set_option linter.all false
set_option maxRecDepth 100000
set_option maxHeartbeats 0
namespace Cc
open PySem PySem.Spec L2

theorem all_mk {l : PySem.W.OpenLaw} {w : World} {K : PySem.W.Frag} {h : Heap} {mg : Str → Option Value} {fa : Addr} (X : K.In h) (G : h.Ns mainGlobals mg) (hfa : mg "law" = some (.ref fa))
    {CS CK pE pP : Addr}
    {q_Store_doors : Addr} {g_Store_doors : List Value}
    {q_Store_crates : Addr} {g_Store_crates : List Value}
    {q_Store_size : Addr} {g_Store_size : List Value}
    {q_Keeper_layouts_left : Addr} {g_Keeper_layouts_left : List Value}
    {q_Keeper_seen_so_far : Addr} {g_Keeper_seen_so_far : List Value}
    {f_is_number : Addr} {oc_is_number kV_is_number dc_is_number pm_is_number cd_is_number ct_is_number : Value} {od_is_number an_is_number : Option Addr} {sl_is_number : Array (Option Value)}
    {f_is_word : Addr} {oc_is_word kV_is_word dc_is_word pm_is_word cd_is_word ct_is_word : Value} {od_is_word an_is_word : Option Addr} {sl_is_word : Array (Option Value)}
    {f_is_door : Addr} {oc_is_door kV_is_door dc_is_door pm_is_door cd_is_door ct_is_door : Value} {od_is_door an_is_door : Option Addr} {sl_is_door : Array (Option Value)}
    {f_are_doors : Addr} {oc_are_doors kV_are_doors dc_are_doors pm_are_doors cd_are_doors ct_are_doors : Value} {od_are_doors an_are_doors : Option Addr} {sl_are_doors : Array (Option Value)}
    {f_are_crates : Addr} {oc_are_crates kV_are_crates dc_are_crates pm_are_crates cd_are_crates ct_are_crates : Value} {od_are_crates an_are_crates : Option Addr} {sl_are_crates : Array (Option Value)}
    {f_Store_init : Addr} {oc_Store_init kV_Store_init dc_Store_init pm_Store_init cd_Store_init ct_Store_init : Value} {od_Store_init an_Store_init : Option Addr} {sl_Store_init : Array (Option Value)}
    {f_Store_doors : Addr} {oc_Store_doors kV_Store_doors dc_Store_doors pm_Store_doors cd_Store_doors ct_Store_doors : Value} {od_Store_doors an_Store_doors : Option Addr} {sl_Store_doors : Array (Option Value)}
    {f_Store_crates : Addr} {oc_Store_crates kV_Store_crates dc_Store_crates pm_Store_crates cd_Store_crates ct_Store_crates : Value} {od_Store_crates an_Store_crates : Option Addr} {sl_Store_crates : Array (Option Value)}
    {f_Store_size : Addr} {oc_Store_size kV_Store_size dc_Store_size pm_Store_size cd_Store_size ct_Store_size : Value} {od_Store_size an_Store_size : Option Addr} {sl_Store_size : Array (Option Value)}
    {f_Store_len : Addr} {oc_Store_len kV_Store_len dc_Store_len pm_Store_len cd_Store_len ct_Store_len : Value} {od_Store_len an_Store_len : Option Addr} {sl_Store_len : Array (Option Value)}
    {f_Store_door_of : Addr} {oc_Store_door_of kV_Store_door_of dc_Store_door_of pm_Store_door_of cd_Store_door_of ct_Store_door_of : Value} {od_Store_door_of an_Store_door_of : Option Addr} {sl_Store_door_of : Array (Option Value)}
    {f_Store_places_of : Addr} {oc_Store_places_of kV_Store_places_of dc_Store_places_of pm_Store_places_of cd_Store_places_of ct_Store_places_of : Value} {od_Store_places_of an_Store_places_of : Option Addr} {sl_Store_places_of : Array (Option Value)}
    {f_all_layouts : Addr} {oc_all_layouts kV_all_layouts dc_all_layouts pm_all_layouts cd_all_layouts ct_all_layouts : Value} {od_all_layouts an_all_layouts : Option Addr} {sl_all_layouts : Array (Option Value)}
    {f_seen_behind : Addr} {oc_seen_behind kV_seen_behind dc_seen_behind pm_seen_behind cd_seen_behind ct_seen_behind : Value} {od_seen_behind an_seen_behind : Option Addr} {sl_seen_behind : Array (Option Value)}
    {f_rank : Addr} {oc_rank kV_rank dc_rank pm_rank cd_rank ct_rank : Value} {od_rank an_rank : Option Addr} {sl_rank : Array (Option Value)}
    {f_in_order : Addr} {oc_in_order kV_in_order dc_in_order pm_in_order cd_in_order ct_in_order : Value} {od_in_order an_in_order : Option Addr} {sl_in_order : Array (Option Value)}
    {f_is_crate : Addr} {oc_is_crate kV_is_crate dc_is_crate pm_is_crate cd_is_crate ct_is_crate : Value} {od_is_crate an_is_crate : Option Addr} {sl_is_crate : Array (Option Value)}
    {f_exchanged : Addr} {oc_exchanged kV_exchanged dc_exchanged pm_exchanged cd_exchanged ct_exchanged : Value} {od_exchanged an_exchanged : Option Addr} {sl_exchanged : Array (Option Value)}
    {f_is_sighting : Addr} {oc_is_sighting kV_is_sighting dc_is_sighting pm_is_sighting cd_is_sighting ct_is_sighting : Value} {od_is_sighting an_is_sighting : Option Addr} {sl_is_sighting : Array (Option Value)}
    {f_check_log : Addr} {oc_check_log kV_check_log dc_check_log pm_check_log cd_check_log ct_check_log : Value} {od_check_log an_check_log : Option Addr} {sl_check_log : Array (Option Value)}
    {f_is_so : Addr} {oc_is_so kV_is_so dc_is_so pm_is_so cd_is_so ct_is_so : Value} {od_is_so an_is_so : Option Addr} {sl_is_so : Array (Option Value)}
    {f_behind_row : Addr} {oc_behind_row kV_behind_row dc_behind_row pm_behind_row cd_behind_row ct_behind_row : Value} {od_behind_row an_behind_row : Option Addr} {sl_behind_row : Array (Option Value)}
    {f_counts_behind : Addr} {oc_counts_behind kV_counts_behind dc_counts_behind pm_counts_behind cd_counts_behind ct_counts_behind : Value} {od_counts_behind an_counts_behind : Option Addr} {sl_counts_behind : Array (Option Value)}
    {f_all_now : Addr} {oc_all_now kV_all_now dc_all_now pm_all_now cd_all_now ct_all_now : Value} {od_all_now an_all_now : Option Addr} {sl_all_now : Array (Option Value)}
    {f_now : Addr} {oc_now kV_now dc_now pm_now cd_now ct_now : Value} {od_now an_now : Option Addr} {sl_now : Array (Option Value)}
    {f_need_some : Addr} {oc_need_some kV_need_some dc_need_some pm_need_some cd_need_some ct_need_some : Value} {od_need_some an_need_some : Option Addr} {sl_need_some : Array (Option Value)}
    {f_some_now : Addr} {oc_some_now kV_some_now dc_some_now pm_some_now cd_some_now ct_some_now : Value} {od_some_now an_some_now : Option Addr} {sl_some_now : Array (Option Value)}
    {f_all_steps : Addr} {oc_all_steps kV_all_steps dc_all_steps pm_all_steps cd_all_steps ct_all_steps : Value} {od_all_steps an_all_steps : Option Addr} {sl_all_steps : Array (Option Value)}
    {f_doors_of : Addr} {oc_doors_of kV_doors_of dc_doors_of pm_doors_of cd_doors_of ct_doors_of : Value} {od_doors_of an_doors_of : Option Addr} {sl_doors_of : Array (Option Value)}
    {f_Keeper_init : Addr} {oc_Keeper_init kV_Keeper_init dc_Keeper_init pm_Keeper_init cd_Keeper_init ct_Keeper_init : Value} {od_Keeper_init an_Keeper_init : Option Addr} {sl_Keeper_init : Array (Option Value)}
    {f_Keeper_layouts_left : Addr} {oc_Keeper_layouts_left kV_Keeper_layouts_left dc_Keeper_layouts_left pm_Keeper_layouts_left cd_Keeper_layouts_left ct_Keeper_layouts_left : Value} {od_Keeper_layouts_left an_Keeper_layouts_left : Option Addr} {sl_Keeper_layouts_left : Array (Option Value)}
    {f_Keeper_seen_so_far : Addr} {oc_Keeper_seen_so_far kV_Keeper_seen_so_far dc_Keeper_seen_so_far pm_Keeper_seen_so_far cd_Keeper_seen_so_far ct_Keeper_seen_so_far : Value} {od_Keeper_seen_so_far an_Keeper_seen_so_far : Option Addr} {sl_Keeper_seen_so_far : Array (Option Value)}
    {f_Keeper_narrow : Addr} {oc_Keeper_narrow kV_Keeper_narrow dc_Keeper_narrow pm_Keeper_narrow cd_Keeper_narrow ct_Keeper_narrow : Value} {od_Keeper_narrow an_Keeper_narrow : Option Addr} {sl_Keeper_narrow : Array (Option Value)}
    {f_Keeper_check_doors : Addr} {oc_Keeper_check_doors kV_Keeper_check_doors dc_Keeper_check_doors pm_Keeper_check_doors cd_Keeper_check_doors ct_Keeper_check_doors : Value} {od_Keeper_check_doors an_Keeper_check_doors : Option Addr} {sl_Keeper_check_doors : Array (Option Value)}
    {f_Keeper_saw : Addr} {oc_Keeper_saw kV_Keeper_saw dc_Keeper_saw pm_Keeper_saw cd_Keeper_saw ct_Keeper_saw : Value} {od_Keeper_saw an_Keeper_saw : Option Addr} {sl_Keeper_saw : Array (Option Value)}
    {f_Keeper_inspected : Addr} {oc_Keeper_inspected kV_Keeper_inspected dc_Keeper_inspected pm_Keeper_inspected cd_Keeper_inspected ct_Keeper_inspected : Value} {od_Keeper_inspected an_Keeper_inspected : Option Addr} {sl_Keeper_inspected : Array (Option Value)}
    {f_Keeper_could_have_moved : Addr} {oc_Keeper_could_have_moved kV_Keeper_could_have_moved dc_Keeper_could_have_moved pm_Keeper_could_have_moved cd_Keeper_could_have_moved ct_Keeper_could_have_moved : Value} {od_Keeper_could_have_moved an_Keeper_could_have_moved : Option Addr} {sl_Keeper_could_have_moved : Array (Option Value)}
    {f_Keeper_next_doors : Addr} {oc_Keeper_next_doors kV_Keeper_next_doors dc_Keeper_next_doors pm_Keeper_next_doors cd_Keeper_next_doors ct_Keeper_next_doors : Value} {od_Keeper_next_doors an_Keeper_next_doors : Option Addr} {sl_Keeper_next_doors : Array (Option Value)}
    {f_law_taken : Addr} {oc_law_taken kV_law_taken dc_law_taken pm_law_taken cd_law_taken ct_law_taken : Value} {od_law_taken an_law_taken : Option Addr} {sl_law_taken : Array (Option Value)}
    {f_law_pick : Addr} {oc_law_pick kV_law_pick dc_law_pick pm_law_pick cd_law_pick ct_law_pick : Value} {od_law_pick an_law_pick : Option Addr} {sl_law_pick : Array (Option Value)}
    {f_law_scheme : Addr} {oc_law_scheme kV_law_scheme dc_law_scheme pm_law_scheme cd_law_scheme ct_law_scheme : Value} {od_law_scheme an_law_scheme : Option Addr} {sl_law_scheme : Array (Option Value)}
    {f_law_store : Addr} {oc_law_store kV_law_store dc_law_store pm_law_store cd_law_store ct_law_store : Value} {od_law_store an_law_store : Option Addr} {sl_law_store : Array (Option Value)}
    {f_law_edges : Addr} {oc_law_edges kV_law_edges dc_law_edges pm_law_edges cd_law_edges ct_law_edges : Value} {od_law_edges an_law_edges : Option Addr} {sl_law_edges : Array (Option Value)}
    {f_law_rank : Addr} {oc_law_rank kV_law_rank dc_law_rank pm_law_rank cd_law_rank ct_law_rank : Value} {od_law_rank an_law_rank : Option Addr} {sl_law_rank : Array (Option Value)}
    {f_law_layouts : Addr} {oc_law_layouts kV_law_layouts dc_law_layouts pm_law_layouts cd_law_layouts ct_law_layouts : Value} {od_law_layouts an_law_layouts : Option Addr} {sl_law_layouts : Array (Option Value)}
    {f_law_seen : Addr} {oc_law_seen kV_law_seen dc_law_seen pm_law_seen cd_law_seen ct_law_seen : Value} {od_law_seen an_law_seen : Option Addr} {sl_law_seen : Array (Option Value)}
    {f_law_turned : Addr} {oc_law_turned kV_law_turned dc_law_turned pm_law_turned cd_law_turned ct_law_turned : Value} {od_law_turned an_law_turned : Option Addr} {sl_law_turned : Array (Option Value)}
    {f_law_is_so : Addr} {oc_law_is_so kV_law_is_so dc_law_is_so pm_law_is_so cd_law_is_so ct_law_is_so : Value} {od_law_is_so an_law_is_so : Option Addr} {sl_law_is_so : Array (Option Value)}
    {f_law_counts : Addr} {oc_law_counts kV_law_counts dc_law_counts pm_law_counts cd_law_counts ct_law_counts : Value} {od_law_counts an_law_counts : Option Addr} {sl_law_counts : Array (Option Value)}
    {f_law_now : Addr} {oc_law_now kV_law_now dc_law_now pm_law_now cd_law_now ct_law_now : Value} {od_law_now an_law_now : Option Addr} {sl_law_now : Array (Option Value)}
    {f_law_firsts : Addr} {oc_law_firsts kV_law_firsts dc_law_firsts pm_law_firsts cd_law_firsts ct_law_firsts : Value} {od_law_firsts an_law_firsts : Option Addr} {sl_law_firsts : Array (Option Value)}
    {f_law_moves : Addr} {oc_law_moves kV_law_moves dc_law_moves pm_law_moves cd_law_moves ct_law_moves : Value} {od_law_moves an_law_moves : Option Addr} {sl_law_moves : Array (Option Value)}
    {f_law_tells : Addr} {oc_law_tells kV_law_tells dc_law_tells pm_law_tells cd_law_tells ct_law_tells : Value} {od_law_tells an_law_tells : Option Addr} {sl_law_tells : Array (Option Value)}
    {f_law : Addr} {oc_law kV_law dc_law pm_law cd_law ct_law : Value} {od_law an_law : Option Addr} {sl_law : Array (Option Value)}
    {t_LETTERS : Tok}
    {t_MAX_LETTERS : Tok}
    {t_MAX_DOORS : Tok}
    {t_MAX_WARMTH : Tok}
    {t_MAX_BEHIND : Tok}
    {t_MAX_PLACES : Tok}
    {t_MAX_CRATES : Tok}
    {t_OPEN : Tok}
    {t_FROSTED : Tok}
    {t_SAW : Tok}
    {t_INSPECTED : Tok}
    (mS : PySem.W.nsIn K mainGlobals "Store" = some (some (.ref CS)))
    (mK : PySem.W.nsIn K mainGlobals "Keeper" = some (some (.ref CK)))
    (pa_Store_doors : PySem.W.findIn K (.ref CS) "doors" = some (some (.ref q_Store_doors)))
    (pg_Store_doors : PySem.W.specialIn K (.ref q_Store_doors) "__get__" = some (some (.builtin "property.__get__")))
    (pt_Store_doors : PySem.W.takesIn K (.ref q_Store_doors) = some true)
    (pr_Store_doors : PySem.W.recIn K q_Store_doors "property" = some (.ref f_Store_doors :: g_Store_doors))
    (pa_Store_crates : PySem.W.findIn K (.ref CS) "crates" = some (some (.ref q_Store_crates)))
    (pg_Store_crates : PySem.W.specialIn K (.ref q_Store_crates) "__get__" = some (some (.builtin "property.__get__")))
    (pt_Store_crates : PySem.W.takesIn K (.ref q_Store_crates) = some true)
    (pr_Store_crates : PySem.W.recIn K q_Store_crates "property" = some (.ref f_Store_crates :: g_Store_crates))
    (pa_Store_size : PySem.W.findIn K (.ref CS) "size" = some (some (.ref q_Store_size)))
    (pg_Store_size : PySem.W.specialIn K (.ref q_Store_size) "__get__" = some (some (.builtin "property.__get__")))
    (pt_Store_size : PySem.W.takesIn K (.ref q_Store_size) = some true)
    (pr_Store_size : PySem.W.recIn K q_Store_size "property" = some (.ref f_Store_size :: g_Store_size))
    (pa_Keeper_layouts_left : PySem.W.findIn K (.ref CK) "layouts_left" = some (some (.ref q_Keeper_layouts_left)))
    (pg_Keeper_layouts_left : PySem.W.specialIn K (.ref q_Keeper_layouts_left) "__get__" = some (some (.builtin "property.__get__")))
    (pt_Keeper_layouts_left : PySem.W.takesIn K (.ref q_Keeper_layouts_left) = some true)
    (pr_Keeper_layouts_left : PySem.W.recIn K q_Keeper_layouts_left "property" = some (.ref f_Keeper_layouts_left :: g_Keeper_layouts_left))
    (pa_Keeper_seen_so_far : PySem.W.findIn K (.ref CK) "seen_so_far" = some (some (.ref q_Keeper_seen_so_far)))
    (pg_Keeper_seen_so_far : PySem.W.specialIn K (.ref q_Keeper_seen_so_far) "__get__" = some (some (.builtin "property.__get__")))
    (pt_Keeper_seen_so_far : PySem.W.takesIn K (.ref q_Keeper_seen_so_far) = some true)
    (pr_Keeper_seen_so_far : PySem.W.recIn K q_Keeper_seen_so_far "property" = some (.ref f_Keeper_seen_so_far :: g_Keeper_seen_so_far))
    (a_is_number : PySem.W.nsIn K mainGlobals "is_number" = some (some (.ref f_is_number)))
    (l_is_number : K.lookup f_is_number = some ⟨oc_is_number, od_is_number, .func (PySem.W.fnOf "is_number" "is_number" (defArgs s_is_number) (defBody s_is_number) (defScope s_is_number) .none kV_is_number dc_is_number pm_is_number an_is_number cd_is_number ct_is_number), sl_is_number⟩)
    (c_is_number : PySem.W.codeIn K cd_is_number "is_number" = true)
    (k_is_number : PySem.W.keepIn K (.ref f_is_number) = true)
    (a_is_word : PySem.W.nsIn K mainGlobals "is_word" = some (some (.ref f_is_word)))
    (l_is_word : K.lookup f_is_word = some ⟨oc_is_word, od_is_word, .func (PySem.W.fnOf "is_word" "is_word" (defArgs s_is_word) (defBody s_is_word) (defScope s_is_word) .none kV_is_word dc_is_word pm_is_word an_is_word cd_is_word ct_is_word), sl_is_word⟩)
    (c_is_word : PySem.W.codeIn K cd_is_word "is_word" = true)
    (k_is_word : PySem.W.keepIn K (.ref f_is_word) = true)
    (a_is_door : PySem.W.nsIn K mainGlobals "is_door" = some (some (.ref f_is_door)))
    (l_is_door : K.lookup f_is_door = some ⟨oc_is_door, od_is_door, .func (PySem.W.fnOf "is_door" "is_door" (defArgs s_is_door) (defBody s_is_door) (defScope s_is_door) .none kV_is_door dc_is_door pm_is_door an_is_door cd_is_door ct_is_door), sl_is_door⟩)
    (c_is_door : PySem.W.codeIn K cd_is_door "is_door" = true)
    (k_is_door : PySem.W.keepIn K (.ref f_is_door) = true)
    (a_are_doors : PySem.W.nsIn K mainGlobals "are_doors" = some (some (.ref f_are_doors)))
    (l_are_doors : K.lookup f_are_doors = some ⟨oc_are_doors, od_are_doors, .func (PySem.W.fnOf "are_doors" "are_doors" (defArgs s_are_doors) (defBody s_are_doors) (defScope s_are_doors) .none kV_are_doors dc_are_doors pm_are_doors an_are_doors cd_are_doors ct_are_doors), sl_are_doors⟩)
    (c_are_doors : PySem.W.codeIn K cd_are_doors "are_doors" = true)
    (k_are_doors : PySem.W.keepIn K (.ref f_are_doors) = true)
    (a_are_crates : PySem.W.nsIn K mainGlobals "are_crates" = some (some (.ref f_are_crates)))
    (l_are_crates : K.lookup f_are_crates = some ⟨oc_are_crates, od_are_crates, .func (PySem.W.fnOf "are_crates" "are_crates" (defArgs s_are_crates) (defBody s_are_crates) (defScope s_are_crates) .none kV_are_crates dc_are_crates pm_are_crates an_are_crates cd_are_crates ct_are_crates), sl_are_crates⟩)
    (c_are_crates : PySem.W.codeIn K cd_are_crates "are_crates" = true)
    (k_are_crates : PySem.W.keepIn K (.ref f_are_crates) = true)
    (a_Store_init : PySem.W.findIn K (.ref CS) "__init__" = some (some (.ref f_Store_init)))
    (i_Store_init : PySem.W.isFn K (.ref f_Store_init) = true)
    (l_Store_init : K.lookup f_Store_init = some ⟨oc_Store_init, od_Store_init, .func (PySem.W.fnOf "__init__" "Store.__init__" (defArgs s_Store_init) (defBody s_Store_init) (defScope s_Store_init) .none kV_Store_init dc_Store_init pm_Store_init an_Store_init cd_Store_init ct_Store_init), sl_Store_init⟩)
    (c_Store_init : PySem.W.codeIn K cd_Store_init "Store.__init__" = true)
    (k_Store_init : PySem.W.keepIn K (.ref f_Store_init) = true)
    (l_Store_doors : K.lookup f_Store_doors = some ⟨oc_Store_doors, od_Store_doors, .func (PySem.W.fnOf "doors" "Store.doors" (defArgs s_Store_doors) (defBody s_Store_doors) (defScope s_Store_doors) .none kV_Store_doors dc_Store_doors pm_Store_doors an_Store_doors cd_Store_doors ct_Store_doors), sl_Store_doors⟩)
    (c_Store_doors : PySem.W.codeIn K cd_Store_doors "Store.doors" = true)
    (k_Store_doors : PySem.W.keepIn K (.ref f_Store_doors) = true)
    (l_Store_crates : K.lookup f_Store_crates = some ⟨oc_Store_crates, od_Store_crates, .func (PySem.W.fnOf "crates" "Store.crates" (defArgs s_Store_crates) (defBody s_Store_crates) (defScope s_Store_crates) .none kV_Store_crates dc_Store_crates pm_Store_crates an_Store_crates cd_Store_crates ct_Store_crates), sl_Store_crates⟩)
    (c_Store_crates : PySem.W.codeIn K cd_Store_crates "Store.crates" = true)
    (k_Store_crates : PySem.W.keepIn K (.ref f_Store_crates) = true)
    (l_Store_size : K.lookup f_Store_size = some ⟨oc_Store_size, od_Store_size, .func (PySem.W.fnOf "size" "Store.size" (defArgs s_Store_size) (defBody s_Store_size) (defScope s_Store_size) .none kV_Store_size dc_Store_size pm_Store_size an_Store_size cd_Store_size ct_Store_size), sl_Store_size⟩)
    (c_Store_size : PySem.W.codeIn K cd_Store_size "Store.size" = true)
    (k_Store_size : PySem.W.keepIn K (.ref f_Store_size) = true)
    (a_Store_len : PySem.W.findIn K (.ref CS) "__len__" = some (some (.ref f_Store_len)))
    (i_Store_len : PySem.W.isFn K (.ref f_Store_len) = true)
    (l_Store_len : K.lookup f_Store_len = some ⟨oc_Store_len, od_Store_len, .func (PySem.W.fnOf "__len__" "Store.__len__" (defArgs s_Store_len) (defBody s_Store_len) (defScope s_Store_len) .none kV_Store_len dc_Store_len pm_Store_len an_Store_len cd_Store_len ct_Store_len), sl_Store_len⟩)
    (c_Store_len : PySem.W.codeIn K cd_Store_len "Store.__len__" = true)
    (k_Store_len : PySem.W.keepIn K (.ref f_Store_len) = true)
    (a_Store_door_of : PySem.W.findIn K (.ref CS) "door_of" = some (some (.ref f_Store_door_of)))
    (i_Store_door_of : PySem.W.isFn K (.ref f_Store_door_of) = true)
    (l_Store_door_of : K.lookup f_Store_door_of = some ⟨oc_Store_door_of, od_Store_door_of, .func (PySem.W.fnOf "door_of" "Store.door_of" (defArgs s_Store_door_of) (defBody s_Store_door_of) (defScope s_Store_door_of) .none kV_Store_door_of dc_Store_door_of pm_Store_door_of an_Store_door_of cd_Store_door_of ct_Store_door_of), sl_Store_door_of⟩)
    (c_Store_door_of : PySem.W.codeIn K cd_Store_door_of "Store.door_of" = true)
    (k_Store_door_of : PySem.W.keepIn K (.ref f_Store_door_of) = true)
    (a_Store_places_of : PySem.W.findIn K (.ref CS) "places_of" = some (some (.ref f_Store_places_of)))
    (i_Store_places_of : PySem.W.isFn K (.ref f_Store_places_of) = true)
    (l_Store_places_of : K.lookup f_Store_places_of = some ⟨oc_Store_places_of, od_Store_places_of, .func (PySem.W.fnOf "places_of" "Store.places_of" (defArgs s_Store_places_of) (defBody s_Store_places_of) (defScope s_Store_places_of) .none kV_Store_places_of dc_Store_places_of pm_Store_places_of an_Store_places_of cd_Store_places_of ct_Store_places_of), sl_Store_places_of⟩)
    (c_Store_places_of : PySem.W.codeIn K cd_Store_places_of "Store.places_of" = true)
    (k_Store_places_of : PySem.W.keepIn K (.ref f_Store_places_of) = true)
    (a_all_layouts : PySem.W.nsIn K mainGlobals "all_layouts" = some (some (.ref f_all_layouts)))
    (l_all_layouts : K.lookup f_all_layouts = some ⟨oc_all_layouts, od_all_layouts, .func (PySem.W.fnOf "all_layouts" "all_layouts" (defArgs s_all_layouts) (defBody s_all_layouts) (defScope s_all_layouts) .none kV_all_layouts dc_all_layouts pm_all_layouts an_all_layouts cd_all_layouts ct_all_layouts), sl_all_layouts⟩)
    (c_all_layouts : PySem.W.codeIn K cd_all_layouts "all_layouts" = true)
    (k_all_layouts : PySem.W.keepIn K (.ref f_all_layouts) = true)
    (a_seen_behind : PySem.W.nsIn K mainGlobals "seen_behind" = some (some (.ref f_seen_behind)))
    (l_seen_behind : K.lookup f_seen_behind = some ⟨oc_seen_behind, od_seen_behind, .func (PySem.W.fnOf "seen_behind" "seen_behind" (defArgs s_seen_behind) (defBody s_seen_behind) (defScope s_seen_behind) .none kV_seen_behind dc_seen_behind pm_seen_behind an_seen_behind cd_seen_behind ct_seen_behind), sl_seen_behind⟩)
    (c_seen_behind : PySem.W.codeIn K cd_seen_behind "seen_behind" = true)
    (k_seen_behind : PySem.W.keepIn K (.ref f_seen_behind) = true)
    (a_rank : PySem.W.nsIn K mainGlobals "rank" = some (some (.ref f_rank)))
    (l_rank : K.lookup f_rank = some ⟨oc_rank, od_rank, .func (PySem.W.fnOf "rank" "rank" (defArgs s_rank) (defBody s_rank) (defScope s_rank) .none kV_rank dc_rank pm_rank an_rank cd_rank ct_rank), sl_rank⟩)
    (c_rank : PySem.W.codeIn K cd_rank "rank" = true)
    (k_rank : PySem.W.keepIn K (.ref f_rank) = true)
    (a_in_order : PySem.W.nsIn K mainGlobals "in_order" = some (some (.ref f_in_order)))
    (l_in_order : K.lookup f_in_order = some ⟨oc_in_order, od_in_order, .func (PySem.W.fnOf "in_order" "in_order" (defArgs s_in_order) (defBody s_in_order) (defScope s_in_order) .none kV_in_order dc_in_order pm_in_order an_in_order cd_in_order ct_in_order), sl_in_order⟩)
    (c_in_order : PySem.W.codeIn K cd_in_order "in_order" = true)
    (k_in_order : PySem.W.keepIn K (.ref f_in_order) = true)
    (a_is_crate : PySem.W.nsIn K mainGlobals "is_crate" = some (some (.ref f_is_crate)))
    (l_is_crate : K.lookup f_is_crate = some ⟨oc_is_crate, od_is_crate, .func (PySem.W.fnOf "is_crate" "is_crate" (defArgs s_is_crate) (defBody s_is_crate) (defScope s_is_crate) .none kV_is_crate dc_is_crate pm_is_crate an_is_crate cd_is_crate ct_is_crate), sl_is_crate⟩)
    (c_is_crate : PySem.W.codeIn K cd_is_crate "is_crate" = true)
    (k_is_crate : PySem.W.keepIn K (.ref f_is_crate) = true)
    (a_exchanged : PySem.W.nsIn K mainGlobals "exchanged" = some (some (.ref f_exchanged)))
    (l_exchanged : K.lookup f_exchanged = some ⟨oc_exchanged, od_exchanged, .func (PySem.W.fnOf "exchanged" "exchanged" (defArgs s_exchanged) (defBody s_exchanged) (defScope s_exchanged) .none kV_exchanged dc_exchanged pm_exchanged an_exchanged cd_exchanged ct_exchanged), sl_exchanged⟩)
    (c_exchanged : PySem.W.codeIn K cd_exchanged "exchanged" = true)
    (k_exchanged : PySem.W.keepIn K (.ref f_exchanged) = true)
    (a_is_sighting : PySem.W.nsIn K mainGlobals "is_sighting" = some (some (.ref f_is_sighting)))
    (l_is_sighting : K.lookup f_is_sighting = some ⟨oc_is_sighting, od_is_sighting, .func (PySem.W.fnOf "is_sighting" "is_sighting" (defArgs s_is_sighting) (defBody s_is_sighting) (defScope s_is_sighting) .none kV_is_sighting dc_is_sighting pm_is_sighting an_is_sighting cd_is_sighting ct_is_sighting), sl_is_sighting⟩)
    (c_is_sighting : PySem.W.codeIn K cd_is_sighting "is_sighting" = true)
    (k_is_sighting : PySem.W.keepIn K (.ref f_is_sighting) = true)
    (a_check_log : PySem.W.nsIn K mainGlobals "check_log" = some (some (.ref f_check_log)))
    (l_check_log : K.lookup f_check_log = some ⟨oc_check_log, od_check_log, .func (PySem.W.fnOf "check_log" "check_log" (defArgs s_check_log) (defBody s_check_log) (defScope s_check_log) .none kV_check_log dc_check_log pm_check_log an_check_log cd_check_log ct_check_log), sl_check_log⟩)
    (c_check_log : PySem.W.codeIn K cd_check_log "check_log" = true)
    (k_check_log : PySem.W.keepIn K (.ref f_check_log) = true)
    (a_is_so : PySem.W.nsIn K mainGlobals "is_so" = some (some (.ref f_is_so)))
    (l_is_so : K.lookup f_is_so = some ⟨oc_is_so, od_is_so, .func (PySem.W.fnOf "is_so" "is_so" (defArgs s_is_so) (defBody s_is_so) (defScope s_is_so) .none kV_is_so dc_is_so pm_is_so an_is_so cd_is_so ct_is_so), sl_is_so⟩)
    (c_is_so : PySem.W.codeIn K cd_is_so "is_so" = true)
    (k_is_so : PySem.W.keepIn K (.ref f_is_so) = true)
    (a_behind_row : PySem.W.nsIn K mainGlobals "behind_row" = some (some (.ref f_behind_row)))
    (l_behind_row : K.lookup f_behind_row = some ⟨oc_behind_row, od_behind_row, .func (PySem.W.fnOf "behind_row" "behind_row" (defArgs s_behind_row) (defBody s_behind_row) (defScope s_behind_row) .none kV_behind_row dc_behind_row pm_behind_row an_behind_row cd_behind_row ct_behind_row), sl_behind_row⟩)
    (c_behind_row : PySem.W.codeIn K cd_behind_row "behind_row" = true)
    (k_behind_row : PySem.W.keepIn K (.ref f_behind_row) = true)
    (a_counts_behind : PySem.W.nsIn K mainGlobals "counts_behind" = some (some (.ref f_counts_behind)))
    (l_counts_behind : K.lookup f_counts_behind = some ⟨oc_counts_behind, od_counts_behind, .func (PySem.W.fnOf "counts_behind" "counts_behind" (defArgs s_counts_behind) (defBody s_counts_behind) (defScope s_counts_behind) .none kV_counts_behind dc_counts_behind pm_counts_behind an_counts_behind cd_counts_behind ct_counts_behind), sl_counts_behind⟩)
    (c_counts_behind : PySem.W.codeIn K cd_counts_behind "counts_behind" = true)
    (k_counts_behind : PySem.W.keepIn K (.ref f_counts_behind) = true)
    (a_all_now : PySem.W.nsIn K mainGlobals "all_now" = some (some (.ref f_all_now)))
    (l_all_now : K.lookup f_all_now = some ⟨oc_all_now, od_all_now, .func (PySem.W.fnOf "all_now" "all_now" (defArgs s_all_now) (defBody s_all_now) (defScope s_all_now) .none kV_all_now dc_all_now pm_all_now an_all_now cd_all_now ct_all_now), sl_all_now⟩)
    (c_all_now : PySem.W.codeIn K cd_all_now "all_now" = true)
    (k_all_now : PySem.W.keepIn K (.ref f_all_now) = true)
    (a_now : PySem.W.nsIn K mainGlobals "now" = some (some (.ref f_now)))
    (l_now : K.lookup f_now = some ⟨oc_now, od_now, .func (PySem.W.fnOf "now" "now" (defArgs s_now) (defBody s_now) (defScope s_now) .none kV_now dc_now pm_now an_now cd_now ct_now), sl_now⟩)
    (c_now : PySem.W.codeIn K cd_now "now" = true)
    (k_now : PySem.W.keepIn K (.ref f_now) = true)
    (a_need_some : PySem.W.nsIn K mainGlobals "need_some" = some (some (.ref f_need_some)))
    (l_need_some : K.lookup f_need_some = some ⟨oc_need_some, od_need_some, .func (PySem.W.fnOf "need_some" "need_some" (defArgs s_need_some) (defBody s_need_some) (defScope s_need_some) .none kV_need_some dc_need_some pm_need_some an_need_some cd_need_some ct_need_some), sl_need_some⟩)
    (c_need_some : PySem.W.codeIn K cd_need_some "need_some" = true)
    (k_need_some : PySem.W.keepIn K (.ref f_need_some) = true)
    (a_some_now : PySem.W.nsIn K mainGlobals "some_now" = some (some (.ref f_some_now)))
    (l_some_now : K.lookup f_some_now = some ⟨oc_some_now, od_some_now, .func (PySem.W.fnOf "some_now" "some_now" (defArgs s_some_now) (defBody s_some_now) (defScope s_some_now) .none kV_some_now dc_some_now pm_some_now an_some_now cd_some_now ct_some_now), sl_some_now⟩)
    (c_some_now : PySem.W.codeIn K cd_some_now "some_now" = true)
    (k_some_now : PySem.W.keepIn K (.ref f_some_now) = true)
    (a_all_steps : PySem.W.nsIn K mainGlobals "all_steps" = some (some (.ref f_all_steps)))
    (l_all_steps : K.lookup f_all_steps = some ⟨oc_all_steps, od_all_steps, .func (PySem.W.fnOf "all_steps" "all_steps" (defArgs s_all_steps) (defBody s_all_steps) (defScope s_all_steps) .none kV_all_steps dc_all_steps pm_all_steps an_all_steps cd_all_steps ct_all_steps), sl_all_steps⟩)
    (c_all_steps : PySem.W.codeIn K cd_all_steps "all_steps" = true)
    (k_all_steps : PySem.W.keepIn K (.ref f_all_steps) = true)
    (a_doors_of : PySem.W.nsIn K mainGlobals "doors_of" = some (some (.ref f_doors_of)))
    (l_doors_of : K.lookup f_doors_of = some ⟨oc_doors_of, od_doors_of, .func (PySem.W.fnOf "doors_of" "doors_of" (defArgs s_doors_of) (defBody s_doors_of) (defScope s_doors_of) .none kV_doors_of dc_doors_of pm_doors_of an_doors_of cd_doors_of ct_doors_of), sl_doors_of⟩)
    (c_doors_of : PySem.W.codeIn K cd_doors_of "doors_of" = true)
    (k_doors_of : PySem.W.keepIn K (.ref f_doors_of) = true)
    (a_Keeper_init : PySem.W.findIn K (.ref CK) "__init__" = some (some (.ref f_Keeper_init)))
    (i_Keeper_init : PySem.W.isFn K (.ref f_Keeper_init) = true)
    (l_Keeper_init : K.lookup f_Keeper_init = some ⟨oc_Keeper_init, od_Keeper_init, .func (PySem.W.fnOf "__init__" "Keeper.__init__" (defArgs s_Keeper_init) (defBody s_Keeper_init) (defScope s_Keeper_init) .none kV_Keeper_init dc_Keeper_init pm_Keeper_init an_Keeper_init cd_Keeper_init ct_Keeper_init), sl_Keeper_init⟩)
    (c_Keeper_init : PySem.W.codeIn K cd_Keeper_init "Keeper.__init__" = true)
    (k_Keeper_init : PySem.W.keepIn K (.ref f_Keeper_init) = true)
    (l_Keeper_layouts_left : K.lookup f_Keeper_layouts_left = some ⟨oc_Keeper_layouts_left, od_Keeper_layouts_left, .func (PySem.W.fnOf "layouts_left" "Keeper.layouts_left" (defArgs s_Keeper_layouts_left) (defBody s_Keeper_layouts_left) (defScope s_Keeper_layouts_left) .none kV_Keeper_layouts_left dc_Keeper_layouts_left pm_Keeper_layouts_left an_Keeper_layouts_left cd_Keeper_layouts_left ct_Keeper_layouts_left), sl_Keeper_layouts_left⟩)
    (c_Keeper_layouts_left : PySem.W.codeIn K cd_Keeper_layouts_left "Keeper.layouts_left" = true)
    (k_Keeper_layouts_left : PySem.W.keepIn K (.ref f_Keeper_layouts_left) = true)
    (l_Keeper_seen_so_far : K.lookup f_Keeper_seen_so_far = some ⟨oc_Keeper_seen_so_far, od_Keeper_seen_so_far, .func (PySem.W.fnOf "seen_so_far" "Keeper.seen_so_far" (defArgs s_Keeper_seen_so_far) (defBody s_Keeper_seen_so_far) (defScope s_Keeper_seen_so_far) .none kV_Keeper_seen_so_far dc_Keeper_seen_so_far pm_Keeper_seen_so_far an_Keeper_seen_so_far cd_Keeper_seen_so_far ct_Keeper_seen_so_far), sl_Keeper_seen_so_far⟩)
    (c_Keeper_seen_so_far : PySem.W.codeIn K cd_Keeper_seen_so_far "Keeper.seen_so_far" = true)
    (k_Keeper_seen_so_far : PySem.W.keepIn K (.ref f_Keeper_seen_so_far) = true)
    (a_Keeper_narrow : PySem.W.findIn K (.ref CK) "narrow" = some (some (.ref f_Keeper_narrow)))
    (i_Keeper_narrow : PySem.W.isFn K (.ref f_Keeper_narrow) = true)
    (l_Keeper_narrow : K.lookup f_Keeper_narrow = some ⟨oc_Keeper_narrow, od_Keeper_narrow, .func (PySem.W.fnOf "narrow" "Keeper.narrow" (defArgs s_Keeper_narrow) (defBody s_Keeper_narrow) (defScope s_Keeper_narrow) .none kV_Keeper_narrow dc_Keeper_narrow pm_Keeper_narrow an_Keeper_narrow cd_Keeper_narrow ct_Keeper_narrow), sl_Keeper_narrow⟩)
    (c_Keeper_narrow : PySem.W.codeIn K cd_Keeper_narrow "Keeper.narrow" = true)
    (k_Keeper_narrow : PySem.W.keepIn K (.ref f_Keeper_narrow) = true)
    (a_Keeper_check_doors : PySem.W.findIn K (.ref CK) "check_doors" = some (some (.ref f_Keeper_check_doors)))
    (i_Keeper_check_doors : PySem.W.isFn K (.ref f_Keeper_check_doors) = true)
    (l_Keeper_check_doors : K.lookup f_Keeper_check_doors = some ⟨oc_Keeper_check_doors, od_Keeper_check_doors, .func (PySem.W.fnOf "check_doors" "Keeper.check_doors" (defArgs s_Keeper_check_doors) (defBody s_Keeper_check_doors) (defScope s_Keeper_check_doors) .none kV_Keeper_check_doors dc_Keeper_check_doors pm_Keeper_check_doors an_Keeper_check_doors cd_Keeper_check_doors ct_Keeper_check_doors), sl_Keeper_check_doors⟩)
    (c_Keeper_check_doors : PySem.W.codeIn K cd_Keeper_check_doors "Keeper.check_doors" = true)
    (k_Keeper_check_doors : PySem.W.keepIn K (.ref f_Keeper_check_doors) = true)
    (a_Keeper_saw : PySem.W.findIn K (.ref CK) "saw" = some (some (.ref f_Keeper_saw)))
    (i_Keeper_saw : PySem.W.isFn K (.ref f_Keeper_saw) = true)
    (l_Keeper_saw : K.lookup f_Keeper_saw = some ⟨oc_Keeper_saw, od_Keeper_saw, .func (PySem.W.fnOf "saw" "Keeper.saw" (defArgs s_Keeper_saw) (defBody s_Keeper_saw) (defScope s_Keeper_saw) .none kV_Keeper_saw dc_Keeper_saw pm_Keeper_saw an_Keeper_saw cd_Keeper_saw ct_Keeper_saw), sl_Keeper_saw⟩)
    (c_Keeper_saw : PySem.W.codeIn K cd_Keeper_saw "Keeper.saw" = true)
    (k_Keeper_saw : PySem.W.keepIn K (.ref f_Keeper_saw) = true)
    (a_Keeper_inspected : PySem.W.findIn K (.ref CK) "inspected" = some (some (.ref f_Keeper_inspected)))
    (i_Keeper_inspected : PySem.W.isFn K (.ref f_Keeper_inspected) = true)
    (l_Keeper_inspected : K.lookup f_Keeper_inspected = some ⟨oc_Keeper_inspected, od_Keeper_inspected, .func (PySem.W.fnOf "inspected" "Keeper.inspected" (defArgs s_Keeper_inspected) (defBody s_Keeper_inspected) (defScope s_Keeper_inspected) .none kV_Keeper_inspected dc_Keeper_inspected pm_Keeper_inspected an_Keeper_inspected cd_Keeper_inspected ct_Keeper_inspected), sl_Keeper_inspected⟩)
    (c_Keeper_inspected : PySem.W.codeIn K cd_Keeper_inspected "Keeper.inspected" = true)
    (k_Keeper_inspected : PySem.W.keepIn K (.ref f_Keeper_inspected) = true)
    (a_Keeper_could_have_moved : PySem.W.findIn K (.ref CK) "could_have_moved" = some (some (.ref f_Keeper_could_have_moved)))
    (i_Keeper_could_have_moved : PySem.W.isFn K (.ref f_Keeper_could_have_moved) = true)
    (l_Keeper_could_have_moved : K.lookup f_Keeper_could_have_moved = some ⟨oc_Keeper_could_have_moved, od_Keeper_could_have_moved, .func (PySem.W.fnOf "could_have_moved" "Keeper.could_have_moved" (defArgs s_Keeper_could_have_moved) (defBody s_Keeper_could_have_moved) (defScope s_Keeper_could_have_moved) .none kV_Keeper_could_have_moved dc_Keeper_could_have_moved pm_Keeper_could_have_moved an_Keeper_could_have_moved cd_Keeper_could_have_moved ct_Keeper_could_have_moved), sl_Keeper_could_have_moved⟩)
    (c_Keeper_could_have_moved : PySem.W.codeIn K cd_Keeper_could_have_moved "Keeper.could_have_moved" = true)
    (k_Keeper_could_have_moved : PySem.W.keepIn K (.ref f_Keeper_could_have_moved) = true)
    (a_Keeper_next_doors : PySem.W.findIn K (.ref CK) "next_doors" = some (some (.ref f_Keeper_next_doors)))
    (i_Keeper_next_doors : PySem.W.isFn K (.ref f_Keeper_next_doors) = true)
    (l_Keeper_next_doors : K.lookup f_Keeper_next_doors = some ⟨oc_Keeper_next_doors, od_Keeper_next_doors, .func (PySem.W.fnOf "next_doors" "Keeper.next_doors" (defArgs s_Keeper_next_doors) (defBody s_Keeper_next_doors) (defScope s_Keeper_next_doors) .none kV_Keeper_next_doors dc_Keeper_next_doors pm_Keeper_next_doors an_Keeper_next_doors cd_Keeper_next_doors ct_Keeper_next_doors), sl_Keeper_next_doors⟩)
    (c_Keeper_next_doors : PySem.W.codeIn K cd_Keeper_next_doors "Keeper.next_doors" = true)
    (k_Keeper_next_doors : PySem.W.keepIn K (.ref f_Keeper_next_doors) = true)
    (a_law_taken : PySem.W.nsIn K mainGlobals "_law_taken" = some (some (.ref f_law_taken)))
    (l_law_taken : K.lookup f_law_taken = some ⟨oc_law_taken, od_law_taken, .func (PySem.W.fnOf "_law_taken" "_law_taken" (defArgs s_law_taken) (defBody s_law_taken) (defScope s_law_taken) .none kV_law_taken dc_law_taken pm_law_taken an_law_taken cd_law_taken ct_law_taken), sl_law_taken⟩)
    (c_law_taken : PySem.W.codeIn K cd_law_taken "_law_taken" = true)
    (k_law_taken : PySem.W.keepIn K (.ref f_law_taken) = true)
    (a_law_pick : PySem.W.nsIn K mainGlobals "_law_pick" = some (some (.ref f_law_pick)))
    (l_law_pick : K.lookup f_law_pick = some ⟨oc_law_pick, od_law_pick, .func (PySem.W.fnOf "_law_pick" "_law_pick" (defArgs s_law_pick) (defBody s_law_pick) (defScope s_law_pick) .none kV_law_pick dc_law_pick pm_law_pick an_law_pick cd_law_pick ct_law_pick), sl_law_pick⟩)
    (c_law_pick : PySem.W.codeIn K cd_law_pick "_law_pick" = true)
    (k_law_pick : PySem.W.keepIn K (.ref f_law_pick) = true)
    (a_law_scheme : PySem.W.nsIn K mainGlobals "_law_scheme" = some (some (.ref f_law_scheme)))
    (l_law_scheme : K.lookup f_law_scheme = some ⟨oc_law_scheme, od_law_scheme, .func (PySem.W.fnOf "_law_scheme" "_law_scheme" (defArgs s_law_scheme) (defBody s_law_scheme) (defScope s_law_scheme) .none kV_law_scheme dc_law_scheme pm_law_scheme an_law_scheme cd_law_scheme ct_law_scheme), sl_law_scheme⟩)
    (c_law_scheme : PySem.W.codeIn K cd_law_scheme "_law_scheme" = true)
    (k_law_scheme : PySem.W.keepIn K (.ref f_law_scheme) = true)
    (a_law_store : PySem.W.nsIn K mainGlobals "_law_store" = some (some (.ref f_law_store)))
    (l_law_store : K.lookup f_law_store = some ⟨oc_law_store, od_law_store, .func (PySem.W.fnOf "_law_store" "_law_store" (defArgs s_law_store) (defBody s_law_store) (defScope s_law_store) .none kV_law_store dc_law_store pm_law_store an_law_store cd_law_store ct_law_store), sl_law_store⟩)
    (c_law_store : PySem.W.codeIn K cd_law_store "_law_store" = true)
    (k_law_store : PySem.W.keepIn K (.ref f_law_store) = true)
    (a_law_edges : PySem.W.nsIn K mainGlobals "_law_edges" = some (some (.ref f_law_edges)))
    (l_law_edges : K.lookup f_law_edges = some ⟨oc_law_edges, od_law_edges, .func (PySem.W.fnOf "_law_edges" "_law_edges" (defArgs s_law_edges) (defBody s_law_edges) (defScope s_law_edges) .none kV_law_edges dc_law_edges pm_law_edges an_law_edges cd_law_edges ct_law_edges), sl_law_edges⟩)
    (c_law_edges : PySem.W.codeIn K cd_law_edges "_law_edges" = true)
    (k_law_edges : PySem.W.keepIn K (.ref f_law_edges) = true)
    (a_law_rank : PySem.W.nsIn K mainGlobals "_law_rank" = some (some (.ref f_law_rank)))
    (l_law_rank : K.lookup f_law_rank = some ⟨oc_law_rank, od_law_rank, .func (PySem.W.fnOf "_law_rank" "_law_rank" (defArgs s_law_rank) (defBody s_law_rank) (defScope s_law_rank) .none kV_law_rank dc_law_rank pm_law_rank an_law_rank cd_law_rank ct_law_rank), sl_law_rank⟩)
    (c_law_rank : PySem.W.codeIn K cd_law_rank "_law_rank" = true)
    (k_law_rank : PySem.W.keepIn K (.ref f_law_rank) = true)
    (a_law_layouts : PySem.W.nsIn K mainGlobals "_law_layouts" = some (some (.ref f_law_layouts)))
    (l_law_layouts : K.lookup f_law_layouts = some ⟨oc_law_layouts, od_law_layouts, .func (PySem.W.fnOf "_law_layouts" "_law_layouts" (defArgs s_law_layouts) (defBody s_law_layouts) (defScope s_law_layouts) .none kV_law_layouts dc_law_layouts pm_law_layouts an_law_layouts cd_law_layouts ct_law_layouts), sl_law_layouts⟩)
    (c_law_layouts : PySem.W.codeIn K cd_law_layouts "_law_layouts" = true)
    (k_law_layouts : PySem.W.keepIn K (.ref f_law_layouts) = true)
    (a_law_seen : PySem.W.nsIn K mainGlobals "_law_seen" = some (some (.ref f_law_seen)))
    (l_law_seen : K.lookup f_law_seen = some ⟨oc_law_seen, od_law_seen, .func (PySem.W.fnOf "_law_seen" "_law_seen" (defArgs s_law_seen) (defBody s_law_seen) (defScope s_law_seen) .none kV_law_seen dc_law_seen pm_law_seen an_law_seen cd_law_seen ct_law_seen), sl_law_seen⟩)
    (c_law_seen : PySem.W.codeIn K cd_law_seen "_law_seen" = true)
    (k_law_seen : PySem.W.keepIn K (.ref f_law_seen) = true)
    (a_law_turned : PySem.W.nsIn K mainGlobals "_law_turned" = some (some (.ref f_law_turned)))
    (l_law_turned : K.lookup f_law_turned = some ⟨oc_law_turned, od_law_turned, .func (PySem.W.fnOf "_law_turned" "_law_turned" (defArgs s_law_turned) (defBody s_law_turned) (defScope s_law_turned) .none kV_law_turned dc_law_turned pm_law_turned an_law_turned cd_law_turned ct_law_turned), sl_law_turned⟩)
    (c_law_turned : PySem.W.codeIn K cd_law_turned "_law_turned" = true)
    (k_law_turned : PySem.W.keepIn K (.ref f_law_turned) = true)
    (a_law_is_so : PySem.W.nsIn K mainGlobals "_law_is_so" = some (some (.ref f_law_is_so)))
    (l_law_is_so : K.lookup f_law_is_so = some ⟨oc_law_is_so, od_law_is_so, .func (PySem.W.fnOf "_law_is_so" "_law_is_so" (defArgs s_law_is_so) (defBody s_law_is_so) (defScope s_law_is_so) .none kV_law_is_so dc_law_is_so pm_law_is_so an_law_is_so cd_law_is_so ct_law_is_so), sl_law_is_so⟩)
    (c_law_is_so : PySem.W.codeIn K cd_law_is_so "_law_is_so" = true)
    (k_law_is_so : PySem.W.keepIn K (.ref f_law_is_so) = true)
    (a_law_counts : PySem.W.nsIn K mainGlobals "_law_counts" = some (some (.ref f_law_counts)))
    (l_law_counts : K.lookup f_law_counts = some ⟨oc_law_counts, od_law_counts, .func (PySem.W.fnOf "_law_counts" "_law_counts" (defArgs s_law_counts) (defBody s_law_counts) (defScope s_law_counts) .none kV_law_counts dc_law_counts pm_law_counts an_law_counts cd_law_counts ct_law_counts), sl_law_counts⟩)
    (c_law_counts : PySem.W.codeIn K cd_law_counts "_law_counts" = true)
    (k_law_counts : PySem.W.keepIn K (.ref f_law_counts) = true)
    (a_law_now : PySem.W.nsIn K mainGlobals "_law_now" = some (some (.ref f_law_now)))
    (l_law_now : K.lookup f_law_now = some ⟨oc_law_now, od_law_now, .func (PySem.W.fnOf "_law_now" "_law_now" (defArgs s_law_now) (defBody s_law_now) (defScope s_law_now) .none kV_law_now dc_law_now pm_law_now an_law_now cd_law_now ct_law_now), sl_law_now⟩)
    (c_law_now : PySem.W.codeIn K cd_law_now "_law_now" = true)
    (k_law_now : PySem.W.keepIn K (.ref f_law_now) = true)
    (a_law_firsts : PySem.W.nsIn K mainGlobals "_law_firsts" = some (some (.ref f_law_firsts)))
    (l_law_firsts : K.lookup f_law_firsts = some ⟨oc_law_firsts, od_law_firsts, .func (PySem.W.fnOf "_law_firsts" "_law_firsts" (defArgs s_law_firsts) (defBody s_law_firsts) (defScope s_law_firsts) .none kV_law_firsts dc_law_firsts pm_law_firsts an_law_firsts cd_law_firsts ct_law_firsts), sl_law_firsts⟩)
    (c_law_firsts : PySem.W.codeIn K cd_law_firsts "_law_firsts" = true)
    (k_law_firsts : PySem.W.keepIn K (.ref f_law_firsts) = true)
    (a_law_moves : PySem.W.nsIn K mainGlobals "_law_moves" = some (some (.ref f_law_moves)))
    (l_law_moves : K.lookup f_law_moves = some ⟨oc_law_moves, od_law_moves, .func (PySem.W.fnOf "_law_moves" "_law_moves" (defArgs s_law_moves) (defBody s_law_moves) (defScope s_law_moves) .none kV_law_moves dc_law_moves pm_law_moves an_law_moves cd_law_moves ct_law_moves), sl_law_moves⟩)
    (c_law_moves : PySem.W.codeIn K cd_law_moves "_law_moves" = true)
    (k_law_moves : PySem.W.keepIn K (.ref f_law_moves) = true)
    (a_law_tells : PySem.W.nsIn K mainGlobals "_law_tells" = some (some (.ref f_law_tells)))
    (l_law_tells : K.lookup f_law_tells = some ⟨oc_law_tells, od_law_tells, .func (PySem.W.fnOf "_law_tells" "_law_tells" (defArgs s_law_tells) (defBody s_law_tells) (defScope s_law_tells) .none kV_law_tells dc_law_tells pm_law_tells an_law_tells cd_law_tells ct_law_tells), sl_law_tells⟩)
    (c_law_tells : PySem.W.codeIn K cd_law_tells "_law_tells" = true)
    (k_law_tells : PySem.W.keepIn K (.ref f_law_tells) = true)
    (a_law : PySem.W.nsIn K mainGlobals "law" = some (some (.ref f_law)))
    (l_law : K.lookup f_law = some ⟨oc_law, od_law, .func (PySem.W.fnOf "law" "law" (defArgs s_law) (defBody s_law) (defScope s_law) .none kV_law dc_law pm_law an_law cd_law ct_law), sl_law⟩)
    (c_law : PySem.W.codeIn K cd_law "law" = true)
    (k_law : PySem.W.keepIn K (.ref f_law) = true)
    (v_LETTERS : PySem.W.nsIn K mainGlobals "LETTERS" = some (some (.str "abcdefghijklmnopqrstuvwxyz" t_LETTERS)))
    (v_MAX_LETTERS : PySem.W.nsIn K mainGlobals "MAX_LETTERS" = some (some (.int 8 t_MAX_LETTERS)))
    (v_MAX_DOORS : PySem.W.nsIn K mainGlobals "MAX_DOORS" = some (some (.int 4 t_MAX_DOORS)))
    (v_MAX_WARMTH : PySem.W.nsIn K mainGlobals "MAX_WARMTH" = some (some (.int 99 t_MAX_WARMTH)))
    (v_MAX_BEHIND : PySem.W.nsIn K mainGlobals "MAX_BEHIND" = some (some (.int 4 t_MAX_BEHIND)))
    (v_MAX_PLACES : PySem.W.nsIn K mainGlobals "MAX_PLACES" = some (some (.int 6 t_MAX_PLACES)))
    (v_MAX_CRATES : PySem.W.nsIn K mainGlobals "MAX_CRATES" = some (some (.int 5 t_MAX_CRATES)))
    (v_OPEN : PySem.W.nsIn K mainGlobals "OPEN" = some (some (.str "open" t_OPEN)))
    (v_FROSTED : PySem.W.nsIn K mainGlobals "FROSTED" = some (some (.str "?" t_FROSTED)))
    (v_SAW : PySem.W.nsIn K mainGlobals "SAW" = some (some (.str "saw" t_SAW)))
    (v_INSPECTED : PySem.W.nsIn K mainGlobals "INSPECTED" = some (some (.str "inspected" t_INSPECTED)))
    (z_len : PySem.W.nsIn K mainGlobals "len" = some none)
    (z_isinstance : PySem.W.nsIn K mainGlobals "isinstance" = some none)
    (z_all : PySem.W.nsIn K mainGlobals "all" = some none)
    (z_sum : PySem.W.nsIn K mainGlobals "sum" = some none)
    (z_min : PySem.W.nsIn K mainGlobals "min" = some none)
    (z_tuple : PySem.W.nsIn K mainGlobals "tuple" = some none)
    (z_zip : PySem.W.nsIn K mainGlobals "zip" = some none)
    (z_enumerate : PySem.W.nsIn K mainGlobals "enumerate" = some none)
    (z_range : PySem.W.nsIn K mainGlobals "range" = some none)
    (z_sorted : PySem.W.nsIn K mainGlobals "sorted" = some none)
    (z_list : PySem.W.nsIn K mainGlobals "list" = some none)
    (z_dict : PySem.W.nsIn K mainGlobals "dict" = some none)
    (z_set : PySem.W.nsIn K mainGlobals "set" = some none)
    (z_int : PySem.W.nsIn K mainGlobals "int" = some none)
    (z_str : PySem.W.nsIn K mainGlobals "str" = some none)
    (z_bool : PySem.W.nsIn K mainGlobals "bool" = some none)
    (x1CS : PySem.W.plainGet K CS Str.empty = true)
    (x2CS : PySem.W.isClsIn K CS = true)
    (x3CS : PySem.W.plainOver K CS = true)
    (x4CS : PySem.W.findIn K (.ref CS) "__setattr__" = some (some (.builtin "object.__setattr__")))
    (x5CS : PySem.W.makesIn K CS = true)
    (x6CS : PySem.W.keepIn K (.ref CS) = true)
    (x1CK : PySem.W.plainGet K CK Str.empty = true)
    (x2CK : PySem.W.hasDictIn K CK = true)
    (x3CK : PySem.W.plainOver K CK = true)
    (x4CK : PySem.W.findIn K (.ref CK) "__setattr__" = some (some (.builtin "object.__setattr__")))
    (x5CK : PySem.W.makesIn K CK = true)
    (x6CK : PySem.W.keepIn K (.ref CK) = true)
    (s1pE : PySem.W.findIn K (.ref CS) "edges" = some (some (.ref pE)))
    (s2pE : PySem.W.specialIn K (.ref pE) "__get__" = some (some (.builtin "member_descriptor.__get__")))
    (s3pE : PySem.W.takesIn K (.ref pE) = some true)
    (s4pE : PySem.W.typeIn K (.ref pE) = some (.type "member_descriptor"))
    (s5pE : PySem.W.slotIn K pE CS = some 0)
    (s1pP : PySem.W.findIn K (.ref CS) "parts" = some (some (.ref pP)))
    (s2pP : PySem.W.specialIn K (.ref pP) "__get__" = some (some (.builtin "member_descriptor.__get__")))
    (s3pP : PySem.W.takesIn K (.ref pP) = some true)
    (s4pP : PySem.W.typeIn K (.ref pP) = some (.type "member_descriptor"))
    (s5pP : PySem.W.slotIn K pP CS = some 1)
    (n_base : PySem.W.findIn K (.ref CK) "base" = some none)
    (n_movers : PySem.W.findIn K (.ref CK) "movers" = some none)
    (n_accepted : PySem.W.findIn K (.ref CK) "accepted" = some none)
    : ∃ fd : FuncData, (∀ (s : Shared) (v : Value), BindsTo s fd ⟨[v], []⟩ [("_law_script", v)]) ∧ ∀ base : Heap, K.In base → base.Ns mainGlobals mg → FnOk l.prog w K mg base CX0 10 fa fd ["_law_script"] (fun vs H Q _ => ∃ (q : Addr) (xs : List Int), vs = [.ref q] ∧ SqL K H q (xs.map V.int) ∧ xs.length ≤ 63 ∧ ∀ H', Q (.bl true) H') := by
  have e := hfa.symm.trans (PySem.W.mg_of X G a_law)
  have e2 : fa = f_law := by injection e with e; injection e
  subst e2
  have e3 := a_law
  let a : Ad := { f_is_number := f_is_number, d_is_number := (PySem.W.fnOf "is_number" "is_number" (defArgs s_is_number) (defBody s_is_number) (defScope s_is_number) .none kV_is_number dc_is_number pm_is_number an_is_number cd_is_number ct_is_number), f_is_word := f_is_word, d_is_word := (PySem.W.fnOf "is_word" "is_word" (defArgs s_is_word) (defBody s_is_word) (defScope s_is_word) .none kV_is_word dc_is_word pm_is_word an_is_word cd_is_word ct_is_word), f_is_door := f_is_door, d_is_door := (PySem.W.fnOf "is_door" "is_door" (defArgs s_is_door) (defBody s_is_door) (defScope s_is_door) .none kV_is_door dc_is_door pm_is_door an_is_door cd_is_door ct_is_door), f_are_doors := f_are_doors, d_are_doors := (PySem.W.fnOf "are_doors" "are_doors" (defArgs s_are_doors) (defBody s_are_doors) (defScope s_are_doors) .none kV_are_doors dc_are_doors pm_are_doors an_are_doors cd_are_doors ct_are_doors), f_are_crates := f_are_crates, d_are_crates := (PySem.W.fnOf "are_crates" "are_crates" (defArgs s_are_crates) (defBody s_are_crates) (defScope s_are_crates) .none kV_are_crates dc_are_crates pm_are_crates an_are_crates cd_are_crates ct_are_crates), f_Store_init := f_Store_init, d_Store_init := (PySem.W.fnOf "__init__" "Store.__init__" (defArgs s_Store_init) (defBody s_Store_init) (defScope s_Store_init) .none kV_Store_init dc_Store_init pm_Store_init an_Store_init cd_Store_init ct_Store_init), f_Store_doors := f_Store_doors, d_Store_doors := (PySem.W.fnOf "doors" "Store.doors" (defArgs s_Store_doors) (defBody s_Store_doors) (defScope s_Store_doors) .none kV_Store_doors dc_Store_doors pm_Store_doors an_Store_doors cd_Store_doors ct_Store_doors), f_Store_crates := f_Store_crates, d_Store_crates := (PySem.W.fnOf "crates" "Store.crates" (defArgs s_Store_crates) (defBody s_Store_crates) (defScope s_Store_crates) .none kV_Store_crates dc_Store_crates pm_Store_crates an_Store_crates cd_Store_crates ct_Store_crates), f_Store_size := f_Store_size, d_Store_size := (PySem.W.fnOf "size" "Store.size" (defArgs s_Store_size) (defBody s_Store_size) (defScope s_Store_size) .none kV_Store_size dc_Store_size pm_Store_size an_Store_size cd_Store_size ct_Store_size), f_Store_len := f_Store_len, d_Store_len := (PySem.W.fnOf "__len__" "Store.__len__" (defArgs s_Store_len) (defBody s_Store_len) (defScope s_Store_len) .none kV_Store_len dc_Store_len pm_Store_len an_Store_len cd_Store_len ct_Store_len), f_Store_door_of := f_Store_door_of, d_Store_door_of := (PySem.W.fnOf "door_of" "Store.door_of" (defArgs s_Store_door_of) (defBody s_Store_door_of) (defScope s_Store_door_of) .none kV_Store_door_of dc_Store_door_of pm_Store_door_of an_Store_door_of cd_Store_door_of ct_Store_door_of), f_Store_places_of := f_Store_places_of, d_Store_places_of := (PySem.W.fnOf "places_of" "Store.places_of" (defArgs s_Store_places_of) (defBody s_Store_places_of) (defScope s_Store_places_of) .none kV_Store_places_of dc_Store_places_of pm_Store_places_of an_Store_places_of cd_Store_places_of ct_Store_places_of), f_all_layouts := f_all_layouts, d_all_layouts := (PySem.W.fnOf "all_layouts" "all_layouts" (defArgs s_all_layouts) (defBody s_all_layouts) (defScope s_all_layouts) .none kV_all_layouts dc_all_layouts pm_all_layouts an_all_layouts cd_all_layouts ct_all_layouts), f_seen_behind := f_seen_behind, d_seen_behind := (PySem.W.fnOf "seen_behind" "seen_behind" (defArgs s_seen_behind) (defBody s_seen_behind) (defScope s_seen_behind) .none kV_seen_behind dc_seen_behind pm_seen_behind an_seen_behind cd_seen_behind ct_seen_behind), f_rank := f_rank, d_rank := (PySem.W.fnOf "rank" "rank" (defArgs s_rank) (defBody s_rank) (defScope s_rank) .none kV_rank dc_rank pm_rank an_rank cd_rank ct_rank), f_in_order := f_in_order, d_in_order := (PySem.W.fnOf "in_order" "in_order" (defArgs s_in_order) (defBody s_in_order) (defScope s_in_order) .none kV_in_order dc_in_order pm_in_order an_in_order cd_in_order ct_in_order), f_is_crate := f_is_crate, d_is_crate := (PySem.W.fnOf "is_crate" "is_crate" (defArgs s_is_crate) (defBody s_is_crate) (defScope s_is_crate) .none kV_is_crate dc_is_crate pm_is_crate an_is_crate cd_is_crate ct_is_crate), f_exchanged := f_exchanged, d_exchanged := (PySem.W.fnOf "exchanged" "exchanged" (defArgs s_exchanged) (defBody s_exchanged) (defScope s_exchanged) .none kV_exchanged dc_exchanged pm_exchanged an_exchanged cd_exchanged ct_exchanged), f_is_sighting := f_is_sighting, d_is_sighting := (PySem.W.fnOf "is_sighting" "is_sighting" (defArgs s_is_sighting) (defBody s_is_sighting) (defScope s_is_sighting) .none kV_is_sighting dc_is_sighting pm_is_sighting an_is_sighting cd_is_sighting ct_is_sighting), f_check_log := f_check_log, d_check_log := (PySem.W.fnOf "check_log" "check_log" (defArgs s_check_log) (defBody s_check_log) (defScope s_check_log) .none kV_check_log dc_check_log pm_check_log an_check_log cd_check_log ct_check_log), f_is_so := f_is_so, d_is_so := (PySem.W.fnOf "is_so" "is_so" (defArgs s_is_so) (defBody s_is_so) (defScope s_is_so) .none kV_is_so dc_is_so pm_is_so an_is_so cd_is_so ct_is_so), f_behind_row := f_behind_row, d_behind_row := (PySem.W.fnOf "behind_row" "behind_row" (defArgs s_behind_row) (defBody s_behind_row) (defScope s_behind_row) .none kV_behind_row dc_behind_row pm_behind_row an_behind_row cd_behind_row ct_behind_row), f_counts_behind := f_counts_behind, d_counts_behind := (PySem.W.fnOf "counts_behind" "counts_behind" (defArgs s_counts_behind) (defBody s_counts_behind) (defScope s_counts_behind) .none kV_counts_behind dc_counts_behind pm_counts_behind an_counts_behind cd_counts_behind ct_counts_behind), f_all_now := f_all_now, d_all_now := (PySem.W.fnOf "all_now" "all_now" (defArgs s_all_now) (defBody s_all_now) (defScope s_all_now) .none kV_all_now dc_all_now pm_all_now an_all_now cd_all_now ct_all_now), f_now := f_now, d_now := (PySem.W.fnOf "now" "now" (defArgs s_now) (defBody s_now) (defScope s_now) .none kV_now dc_now pm_now an_now cd_now ct_now), f_need_some := f_need_some, d_need_some := (PySem.W.fnOf "need_some" "need_some" (defArgs s_need_some) (defBody s_need_some) (defScope s_need_some) .none kV_need_some dc_need_some pm_need_some an_need_some cd_need_some ct_need_some), f_some_now := f_some_now, d_some_now := (PySem.W.fnOf "some_now" "some_now" (defArgs s_some_now) (defBody s_some_now) (defScope s_some_now) .none kV_some_now dc_some_now pm_some_now an_some_now cd_some_now ct_some_now), f_all_steps := f_all_steps, d_all_steps := (PySem.W.fnOf "all_steps" "all_steps" (defArgs s_all_steps) (defBody s_all_steps) (defScope s_all_steps) .none kV_all_steps dc_all_steps pm_all_steps an_all_steps cd_all_steps ct_all_steps), f_doors_of := f_doors_of, d_doors_of := (PySem.W.fnOf "doors_of" "doors_of" (defArgs s_doors_of) (defBody s_doors_of) (defScope s_doors_of) .none kV_doors_of dc_doors_of pm_doors_of an_doors_of cd_doors_of ct_doors_of), f_Keeper_init := f_Keeper_init, d_Keeper_init := (PySem.W.fnOf "__init__" "Keeper.__init__" (defArgs s_Keeper_init) (defBody s_Keeper_init) (defScope s_Keeper_init) .none kV_Keeper_init dc_Keeper_init pm_Keeper_init an_Keeper_init cd_Keeper_init ct_Keeper_init), f_Keeper_layouts_left := f_Keeper_layouts_left, d_Keeper_layouts_left := (PySem.W.fnOf "layouts_left" "Keeper.layouts_left" (defArgs s_Keeper_layouts_left) (defBody s_Keeper_layouts_left) (defScope s_Keeper_layouts_left) .none kV_Keeper_layouts_left dc_Keeper_layouts_left pm_Keeper_layouts_left an_Keeper_layouts_left cd_Keeper_layouts_left ct_Keeper_layouts_left), f_Keeper_seen_so_far := f_Keeper_seen_so_far, d_Keeper_seen_so_far := (PySem.W.fnOf "seen_so_far" "Keeper.seen_so_far" (defArgs s_Keeper_seen_so_far) (defBody s_Keeper_seen_so_far) (defScope s_Keeper_seen_so_far) .none kV_Keeper_seen_so_far dc_Keeper_seen_so_far pm_Keeper_seen_so_far an_Keeper_seen_so_far cd_Keeper_seen_so_far ct_Keeper_seen_so_far), f_Keeper_narrow := f_Keeper_narrow, d_Keeper_narrow := (PySem.W.fnOf "narrow" "Keeper.narrow" (defArgs s_Keeper_narrow) (defBody s_Keeper_narrow) (defScope s_Keeper_narrow) .none kV_Keeper_narrow dc_Keeper_narrow pm_Keeper_narrow an_Keeper_narrow cd_Keeper_narrow ct_Keeper_narrow), f_Keeper_check_doors := f_Keeper_check_doors, d_Keeper_check_doors := (PySem.W.fnOf "check_doors" "Keeper.check_doors" (defArgs s_Keeper_check_doors) (defBody s_Keeper_check_doors) (defScope s_Keeper_check_doors) .none kV_Keeper_check_doors dc_Keeper_check_doors pm_Keeper_check_doors an_Keeper_check_doors cd_Keeper_check_doors ct_Keeper_check_doors), f_Keeper_saw := f_Keeper_saw, d_Keeper_saw := (PySem.W.fnOf "saw" "Keeper.saw" (defArgs s_Keeper_saw) (defBody s_Keeper_saw) (defScope s_Keeper_saw) .none kV_Keeper_saw dc_Keeper_saw pm_Keeper_saw an_Keeper_saw cd_Keeper_saw ct_Keeper_saw), f_Keeper_inspected := f_Keeper_inspected, d_Keeper_inspected := (PySem.W.fnOf "inspected" "Keeper.inspected" (defArgs s_Keeper_inspected) (defBody s_Keeper_inspected) (defScope s_Keeper_inspected) .none kV_Keeper_inspected dc_Keeper_inspected pm_Keeper_inspected an_Keeper_inspected cd_Keeper_inspected ct_Keeper_inspected), f_Keeper_could_have_moved := f_Keeper_could_have_moved, d_Keeper_could_have_moved := (PySem.W.fnOf "could_have_moved" "Keeper.could_have_moved" (defArgs s_Keeper_could_have_moved) (defBody s_Keeper_could_have_moved) (defScope s_Keeper_could_have_moved) .none kV_Keeper_could_have_moved dc_Keeper_could_have_moved pm_Keeper_could_have_moved an_Keeper_could_have_moved cd_Keeper_could_have_moved ct_Keeper_could_have_moved), f_Keeper_next_doors := f_Keeper_next_doors, d_Keeper_next_doors := (PySem.W.fnOf "next_doors" "Keeper.next_doors" (defArgs s_Keeper_next_doors) (defBody s_Keeper_next_doors) (defScope s_Keeper_next_doors) .none kV_Keeper_next_doors dc_Keeper_next_doors pm_Keeper_next_doors an_Keeper_next_doors cd_Keeper_next_doors ct_Keeper_next_doors), f_law_taken := f_law_taken, d_law_taken := (PySem.W.fnOf "_law_taken" "_law_taken" (defArgs s_law_taken) (defBody s_law_taken) (defScope s_law_taken) .none kV_law_taken dc_law_taken pm_law_taken an_law_taken cd_law_taken ct_law_taken), f_law_pick := f_law_pick, d_law_pick := (PySem.W.fnOf "_law_pick" "_law_pick" (defArgs s_law_pick) (defBody s_law_pick) (defScope s_law_pick) .none kV_law_pick dc_law_pick pm_law_pick an_law_pick cd_law_pick ct_law_pick), f_law_scheme := f_law_scheme, d_law_scheme := (PySem.W.fnOf "_law_scheme" "_law_scheme" (defArgs s_law_scheme) (defBody s_law_scheme) (defScope s_law_scheme) .none kV_law_scheme dc_law_scheme pm_law_scheme an_law_scheme cd_law_scheme ct_law_scheme), f_law_store := f_law_store, d_law_store := (PySem.W.fnOf "_law_store" "_law_store" (defArgs s_law_store) (defBody s_law_store) (defScope s_law_store) .none kV_law_store dc_law_store pm_law_store an_law_store cd_law_store ct_law_store), f_law_edges := f_law_edges, d_law_edges := (PySem.W.fnOf "_law_edges" "_law_edges" (defArgs s_law_edges) (defBody s_law_edges) (defScope s_law_edges) .none kV_law_edges dc_law_edges pm_law_edges an_law_edges cd_law_edges ct_law_edges), f_law_rank := f_law_rank, d_law_rank := (PySem.W.fnOf "_law_rank" "_law_rank" (defArgs s_law_rank) (defBody s_law_rank) (defScope s_law_rank) .none kV_law_rank dc_law_rank pm_law_rank an_law_rank cd_law_rank ct_law_rank), f_law_layouts := f_law_layouts, d_law_layouts := (PySem.W.fnOf "_law_layouts" "_law_layouts" (defArgs s_law_layouts) (defBody s_law_layouts) (defScope s_law_layouts) .none kV_law_layouts dc_law_layouts pm_law_layouts an_law_layouts cd_law_layouts ct_law_layouts), f_law_seen := f_law_seen, d_law_seen := (PySem.W.fnOf "_law_seen" "_law_seen" (defArgs s_law_seen) (defBody s_law_seen) (defScope s_law_seen) .none kV_law_seen dc_law_seen pm_law_seen an_law_seen cd_law_seen ct_law_seen), f_law_turned := f_law_turned, d_law_turned := (PySem.W.fnOf "_law_turned" "_law_turned" (defArgs s_law_turned) (defBody s_law_turned) (defScope s_law_turned) .none kV_law_turned dc_law_turned pm_law_turned an_law_turned cd_law_turned ct_law_turned), f_law_is_so := f_law_is_so, d_law_is_so := (PySem.W.fnOf "_law_is_so" "_law_is_so" (defArgs s_law_is_so) (defBody s_law_is_so) (defScope s_law_is_so) .none kV_law_is_so dc_law_is_so pm_law_is_so an_law_is_so cd_law_is_so ct_law_is_so), f_law_counts := f_law_counts, d_law_counts := (PySem.W.fnOf "_law_counts" "_law_counts" (defArgs s_law_counts) (defBody s_law_counts) (defScope s_law_counts) .none kV_law_counts dc_law_counts pm_law_counts an_law_counts cd_law_counts ct_law_counts), f_law_now := f_law_now, d_law_now := (PySem.W.fnOf "_law_now" "_law_now" (defArgs s_law_now) (defBody s_law_now) (defScope s_law_now) .none kV_law_now dc_law_now pm_law_now an_law_now cd_law_now ct_law_now), f_law_firsts := f_law_firsts, d_law_firsts := (PySem.W.fnOf "_law_firsts" "_law_firsts" (defArgs s_law_firsts) (defBody s_law_firsts) (defScope s_law_firsts) .none kV_law_firsts dc_law_firsts pm_law_firsts an_law_firsts cd_law_firsts ct_law_firsts), f_law_moves := f_law_moves, d_law_moves := (PySem.W.fnOf "_law_moves" "_law_moves" (defArgs s_law_moves) (defBody s_law_moves) (defScope s_law_moves) .none kV_law_moves dc_law_moves pm_law_moves an_law_moves cd_law_moves ct_law_moves), f_law_tells := f_law_tells, d_law_tells := (PySem.W.fnOf "_law_tells" "_law_tells" (defArgs s_law_tells) (defBody s_law_tells) (defScope s_law_tells) .none kV_law_tells dc_law_tells pm_law_tells an_law_tells cd_law_tells ct_law_tells), f_law := fa, d_law := (PySem.W.fnOf "law" "law" (defArgs s_law) (defBody s_law) (defScope s_law) .none kV_law dc_law pm_law an_law cd_law ct_law), CS := CS, CK := CK, pE := pE, pP := pP, iE := 0, iP := 1, q_Store_doors := q_Store_doors, q_Store_crates := q_Store_crates, q_Store_size := q_Store_size, q_Keeper_layouts_left := q_Keeper_layouts_left, q_Keeper_seen_so_far := q_Keeper_seen_so_far }
  have T : Txt K mg a := {
    F_is_number := fun_mk (st := s_is_number) l_is_number c_is_number k_is_number
    F_is_word := fun_mk (st := s_is_word) l_is_word c_is_word k_is_word
    F_is_door := fun_mk (st := s_is_door) l_is_door c_is_door k_is_door
    F_are_doors := fun_mk (st := s_are_doors) l_are_doors c_are_doors k_are_doors
    F_are_crates := fun_mk (st := s_are_crates) l_are_crates c_are_crates k_are_crates
    F_Store_init := fun_mk (st := s_Store_init) l_Store_init c_Store_init k_Store_init
    F_Store_doors := fun_mk (st := s_Store_doors) l_Store_doors c_Store_doors k_Store_doors
    F_Store_crates := fun_mk (st := s_Store_crates) l_Store_crates c_Store_crates k_Store_crates
    F_Store_size := fun_mk (st := s_Store_size) l_Store_size c_Store_size k_Store_size
    F_Store_len := fun_mk (st := s_Store_len) l_Store_len c_Store_len k_Store_len
    F_Store_door_of := fun_mk (st := s_Store_door_of) l_Store_door_of c_Store_door_of k_Store_door_of
    F_Store_places_of := fun_mk (st := s_Store_places_of) l_Store_places_of c_Store_places_of k_Store_places_of
    F_all_layouts := fun_mk (st := s_all_layouts) l_all_layouts c_all_layouts k_all_layouts
    F_seen_behind := fun_mk (st := s_seen_behind) l_seen_behind c_seen_behind k_seen_behind
    F_rank := fun_mk (st := s_rank) l_rank c_rank k_rank
    F_in_order := fun_mk (st := s_in_order) l_in_order c_in_order k_in_order
    F_is_crate := fun_mk (st := s_is_crate) l_is_crate c_is_crate k_is_crate
    F_exchanged := fun_mk (st := s_exchanged) l_exchanged c_exchanged k_exchanged
    F_is_sighting := fun_mk (st := s_is_sighting) l_is_sighting c_is_sighting k_is_sighting
    F_check_log := fun_mk (st := s_check_log) l_check_log c_check_log k_check_log
    F_is_so := fun_mk (st := s_is_so) l_is_so c_is_so k_is_so
    F_behind_row := fun_mk (st := s_behind_row) l_behind_row c_behind_row k_behind_row
    F_counts_behind := fun_mk (st := s_counts_behind) l_counts_behind c_counts_behind k_counts_behind
    F_all_now := fun_mk (st := s_all_now) l_all_now c_all_now k_all_now
    F_now := fun_mk (st := s_now) l_now c_now k_now
    F_need_some := fun_mk (st := s_need_some) l_need_some c_need_some k_need_some
    F_some_now := fun_mk (st := s_some_now) l_some_now c_some_now k_some_now
    F_all_steps := fun_mk (st := s_all_steps) l_all_steps c_all_steps k_all_steps
    F_doors_of := fun_mk (st := s_doors_of) l_doors_of c_doors_of k_doors_of
    F_Keeper_init := fun_mk (st := s_Keeper_init) l_Keeper_init c_Keeper_init k_Keeper_init
    F_Keeper_layouts_left := fun_mk (st := s_Keeper_layouts_left) l_Keeper_layouts_left c_Keeper_layouts_left k_Keeper_layouts_left
    F_Keeper_seen_so_far := fun_mk (st := s_Keeper_seen_so_far) l_Keeper_seen_so_far c_Keeper_seen_so_far k_Keeper_seen_so_far
    F_Keeper_narrow := fun_mk (st := s_Keeper_narrow) l_Keeper_narrow c_Keeper_narrow k_Keeper_narrow
    F_Keeper_check_doors := fun_mk (st := s_Keeper_check_doors) l_Keeper_check_doors c_Keeper_check_doors k_Keeper_check_doors
    F_Keeper_saw := fun_mk (st := s_Keeper_saw) l_Keeper_saw c_Keeper_saw k_Keeper_saw
    F_Keeper_inspected := fun_mk (st := s_Keeper_inspected) l_Keeper_inspected c_Keeper_inspected k_Keeper_inspected
    F_Keeper_could_have_moved := fun_mk (st := s_Keeper_could_have_moved) l_Keeper_could_have_moved c_Keeper_could_have_moved k_Keeper_could_have_moved
    F_Keeper_next_doors := fun_mk (st := s_Keeper_next_doors) l_Keeper_next_doors c_Keeper_next_doors k_Keeper_next_doors
    F_law_taken := fun_mk (st := s_law_taken) l_law_taken c_law_taken k_law_taken
    F_law_pick := fun_mk (st := s_law_pick) l_law_pick c_law_pick k_law_pick
    F_law_scheme := fun_mk (st := s_law_scheme) l_law_scheme c_law_scheme k_law_scheme
    F_law_store := fun_mk (st := s_law_store) l_law_store c_law_store k_law_store
    F_law_edges := fun_mk (st := s_law_edges) l_law_edges c_law_edges k_law_edges
    F_law_rank := fun_mk (st := s_law_rank) l_law_rank c_law_rank k_law_rank
    F_law_layouts := fun_mk (st := s_law_layouts) l_law_layouts c_law_layouts k_law_layouts
    F_law_seen := fun_mk (st := s_law_seen) l_law_seen c_law_seen k_law_seen
    F_law_turned := fun_mk (st := s_law_turned) l_law_turned c_law_turned k_law_turned
    F_law_is_so := fun_mk (st := s_law_is_so) l_law_is_so c_law_is_so k_law_is_so
    F_law_counts := fun_mk (st := s_law_counts) l_law_counts c_law_counts k_law_counts
    F_law_now := fun_mk (st := s_law_now) l_law_now c_law_now k_law_now
    F_law_firsts := fun_mk (st := s_law_firsts) l_law_firsts c_law_firsts k_law_firsts
    F_law_moves := fun_mk (st := s_law_moves) l_law_moves c_law_moves k_law_moves
    F_law_tells := fun_mk (st := s_law_tells) l_law_tells c_law_tells k_law_tells
    F_law := fun_mk (st := s_law) l_law c_law k_law
    m_is_number := PySem.W.mg_of X G a_is_number
    m_is_word := PySem.W.mg_of X G a_is_word
    m_is_door := PySem.W.mg_of X G a_is_door
    m_are_doors := PySem.W.mg_of X G a_are_doors
    m_are_crates := PySem.W.mg_of X G a_are_crates
    m_all_layouts := PySem.W.mg_of X G a_all_layouts
    m_seen_behind := PySem.W.mg_of X G a_seen_behind
    m_rank := PySem.W.mg_of X G a_rank
    m_in_order := PySem.W.mg_of X G a_in_order
    m_is_crate := PySem.W.mg_of X G a_is_crate
    m_exchanged := PySem.W.mg_of X G a_exchanged
    m_is_sighting := PySem.W.mg_of X G a_is_sighting
    m_check_log := PySem.W.mg_of X G a_check_log
    m_is_so := PySem.W.mg_of X G a_is_so
    m_behind_row := PySem.W.mg_of X G a_behind_row
    m_counts_behind := PySem.W.mg_of X G a_counts_behind
    m_all_now := PySem.W.mg_of X G a_all_now
    m_now := PySem.W.mg_of X G a_now
    m_need_some := PySem.W.mg_of X G a_need_some
    m_some_now := PySem.W.mg_of X G a_some_now
    m_all_steps := PySem.W.mg_of X G a_all_steps
    m_doors_of := PySem.W.mg_of X G a_doors_of
    m_law_taken := PySem.W.mg_of X G a_law_taken
    m_law_pick := PySem.W.mg_of X G a_law_pick
    m_law_scheme := PySem.W.mg_of X G a_law_scheme
    m_law_store := PySem.W.mg_of X G a_law_store
    m_law_edges := PySem.W.mg_of X G a_law_edges
    m_law_rank := PySem.W.mg_of X G a_law_rank
    m_law_layouts := PySem.W.mg_of X G a_law_layouts
    m_law_seen := PySem.W.mg_of X G a_law_seen
    m_law_turned := PySem.W.mg_of X G a_law_turned
    m_law_is_so := PySem.W.mg_of X G a_law_is_so
    m_law_counts := PySem.W.mg_of X G a_law_counts
    m_law_now := PySem.W.mg_of X G a_law_now
    m_law_firsts := PySem.W.mg_of X G a_law_firsts
    m_law_moves := PySem.W.mg_of X G a_law_moves
    m_law_tells := PySem.W.mg_of X G a_law_tells
    m_law := PySem.W.mg_of X G a_law
    c_LETTERS := ⟨_, PySem.W.mg_of X G v_LETTERS, _, rfl⟩
    c_MAX_LETTERS := ⟨_, PySem.W.mg_of X G v_MAX_LETTERS, _, rfl⟩
    c_MAX_DOORS := ⟨_, PySem.W.mg_of X G v_MAX_DOORS, _, rfl⟩
    c_MAX_WARMTH := ⟨_, PySem.W.mg_of X G v_MAX_WARMTH, _, rfl⟩
    c_MAX_BEHIND := ⟨_, PySem.W.mg_of X G v_MAX_BEHIND, _, rfl⟩
    c_MAX_PLACES := ⟨_, PySem.W.mg_of X G v_MAX_PLACES, _, rfl⟩
    c_MAX_CRATES := ⟨_, PySem.W.mg_of X G v_MAX_CRATES, _, rfl⟩
    c_OPEN := ⟨_, PySem.W.mg_of X G v_OPEN, _, rfl⟩
    c_FROSTED := ⟨_, PySem.W.mg_of X G v_FROSTED, _, rfl⟩
    c_SAW := ⟨_, PySem.W.mg_of X G v_SAW, _, rfl⟩
    c_INSPECTED := ⟨_, PySem.W.mg_of X G v_INSPECTED, _, rfl⟩
    z_len := PySem.W.mg_none_of X G z_len
    z_isinstance := PySem.W.mg_none_of X G z_isinstance
    z_all := PySem.W.mg_none_of X G z_all
    z_sum := PySem.W.mg_none_of X G z_sum
    z_min := PySem.W.mg_none_of X G z_min
    z_tuple := PySem.W.mg_none_of X G z_tuple
    z_zip := PySem.W.mg_none_of X G z_zip
    z_enumerate := PySem.W.mg_none_of X G z_enumerate
    z_range := PySem.W.mg_none_of X G z_range
    z_sorted := PySem.W.mg_none_of X G z_sorted
    z_list := PySem.W.mg_none_of X G z_list
    z_dict := PySem.W.mg_none_of X G z_dict
    z_set := PySem.W.mg_none_of X G z_set
    z_int := PySem.W.mg_none_of X G z_int
    z_str := PySem.W.mg_none_of X G z_str
    z_bool := PySem.W.mg_none_of X G z_bool
    mS := PySem.W.mg_of X G mS
    mK := PySem.W.mg_of X G mK
    clS := ⟨x1CS, x2CS, x3CS, x4CS⟩
    clK := ⟨x1CK, x2CK, x3CK, x4CK⟩
    slE := ⟨s1pE, s2pE, s3pE, s4pE, s5pE, (by show (0 : Nat) < 1000; decide)⟩
    slP := ⟨s1pP, s2pP, s3pP, s4pP, s5pP, (by show (1 : Nat) < 1000; decide)⟩
    ixE := rfl
    ixP := rfl
    mkS := ⟨x5CS, a_Store_init, i_Store_init, x6CS⟩
    mkK := ⟨x5CK, a_Keeper_init, i_Keeper_init, x6CK⟩
    lenS := a_Store_len
    lenF := i_Store_len
    t_Store_door_of := ⟨a_Store_door_of, i_Store_door_of, k_Store_door_of⟩
    t_Store_places_of := ⟨a_Store_places_of, i_Store_places_of, k_Store_places_of⟩
    t_Keeper_narrow := ⟨a_Keeper_narrow, i_Keeper_narrow, k_Keeper_narrow⟩
    t_Keeper_check_doors := ⟨a_Keeper_check_doors, i_Keeper_check_doors, k_Keeper_check_doors⟩
    t_Keeper_saw := ⟨a_Keeper_saw, i_Keeper_saw, k_Keeper_saw⟩
    t_Keeper_inspected := ⟨a_Keeper_inspected, i_Keeper_inspected, k_Keeper_inspected⟩
    t_Keeper_could_have_moved := ⟨a_Keeper_could_have_moved, i_Keeper_could_have_moved, k_Keeper_could_have_moved⟩
    t_Keeper_next_doors := ⟨a_Keeper_next_doors, i_Keeper_next_doors, k_Keeper_next_doors⟩
    p_Store_doors := ⟨pa_Store_doors, pg_Store_doors, pt_Store_doors, _, pr_Store_doors⟩
    p_Store_crates := ⟨pa_Store_crates, pg_Store_crates, pt_Store_crates, _, pr_Store_crates⟩
    p_Store_size := ⟨pa_Store_size, pg_Store_size, pt_Store_size, _, pr_Store_size⟩
    p_Keeper_layouts_left := ⟨pa_Keeper_layouts_left, pg_Keeper_layouts_left, pt_Keeper_layouts_left, _, pr_Keeper_layouts_left⟩
    p_Keeper_seen_so_far := ⟨pa_Keeper_seen_so_far, pg_Keeper_seen_so_far, pt_Keeper_seen_so_far, _, pr_Keeper_seen_so_far⟩
    n_base := n_base
    n_movers := n_movers
    n_accepted := n_accepted }
  exact ⟨_, fun s v => .of_eq rfl, fun base _ _ => ok_law T⟩
theorem walk {l : PySem.W.OpenLaw} {q : Program} {loose : List Str} {XP : (Str → Option Value) → Heap → Prop} {YP : World → Heap → Prop} {d : DefRec} {K : Params → PySem.W.Frag} (hn : l.most = some 63) (hdf : d.params.defaults = [])
    (hY : ∀ (w : World) (h : Heap), YP w h → (K w.params).In h)
    (F : ∀ (w : World) (mg : Str → Option Value) (fa : Addr) (h : Heap), (K w.params).In h → h.Ns mainGlobals mg → mg d.name = some (.ref fa) →
      ∃ fd : FuncData, (∀ (s : Shared) (u : Value), BindsTo s fd ⟨[u], []⟩ [("_law_script", u)]) ∧ ∀ base : Heap, (K w.params).In base → base.Ns mainGlobals mg → FnOk l.prog w (K w.params) mg base CX0 10 fa fd ["_law_script"]
        (fun vs H Q _ => ∃ (q : Addr) (xs : List Int), vs = [.ref q] ∧ SqL (K w.params) H q (xs.map V.int) ∧ xs.length ≤ 63 ∧ ∀ H', Q (.bl true) H')) :
    PySem.W.WalkO q loose XP YP l.row.toRowW d [] (fun f vs => PySem.call f vs) :=
  L2.walk_of (n := 63) (k := 10) (x := "_law_script") (CX := fun _ => CX0) (sp := fun w => fun vs H Q _ => ∃ (q : Addr) (xs : List Int), vs = [.ref q] ∧ SqL (K w.params) H q (xs.map V.int) ∧ xs.length ≤ 63 ∧ ∀ H', Q (.bl true) H') hn (by decide) hdf ⟨rfl, by decide, by decide⟩ hY F (fun _ _ a ns hl _ hS => ⟨a, ns, rfl, hS, hl, fun _ => rfl⟩) fun _ _ _ _ _ z => z
end Cc

end

set_option Elab.async false
set_option maxRecDepth 100000
open PySem PySem.W PyProof.Rows
set_option maxRecDepth 100000 in
set_option maxHeartbeats 0 in
theorem PySem.Challenge.cw_coldcrates_k71_whole_keepers_by_own_step_holds : PySem.Challenge.rw_coldcrates_k71_whole_keepers_by_own_step.Holds := by
  w_on; o_law; k_head; (case hw => w_witness2)
  k_fill
  refine Cc.walk (l := PySem.Challenge.rw_coldcrates_k71_whole_keepers_by_own_step) rfl rfl (fun w h Y => PySem.W.kIn_of Y) ?F
  case F =>
    intro w mg fa h KX G hmg
    refine' Cc.all_mk KX G hmg ?mS ?mK ?pa_Store_doors ?pg_Store_doors ?pt_Store_doors ?pr_Store_doors ?pa_Store_crates ?pg_Store_crates ?pt_Store_crates ?pr_Store_crates ?pa_Store_size ?pg_Store_size ?pt_Store_size ?pr_Store_size ?pa_Keeper_layouts_left ?pg_Keeper_layouts_left ?pt_Keeper_layouts_left ?pr_Keeper_layouts_left ?pa_Keeper_seen_so_far ?pg_Keeper_seen_so_far ?pt_Keeper_seen_so_far ?pr_Keeper_seen_so_far ?a_is_number ?l_is_number ?c_is_number ?k_is_number ?a_is_word ?l_is_word ?c_is_word ?k_is_word ?a_is_door ?l_is_door ?c_is_door ?k_is_door ?a_are_doors ?l_are_doors ?c_are_doors ?k_are_doors ?a_are_crates ?l_are_crates ?c_are_crates ?k_are_crates ?a_Store_init ?i_Store_init ?l_Store_init ?c_Store_init ?k_Store_init ?l_Store_doors ?c_Store_doors ?k_Store_doors ?l_Store_crates ?c_Store_crates ?k_Store_crates ?l_Store_size ?c_Store_size ?k_Store_size ?a_Store_len ?i_Store_len ?l_Store_len ?c_Store_len ?k_Store_len ?a_Store_door_of ?i_Store_door_of ?l_Store_door_of ?c_Store_door_of ?k_Store_door_of ?a_Store_places_of ?i_Store_places_of ?l_Store_places_of ?c_Store_places_of ?k_Store_places_of ?a_all_layouts ?l_all_layouts ?c_all_layouts ?k_all_layouts ?a_seen_behind ?l_seen_behind ?c_seen_behind ?k_seen_behind ?a_rank ?l_rank ?c_rank ?k_rank ?a_in_order ?l_in_order ?c_in_order ?k_in_order ?a_is_crate ?l_is_crate ?c_is_crate ?k_is_crate ?a_exchanged ?l_exchanged ?c_exchanged ?k_exchanged ?a_is_sighting ?l_is_sighting ?c_is_sighting ?k_is_sighting ?a_check_log ?l_check_log ?c_check_log ?k_check_log ?a_is_so ?l_is_so ?c_is_so ?k_is_so ?a_behind_row ?l_behind_row ?c_behind_row ?k_behind_row ?a_counts_behind ?l_counts_behind ?c_counts_behind ?k_counts_behind ?a_all_now ?l_all_now ?c_all_now ?k_all_now ?a_now ?l_now ?c_now ?k_now ?a_need_some ?l_need_some ?c_need_some ?k_need_some ?a_some_now ?l_some_now ?c_some_now ?k_some_now ?a_all_steps ?l_all_steps ?c_all_steps ?k_all_steps ?a_doors_of ?l_doors_of ?c_doors_of ?k_doors_of ?a_Keeper_init ?i_Keeper_init ?l_Keeper_init ?c_Keeper_init ?k_Keeper_init ?l_Keeper_layouts_left ?c_Keeper_layouts_left ?k_Keeper_layouts_left ?l_Keeper_seen_so_far ?c_Keeper_seen_so_far ?k_Keeper_seen_so_far ?a_Keeper_narrow ?i_Keeper_narrow ?l_Keeper_narrow ?c_Keeper_narrow ?k_Keeper_narrow ?a_Keeper_check_doors ?i_Keeper_check_doors ?l_Keeper_check_doors ?c_Keeper_check_doors ?k_Keeper_check_doors ?a_Keeper_saw ?i_Keeper_saw ?l_Keeper_saw ?c_Keeper_saw ?k_Keeper_saw ?a_Keeper_inspected ?i_Keeper_inspected ?l_Keeper_inspected ?c_Keeper_inspected ?k_Keeper_inspected ?a_Keeper_could_have_moved ?i_Keeper_could_have_moved ?l_Keeper_could_have_moved ?c_Keeper_could_have_moved ?k_Keeper_could_have_moved ?a_Keeper_next_doors ?i_Keeper_next_doors ?l_Keeper_next_doors ?c_Keeper_next_doors ?k_Keeper_next_doors ?a_law_taken ?l_law_taken ?c_law_taken ?k_law_taken ?a_law_pick ?l_law_pick ?c_law_pick ?k_law_pick ?a_law_scheme ?l_law_scheme ?c_law_scheme ?k_law_scheme ?a_law_store ?l_law_store ?c_law_store ?k_law_store ?a_law_edges ?l_law_edges ?c_law_edges ?k_law_edges ?a_law_rank ?l_law_rank ?c_law_rank ?k_law_rank ?a_law_layouts ?l_law_layouts ?c_law_layouts ?k_law_layouts ?a_law_seen ?l_law_seen ?c_law_seen ?k_law_seen ?a_law_turned ?l_law_turned ?c_law_turned ?k_law_turned ?a_law_is_so ?l_law_is_so ?c_law_is_so ?k_law_is_so ?a_law_counts ?l_law_counts ?c_law_counts ?k_law_counts ?a_law_now ?l_law_now ?c_law_now ?k_law_now ?a_law_firsts ?l_law_firsts ?c_law_firsts ?k_law_firsts ?a_law_moves ?l_law_moves ?c_law_moves ?k_law_moves ?a_law_tells ?l_law_tells ?c_law_tells ?k_law_tells ?a_law ?l_law ?c_law ?k_law ?v_LETTERS ?v_MAX_LETTERS ?v_MAX_DOORS ?v_MAX_WARMTH ?v_MAX_BEHIND ?v_MAX_PLACES ?v_MAX_CRATES ?v_OPEN ?v_FROSTED ?v_SAW ?v_INSPECTED ?z_len ?z_isinstance ?z_all ?z_sum ?z_min ?z_tuple ?z_zip ?z_enumerate ?z_range ?z_sorted ?z_list ?z_dict ?z_set ?z_int ?z_str ?z_bool ?x1CS ?x2CS ?x3CS ?x4CS ?x5CS ?x6CS ?x1CK ?x2CK ?x3CK ?x4CK ?x5CK ?x6CK ?s1pE ?s2pE ?s3pE ?s4pE ?s5pE ?s1pP ?s2pP ?s3pP ?s4pP ?s5pP ?n_base ?n_movers ?n_accepted
    (case mS => k_is)
    (case mK => k_is)
    (case pa_Store_doors => k_is)
    (case pg_Store_doors => k_is)
    (case pt_Store_doors => k_is)
    (case pr_Store_doors => k_is)
    (case pa_Store_crates => k_is)
    (case pg_Store_crates => k_is)
    (case pt_Store_crates => k_is)
    (case pr_Store_crates => k_is)
    (case pa_Store_size => k_is)
    (case pg_Store_size => k_is)
    (case pt_Store_size => k_is)
    (case pr_Store_size => k_is)
    (case pa_Keeper_layouts_left => k_is)
    (case pg_Keeper_layouts_left => k_is)
    (case pt_Keeper_layouts_left => k_is)
    (case pr_Keeper_layouts_left => k_is)
    (case pa_Keeper_seen_so_far => k_is)
    (case pg_Keeper_seen_so_far => k_is)
    (case pt_Keeper_seen_so_far => k_is)
    (case pr_Keeper_seen_so_far => k_is)
    (case a_is_number => k_is)
    (case l_is_number => k_is)
    (case c_is_number => k_is)
    (case k_is_number => k_is)
    (case a_is_word => k_is)
    (case l_is_word => k_is)
    (case c_is_word => k_is)
    (case k_is_word => k_is)
    (case a_is_door => k_is)
    (case l_is_door => k_is)
    (case c_is_door => k_is)
    (case k_is_door => k_is)
    (case a_are_doors => k_is)
    (case l_are_doors => k_is)
    (case c_are_doors => k_is)
    (case k_are_doors => k_is)
    (case a_are_crates => k_is)
    (case l_are_crates => k_is)
    (case c_are_crates => k_is)
    (case k_are_crates => k_is)
    (case a_Store_init => k_is)
    (case i_Store_init => k_is)
    (case l_Store_init => k_is)
    (case c_Store_init => k_is)
    (case k_Store_init => k_is)
    (case l_Store_doors => k_is)
    (case c_Store_doors => k_is)
    (case k_Store_doors => k_is)
    (case l_Store_crates => k_is)
    (case c_Store_crates => k_is)
    (case k_Store_crates => k_is)
    (case l_Store_size => k_is)
    (case c_Store_size => k_is)
    (case k_Store_size => k_is)
    (case a_Store_len => k_is)
    (case i_Store_len => k_is)
    (case l_Store_len => k_is)
    (case c_Store_len => k_is)
    (case k_Store_len => k_is)
    (case a_Store_door_of => k_is)
    (case i_Store_door_of => k_is)
    (case l_Store_door_of => k_is)
    (case c_Store_door_of => k_is)
    (case k_Store_door_of => k_is)
    (case a_Store_places_of => k_is)
    (case i_Store_places_of => k_is)
    (case l_Store_places_of => k_is)
    (case c_Store_places_of => k_is)
    (case k_Store_places_of => k_is)
    (case a_all_layouts => k_is)
    (case l_all_layouts => k_is)
    (case c_all_layouts => k_is)
    (case k_all_layouts => k_is)
    (case a_seen_behind => k_is)
    (case l_seen_behind => k_is)
    (case c_seen_behind => k_is)
    (case k_seen_behind => k_is)
    (case a_rank => k_is)
    (case l_rank => k_is)
    (case c_rank => k_is)
    (case k_rank => k_is)
    (case a_in_order => k_is)
    (case l_in_order => k_is)
    (case c_in_order => k_is)
    (case k_in_order => k_is)
    (case a_is_crate => k_is)
    (case l_is_crate => k_is)
    (case c_is_crate => k_is)
    (case k_is_crate => k_is)
    (case a_exchanged => k_is)
    (case l_exchanged => k_is)
    (case c_exchanged => k_is)
    (case k_exchanged => k_is)
    (case a_is_sighting => k_is)
    (case l_is_sighting => k_is)
    (case c_is_sighting => k_is)
    (case k_is_sighting => k_is)
    (case a_check_log => k_is)
    (case l_check_log => k_is)
    (case c_check_log => k_is)
    (case k_check_log => k_is)
    (case a_is_so => k_is)
    (case l_is_so => k_is)
    (case c_is_so => k_is)
    (case k_is_so => k_is)
    (case a_behind_row => k_is)
    (case l_behind_row => k_is)
    (case c_behind_row => k_is)
    (case k_behind_row => k_is)
    (case a_counts_behind => k_is)
    (case l_counts_behind => k_is)
    (case c_counts_behind => k_is)
    (case k_counts_behind => k_is)
    (case a_all_now => k_is)
    (case l_all_now => k_is)
    (case c_all_now => k_is)
    (case k_all_now => k_is)
    (case a_now => k_is)
    (case l_now => k_is)
    (case c_now => k_is)
    (case k_now => k_is)
    (case a_need_some => k_is)
    (case l_need_some => k_is)
    (case c_need_some => k_is)
    (case k_need_some => k_is)
    (case a_some_now => k_is)
    (case l_some_now => k_is)
    (case c_some_now => k_is)
    (case k_some_now => k_is)
    (case a_all_steps => k_is)
    (case l_all_steps => k_is)
    (case c_all_steps => k_is)
    (case k_all_steps => k_is)
    (case a_doors_of => k_is)
    (case l_doors_of => k_is)
    (case c_doors_of => k_is)
    (case k_doors_of => k_is)
    (case a_Keeper_init => k_is)
    (case i_Keeper_init => k_is)
    (case l_Keeper_init => k_is)
    (case c_Keeper_init => k_is)
    (case k_Keeper_init => k_is)
    (case l_Keeper_layouts_left => k_is)
    (case c_Keeper_layouts_left => k_is)
    (case k_Keeper_layouts_left => k_is)
    (case l_Keeper_seen_so_far => k_is)
    (case c_Keeper_seen_so_far => k_is)
    (case k_Keeper_seen_so_far => k_is)
    (case a_Keeper_narrow => k_is)
    (case i_Keeper_narrow => k_is)
    (case l_Keeper_narrow => k_is)
    (case c_Keeper_narrow => k_is)
    (case k_Keeper_narrow => k_is)
    (case a_Keeper_check_doors => k_is)
    (case i_Keeper_check_doors => k_is)
    (case l_Keeper_check_doors => k_is)
    (case c_Keeper_check_doors => k_is)
    (case k_Keeper_check_doors => k_is)
    (case a_Keeper_saw => k_is)
    (case i_Keeper_saw => k_is)
    (case l_Keeper_saw => k_is)
    (case c_Keeper_saw => k_is)
    (case k_Keeper_saw => k_is)
    (case a_Keeper_inspected => k_is)
    (case i_Keeper_inspected => k_is)
    (case l_Keeper_inspected => k_is)
    (case c_Keeper_inspected => k_is)
    (case k_Keeper_inspected => k_is)
    (case a_Keeper_could_have_moved => k_is)
    (case i_Keeper_could_have_moved => k_is)
    (case l_Keeper_could_have_moved => k_is)
    (case c_Keeper_could_have_moved => k_is)
    (case k_Keeper_could_have_moved => k_is)
    (case a_Keeper_next_doors => k_is)
    (case i_Keeper_next_doors => k_is)
    (case l_Keeper_next_doors => k_is)
    (case c_Keeper_next_doors => k_is)
    (case k_Keeper_next_doors => k_is)
    (case a_law_taken => k_is)
    (case l_law_taken => k_is)
    (case c_law_taken => k_is)
    (case k_law_taken => k_is)
    (case a_law_pick => k_is)
    (case l_law_pick => k_is)
    (case c_law_pick => k_is)
    (case k_law_pick => k_is)
    (case a_law_scheme => k_is)
    (case l_law_scheme => k_is)
    (case c_law_scheme => k_is)
    (case k_law_scheme => k_is)
    (case a_law_store => k_is)
    (case l_law_store => k_is)
    (case c_law_store => k_is)
    (case k_law_store => k_is)
    (case a_law_edges => k_is)
    (case l_law_edges => k_is)
    (case c_law_edges => k_is)
    (case k_law_edges => k_is)
    (case a_law_rank => k_is)
    (case l_law_rank => k_is)
    (case c_law_rank => k_is)
    (case k_law_rank => k_is)
    (case a_law_layouts => k_is)
    (case l_law_layouts => k_is)
    (case c_law_layouts => k_is)
    (case k_law_layouts => k_is)
    (case a_law_seen => k_is)
    (case l_law_seen => k_is)
    (case c_law_seen => k_is)
    (case k_law_seen => k_is)
    (case a_law_turned => k_is)
    (case l_law_turned => k_is)
    (case c_law_turned => k_is)
    (case k_law_turned => k_is)
    (case a_law_is_so => k_is)
    (case l_law_is_so => k_is)
    (case c_law_is_so => k_is)
    (case k_law_is_so => k_is)
    (case a_law_counts => k_is)
    (case l_law_counts => k_is)
    (case c_law_counts => k_is)
    (case k_law_counts => k_is)
    (case a_law_now => k_is)
    (case l_law_now => k_is)
    (case c_law_now => k_is)
    (case k_law_now => k_is)
    (case a_law_firsts => k_is)
    (case l_law_firsts => k_is)
    (case c_law_firsts => k_is)
    (case k_law_firsts => k_is)
    (case a_law_moves => k_is)
    (case l_law_moves => k_is)
    (case c_law_moves => k_is)
    (case k_law_moves => k_is)
    (case a_law_tells => k_is)
    (case l_law_tells => k_is)
    (case c_law_tells => k_is)
    (case k_law_tells => k_is)
    (case a_law => k_is)
    (case l_law => k_is)
    (case c_law => k_is)
    (case k_law => k_is)
    (case v_LETTERS => k_is)
    (case v_MAX_LETTERS => k_is)
    (case v_MAX_DOORS => k_is)
    (case v_MAX_WARMTH => k_is)
    (case v_MAX_BEHIND => k_is)
    (case v_MAX_PLACES => k_is)
    (case v_MAX_CRATES => k_is)
    (case v_OPEN => k_is)
    (case v_FROSTED => k_is)
    (case v_SAW => k_is)
    (case v_INSPECTED => k_is)
    (case z_len => k_is)
    (case z_isinstance => k_is)
    (case z_all => k_is)
    (case z_sum => k_is)
    (case z_min => k_is)
    (case z_tuple => k_is)
    (case z_zip => k_is)
    (case z_enumerate => k_is)
    (case z_range => k_is)
    (case z_sorted => k_is)
    (case z_list => k_is)
    (case z_dict => k_is)
    (case z_set => k_is)
    (case z_int => k_is)
    (case z_str => k_is)
    (case z_bool => k_is)
    (case x1CS => k_is)
    (case x2CS => k_is)
    (case x3CS => k_is)
    (case x4CS => k_is)
    (case x5CS => k_is)
    (case x6CS => k_is)
    (case x1CK => k_is)
    (case x2CK => k_is)
    (case x3CK => k_is)
    (case x4CK => k_is)
    (case x5CK => k_is)
    (case x6CK => k_is)
    (case s1pE => k_is)
    (case s2pE => k_is)
    (case s3pE => k_is)
    (case s4pE => k_is)
    (case s5pE => k_is)
    (case s1pP => k_is)
    (case s2pP => k_is)
    (case s3pP => k_is)
    (case s4pP => k_is)
    (case s5pP => k_is)
    (case n_base => k_is)
    (case n_movers => k_is)
    (case n_accepted => k_is)
