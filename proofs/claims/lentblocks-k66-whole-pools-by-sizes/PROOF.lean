import PyProof.Rows.All
import Wide.All
import OpenK.AllK
import Wide.FinOn
import HandS.ForMost
import HandS.Deep
import HandS.IsInst
import HandS.Star
import HandS.Zip
import HandS.Walk
import HandS.Wide
import HandS.TupLe
import HandS.TupAny
import HandS.TupMul
import HandS.Conv
import HandS.More
import HandS.Flow
import HandS.Nested
import HandS.NestedK
import HandS.EndTab
import HandS.CallLocal
import KE.SortData
import KE.KTupSum
import KE.GoesEnum
import PySem.Challenge.RW_lentblocks_k66_whole_pools_by_sizes
import HandS.Lambda
import HandS.WordsDict
import KE.KNestM
section
set_option Elab.async false
set_option linter.all false
set_option maxRecDepth 100000
set_option maxHeartbeats 4000000
/-! D1: expressions over data: what a pure expression gives, as a Lean function of the data in the slots. -/
namespace L2
open PySem PySem.Spec PyProof.Rows

/-! ### data at a heap -/
theorem sqT_same {K : PySem.W.Frag} {H H' : Hp} {a : Addr} {xs : List V} (e : Same H H') (h : SqT K H a xs) : SqT K H' a xs := by
  rcases h with (h | ⟨o, h⟩) | h
  · exact .inl (.inl (e _ _ h))
  · exact .inl (.inr ⟨o, e _ _ h⟩)
  · exact .inr h
mutual
theorem Dp.same {K : PySem.W.Frag} {H H' : Hp} (e : Same H H') : ∀ (d : PyData) (v : V), Dp K H v d → Dp K H' v d
  | .none, _, h => by cases h; exact .non
  | .bool _, _, h => by cases h; exact .bl _
  | .int _, _, h => by cases h; exact .int _
  | .str _, _, h => by cases h; exact .str _
  | .list ds, _, h => by
    cases h with
    | lst h1 h2 => exact .lst (e.seq h1) (DpAll.same e ds _ h2)
  | .tuple ds, _, h => by
    cases h with
    | tup h1 h2 => exact .tup (sqT_same e h1) (DpAll.same e ds _ h2)
  | .dict _, _, h => nomatch h
theorem DpAll.same {K : PySem.W.Frag} {H H' : Hp} (e : Same H H') : ∀ (ds : List PyData) (vs : List V), DpAll K H vs ds → DpAll K H' vs ds
  | [], _, h => by cases h; exact .nil
  | d :: ds, _, h => by
    cases h with
    | cons h1 h2 => exact .cons (Dp.same e d _ h1) (DpAll.same e ds _ h2)
end
/-! no list, no dict within: it stands whatever is done to lists and dicts -/
mutual
def nl : PyData → Bool
  | .list _ => false
  | .dict _ => false
  | .tuple xs => nlAll xs
  | _ => true
def nlAll : List PyData → Bool
  | [] => true
  | x :: xs => nl x && nlAll xs
end
/-- tuples stay -/
def TSame (H H' : Hp) : Prop := ∀ a xs, Rd H a (.tup xs) → Rd H' a (.tup xs)
theorem TSame.of {H H' : Hp} (e : Same H H') : TSame H H' := fun a xs h => by
  rcases h with h | ⟨o, h⟩
  · exact .inl (e _ _ h)
  · exact .inr ⟨o, e _ _ h⟩
theorem TSame.refl (H : Hp) : TSame H H := fun _ _ h => h
theorem TSame.trans {H H1 H2 : Hp} (a : TSame H H1) (b : TSame H1 H2) : TSame H H2 := fun c xs h => b c xs (a c xs h)
theorem TSame.upd {H : Hp} {p : Addr} {o u : HO} (h : H p = some o) (ht : ∀ xs, o ≠ .tup xs) (hf : ∀ x xs, o ≠ .frz x (.tup xs)) : TSame H (upd H p u) := fun a xs r => by
  have ne : a ≠ p := by
    rintro rfl
    rcases r with r | ⟨x, r⟩
    · rw [h] at r; exact ht xs (Option.some.inj r)
    · rw [h] at r; exact hf x xs (Option.some.inj r)
  rcases r with r | ⟨x, r⟩
  · exact .inl (by rw [upd_ne ne]; exact r)
  · exact .inr ⟨x, by rw [upd_ne ne]; exact r⟩
theorem TSame.lst {H : Hp} {p : Addr} {xs : List V} {u : HO} (h : H p = some (.lst xs)) : TSame H (L2.upd H p u) := TSame.upd h (fun _ q => nomatch q) (fun _ _ q => nomatch q)
theorem TSame.dK {H : Hp} {p : Addr} {kvs : List (Key × V)} {u : HO} (h : H p = some (.dK kvs)) : TSame H (L2.upd H p u) := TSame.upd h (fun _ q => nomatch q) (fun _ _ q => nomatch q)
theorem nl_tup {xs : List PyData} (h : nl (.tuple xs) = true) : nlAll xs = true := by rw [nl] at h; exact h
theorem nl_cons {x : PyData} {xs : List PyData} (h : nlAll (x :: xs) = true) : nl x = true ∧ nlAll xs = true := by
  rw [nlAll, Bool.and_eq_true] at h; exact h
mutual
theorem Dp.tsame {K : PySem.W.Frag} {H H' : Hp} (e : TSame H H') : ∀ (d : PyData) (v : V), nl d = true → Dp K H v d → Dp K H' v d
  | .none, _, _, h => by cases h; exact .non
  | .bool _, _, _, h => by cases h; exact .bl _
  | .int _, _, _, h => by cases h; exact .int _
  | .str _, _, _, h => by cases h; exact .str _
  | .list ds, _, n, h => by rw [nl] at n; cases n
  | .tuple ds, _, n, h => by
    cases h with
    | tup h1 h2 =>
      refine .tup ?_ (DpAll.tsame e ds _ (nl_tup n) h2)
      rcases h1 with h1 | h1
      · exact .inl (e _ _ h1)
      · exact .inr h1
  | .dict _, _, _, h => nomatch h
theorem DpAll.tsame {K : PySem.W.Frag} {H H' : Hp} (e : TSame H H') : ∀ (ds : List PyData) (vs : List V), nlAll ds = true → DpAll K H vs ds → DpAll K H' vs ds
  | [], _, _, h => by cases h; exact .nil
  | d :: ds, _, n, h => by
    cases h with
    | cons h1 h2 => exact .cons (Dp.tsame e d _ (nl_cons n).1 h1) (DpAll.tsame e ds _ (nl_cons n).2 h2)
end
section
variable {K : PySem.W.Frag} {H H' : Hp} {vs ws : List V} {ds es : List PyData}
theorem DpAll.length : ∀ {vs : List V} {ds : List PyData}, DpAll K H vs ds → vs.length = ds.length
  | _, _, .nil => rfl
  | _, _, .cons _ t => by rw [List.length_cons, List.length_cons, DpAll.length t]
theorem DpAll.get : ∀ {vs : List V} {ds : List PyData} {i : Nat} {d : PyData}, DpAll K H vs ds → ds[i]? = some d → ∃ v, vs[i]? = some v ∧ Dp K H v d
  | _, _, _, _, .nil, e => by simp at e
  | _, _, 0, _, .cons r _, e => by simp at e; subst e; exact ⟨_, rfl, r⟩
  | _, _, i + 1, d, .cons _ t, e => by
    obtain ⟨u, h1, h2⟩ := DpAll.get (i := i) (d := d) t (by simpa using e)
    exact ⟨u, by simpa using h1, h2⟩
theorem DpAll.getV : ∀ {vs : List V} {ds : List PyData} {i : Nat} {v : V}, DpAll K H vs ds → vs[i]? = some v → ∃ d, ds[i]? = some d ∧ Dp K H v d
  | _, _, _, _, .nil, e => by simp at e
  | _, _, 0, _, .cons r _, e => by simp at e; subst e; exact ⟨_, rfl, r⟩
  | _, _, i + 1, v, .cons _ t, e => by
    obtain ⟨u, h1, h2⟩ := DpAll.getV (i := i) (v := v) t (by simpa using e)
    exact ⟨u, by simpa using h1, h2⟩
theorem DpAll.append : ∀ {vs ws : List V} {ds es : List PyData}, DpAll K H vs ds → DpAll K H ws es → DpAll K H (vs ++ ws) (ds ++ es)
  | _, _, _, _, .nil, s => s
  | _, _, _, _, .cons r t, s => .cons r (DpAll.append t s)
theorem DpAll.snoc {v : V} {d : PyData} (a : DpAll K H vs ds) (b : Dp K H v d) : DpAll K H (vs ++ [v]) (ds ++ [d]) := a.append (.cons b .nil)
theorem DpAll.take : ∀ {vs : List V} {ds : List PyData} (n : Nat), DpAll K H vs ds → DpAll K H (vs.take n) (ds.take n)
  | _, _, 0, _ => .nil
  | _, _, _ + 1, .nil => .nil
  | _, _, n + 1, .cons r t => .cons r (DpAll.take n t)
theorem DpAll.drop : ∀ {vs : List V} {ds : List PyData} (n : Nat), DpAll K H vs ds → DpAll K H (vs.drop n) (ds.drop n)
  | _, _, 0, r => r
  | _, _, _ + 1, .nil => .nil
  | _, _, n + 1, .cons _ t => DpAll.drop n t
theorem Dp.int_inv {v : V} {i : Int} (h : Dp K H v (.int i)) : v = .int i := by cases h; rfl
theorem Dp.str_inv {v : V} {i : Str} (h : Dp K H v (.str i)) : v = .str i := by cases h; rfl
theorem Dp.bl_inv {v : V} {i : Bool} (h : Dp K H v (.bool i)) : v = .bl i := by cases h; rfl
theorem Dp.lst_inv {v : V} {ds : List PyData} (h : Dp K H v (.list ds)) : ∃ a xs, v = .ref a ∧ SqL K H a xs ∧ DpAll K H xs ds := by
  cases h with
  | lst h1 h2 => exact ⟨_, _, rfl, h1, h2⟩
theorem Dp.tup_inv {v : V} {ds : List PyData} (h : Dp K H v (.tuple ds)) : ∃ a xs, v = .ref a ∧ SqT K H a xs ∧ DpAll K H xs ds := by
  cases h with
  | tup h1 h2 => exact ⟨_, _, rfl, h1, h2⟩
theorem DpAll.ints : ∀ {ns : List Int} {vs : List V}, DpAll K H vs (ns.map PyData.int) → vs = ns.map V.int
  | [], _, h => by cases h; rfl
  | n :: ns, _, h => by
    cases h with
    | cons h1 h2 => rw [h1.int_inv, DpAll.ints h2]; rfl
theorem DpAll.of_ints : ∀ (ns : List Int), DpAll K H (ns.map V.int) (ns.map PyData.int)
  | [] => .nil
  | n :: ns => .cons (.int n) (DpAll.of_ints ns)
end

/-! ### slots -/
abbrev DEnv := List (Option PyData)
def gv (i : Nat) (e : DEnv) : Option PyData := match e[i]? with
  | some o => o
  | none => none
def SD (K : PySem.W.Frag) (H : Hp) (σ : L2.St) (e : DEnv) : Prop := σ.length = e.length ∧ ∀ (i : Nat) (d : PyData), gv i e = some d → ∃ v, σ[i]? = some (some v) ∧ Dp K H v d
theorem gv_some {i : Nat} {e : DEnv} {d : PyData} (h : gv i e = some d) : e[i]? = some (some d) := by
  unfold gv at h
  cases q : e[i]? with
  | none => rw [q] at h; cases h
  | some o => rw [q] at h; rw [show o = some d from h]
def wipeE (e : DEnv) : List Nat → DEnv
  | [] => e
  | v :: vs => (wipeE e vs).set v none
theorem wipeE_length (e : DEnv) : ∀ vs : List Nat, (wipeE e vs).length = e.length
  | [] => rfl
  | v :: vs => by unfold wipeE; rw [List.length_set, wipeE_length e vs]
section
variable {K : PySem.W.Frag} {H H' : Hp} {σ : L2.St} {e : DEnv}
theorem SD.same (s : SD K H σ e) (h : Same H H') : SD K H' σ e := ⟨s.1, fun i d q => by
  obtain ⟨v, a, b⟩ := s.2 i d q
  exact ⟨v, a, Dp.same h d v b⟩⟩
theorem gv_set {i j : Nat} {o : Option PyData} (hi : i < e.length) : gv j (e.set i o) = if j = i then o else gv j e := by
  unfold gv
  by_cases q : j = i
  · subst q
    rw [List.getElem?_set_self hi, if_pos rfl]
  · rw [List.getElem?_set_ne (Ne.symm q), if_neg q]
theorem SD.set (s : SD K H σ e) (i : Nat) {v : V} {d : PyData} (h : Dp K H v d) : SD K H (σ.set i (some v)) (e.set i (some d)) := by
  refine ⟨by rw [List.length_set, List.length_set]; exact s.1, fun j d' q => ?_⟩
  by_cases hi : i < e.length
  · rw [gv_set hi] at q
    by_cases hj : j = i
    · subst hj
      rw [if_pos rfl] at q
      cases q
      exact ⟨v, List.getElem?_set_self (by rw [s.1]; exact hi), h⟩
    · rw [if_neg hj] at q
      rw [List.getElem?_set_ne (Ne.symm hj)]
      exact s.2 j d' q
  · rw [List.set_eq_of_length_le (by omega)] at q
    rw [List.set_eq_of_length_le (by have := s.1; omega)]
    exact s.2 j d' q
theorem SD.unset (s : SD K H σ e) (i : Nat) (o : Option V) : SD K H (σ.set i o) (e.set i none) := by
  refine ⟨by rw [List.length_set, List.length_set]; exact s.1, fun j d' q => ?_⟩
  by_cases hi : i < e.length
  · rw [gv_set hi] at q
    by_cases hj : j = i
    · rw [if_pos hj] at q; cases q
    · rw [if_neg hj] at q
      rw [List.getElem?_set_ne (Ne.symm hj)]
      exact s.2 j d' q
  · rw [List.set_eq_of_length_le (by omega)] at q
    rw [List.set_eq_of_length_le (by have := s.1; omega)]
    exact s.2 j d' q
theorem SD.wipe (s : SD K H σ e) : ∀ vs : List Nat, SD K H (L2.wipe σ vs) (wipeE e vs)
  | [] => s
  | v :: vs => (SD.wipe s vs).unset v none
end

/-! ### the judgements, over data -/
abbrev DF := DEnv → Option PyData
abbrev DFs := DEnv → Option (List PyData)
abbrev DFB := DEnv → Option Bool
def tD (K : PySem.W.Frag) (f : DF) : TE := fun σ H Q => ∃ e d, SD K H σ e ∧ f e = some d ∧ ∀ v H', Same H H' → Dp K H' v d → Q v H'
def tDT (K : PySem.W.Frag) (f : DFB) : TT := fun σ H Q => ∃ e b, SD K H σ e ∧ f e = some b ∧ ∀ H', Same H H' → Q b H'
def tDA (K : PySem.W.Frag) (f : DFs) : TA := fun σ H Q => ∃ e ds, SD K H σ e ∧ f e = some ds ∧ ∀ vs H', Same H H' → DpAll K H' vs ds → Q vs H'
def tDO (K : PySem.W.Frag) (f : DEnv → Option (Option Int)) : TO := fun σ H Q => ∃ e d, SD K H σ e ∧ f e = some d ∧ ∀ H', Same H H' → Q d H'
abbrev PD (X : Cx) (e : Expr) (f : DF) : Prop := PE X e (tD X.K f)
abbrev PTD (X : Cx) (e : Expr) (f : DFB) : Prop := PT X e (tDT X.K f)
abbrev PWD (X : Cx) (e : Expr) (f : DFB) : Prop := PW X e (tDT X.K f)
abbrev PAD (X : Cx) (es : List Expr) (f : DFs) : Prop := PA X es (tDA X.K f)
abbrev POD (X : Cx) (e : Option Expr) (f : DEnv → Option (Option Int)) : Prop := PO X e (tDO X.K f)
section
variable {X : Cx}
theorem PE.imp {e : Expr} {t t' : TE} (h : PE X e t) (i : ∀ σ H Q, t' σ H Q → t σ H Q) : PE X e t' := ⟨fun pins s σ H Q I q => h.run pins s σ H Q I (i _ _ _ q)⟩
theorem PT.imp {e : Expr} {t t' : TT} (h : PT X e t) (i : ∀ σ H Q, t' σ H Q → t σ H Q) : PT X e t' := ⟨fun pins s σ H Q I q => h.run pins s σ H Q I (i _ _ _ q)⟩
theorem PW.imp {e : Expr} {t t' : TT} (h : PW X e t) (i : ∀ σ H Q, t' σ H Q → t σ H Q) : PW X e t' := ⟨fun wh pins s σ H Q I q => h.run wh pins s σ H Q I (i _ _ _ q)⟩
theorem PA.imp {e : List Expr} {t t' : TA} (h : PA X e t) (i : ∀ σ H Q, t' σ H Q → t σ H Q) : PA X e t' := ⟨fun pos pins s σ H Q I q => h.run pos pins s σ H Q I (i _ _ _ q)⟩
theorem PO.imp {e : Option Expr} {t t' : TO} (h : PO X e t) (i : ∀ σ H Q, t' σ H Q → t σ H Q) : PO X e t' := ⟨fun pins s σ H Q I q => h.run pins s σ H Q I (i _ _ _ q)⟩
theorem PS.imp {e : Stmt} {t t' : TS} (h : PS X e t) (i : ∀ D σ H, t' D σ H → t D σ H) : PS X e t' := ⟨fun pins s σ H D I q => h.run pins s σ H D I (i _ _ _ q)⟩
theorem PSs.imp {e : List Stmt} {t t' : TS} (h : PSs X e t) (i : ∀ D σ H, t' D σ H → t D σ H) : PSs X e t' := ⟨fun pins s σ H D I q => h.run pins s σ H D I (i _ _ _ q)⟩
theorem PI.imp {tg e : Expr} {t t' : TI} (h : PI X tg e t) (i : ∀ σ H R, t' σ H R → t σ H R) : PI X tg e t' := ⟨fun pins s σ H R I q => h.run pins s σ H R I (i _ _ _ q)⟩
theorem PG.imp {e : Expr} {t t' : TG} (h : PG X e t) (i : ∀ v σ H Q, t' v σ H Q → t v σ H Q) : PG X e t' := ⟨fun pins s σ H v u Q I r q => h.run pins s σ H v u Q I r (i _ _ _ _ q)⟩
theorem PGs.imp {e : List Expr} {t t' : TGs} (h : PGs X e t) (i : ∀ v σ H Q, t' v σ H Q → t v σ H Q) : PGs X e t' := ⟨fun pins s σ H v u Q I r q => h.run pins s σ H v u Q I r (i _ _ _ _ q)⟩
theorem OpR.imp {f : Value → Value → Sem Value} {r r' : R2} (h : OpR X f r) (i : ∀ x y H Q, r' x y H Q → r x y H Q) : OpR X f r' := fun pins s σ H x y v u Q I rx ry q => h pins s σ H x y v u Q I rx ry (i _ _ _ _ q)
theorem CallR.imp {f : Value} {r r' : List V → Hp → VK → Prop} (h : CallR X f r) (i : ∀ xs H Q, r' xs H Q → r xs H Q) : CallR X f r' := fun pins s σ H xs us Q I rx q => h pins s σ H xs us Q I rx (i _ _ _ q)

/-! names, constants -/
theorem pd_var (i : Nat) {x : Str} {pos : Pos} (hN : X.N[i]? = some x := by rfl) (hv : Vis X.env.scope x := by first | exact Or.inl rfl | exact Or.inr (Or.inl rfl) | exact Or.inr (Or.inr rfl)) (hd : (x == ("__debug__" : Str)) = false := by decide)
    (hcd : (x == ("__classdict__" : Str)) = false := by decide) : PD X (.Name x pos) (gv i) :=
  PE.imp (pe_var hN hv hd hcd) fun σ H Q ⟨e, d, hs, he, k⟩ => by
    obtain ⟨v, a, b⟩ := hs.2 i d he
    exact ⟨v, a, k v H (Same.refl H) b⟩
theorem pd_c {e : Expr} {v : V} {d : PyData} (h : PE X e (tC v)) (hd : ∀ H, Dp X.K H v d) : PD X e (fun _ => some d) :=
  PE.imp h fun σ H Q ⟨e, d', hs, he, k⟩ => by
    cases he
    exact k v H (Same.refl H) (hd H)
theorem pd_int {i j pos} : PD X (.Constant (.int i) j pos) (fun _ => some (.int i)) := pd_c pe_int fun _ => .int i
theorem pd_bl {b j pos} : PD X (.Constant (.bool b) j pos) (fun _ => some (.bool b)) := pd_c pe_bl fun _ => .bl b
theorem pd_non {j pos} : PD X (.Constant .none j pos) (fun _ => some .none) := pd_c pe_non fun _ => .non
theorem pd_str {x j pos} : PD X (.Constant (.str x) j pos) (fun _ => some (.str x)) := pd_c pe_str fun _ => .str x

/-! operators -/
def rOD (K : PySem.W.Frag) (g : PyData → PyData → Option PyData) : R2 := fun x y H Q => ∃ dx dy d, Dp K H x dx ∧ Dp K H y dy ∧ g dx dy = some d ∧ ∀ v H', Same H H' → Dp K H' v d → Q v H'
abbrev OD (X : Cx) (f : Value → Value → Sem Value) (g : PyData → PyData → Option PyData) : Prop := OpR X f (rOD X.K g)
def bin2 (f g : DF) (o : PyData → PyData → Option PyData) : DF := fun e => (f e).bind fun x => (g e).bind fun y => o x y
theorem tOp_of {K : PySem.W.Frag} {f1 f2 : DF} {g : PyData → PyData → Option PyData} {σ : L2.St} {H : Hp} {Q : VK} (h : tD K (bin2 f1 f2 g) σ H Q) : tOp (rOD K g) (tD K f1) (tD K f2) σ H Q := by
  obtain ⟨e, d, hs, he, k⟩ := h
  obtain ⟨x, hx, he⟩ := Option.bind_eq_some_iff.mp he
  obtain ⟨y, hy, he⟩ := Option.bind_eq_some_iff.mp he
  refine ⟨e, x, hs, hx, fun v1 H1 s1 d1 => ⟨e, y, hs.same s1, hy, fun v2 H2 s2 d2 => ⟨x, y, d, Dp.same s2 x v1 d1, d2, he, fun v H' s3 d3 => k v H' ((s1.trans s2).trans s3) d3⟩⟩⟩
theorem pd_bin {a b : Expr} {op : Operator} {g : PyData → PyData → Option PyData} {f1 f2 : DF} {pos : Pos} (o : OD X (binaryOp op) g) (ha : PD X a f1) (hb : PD X b f2) : PD X (.BinOp a op b pos) (bin2 f1 f2 g) :=
  PE.imp (pe_op o ha hb) fun _ _ _ h => tOp_of h
theorem pd_cmp {a b : Expr} {op : CmpOp} {g : PyData → PyData → Option PyData} {f1 f2 : DF} {pos : Pos} (o : OD X (compareOp op) g) (ha : PD X a f1) (hb : PD X b f2) (hm : behindInMarks op b = false := by first | exact nomark _ | rfl) : PD X (.Compare a [op] [b] pos) (bin2 f1 f2 g) :=
  PE.imp (pe_cmpR o ha hb hm) fun _ _ _ h => tOp_of h
def asB : PyData → Option Bool
  | .bool b => some b
  | _ => none
def btest (f : DF) : DFB := fun e => (f e).bind asB
theorem asB_inv {d : PyData} {b : Bool} (h : asB d = some b) : d = .bool b := by
  cases d <;> simp [asB] at h
  rw [h]
theorem tTest_of {K : PySem.W.Frag} {te : TE} {f : DF} (i : ∀ σ H Q, tD K f σ H Q → te σ H Q) {σ : L2.St} {H : Hp} {Q : Bool → Hp → Prop} (h : tDT K (btest f) σ H Q) : tTest te σ H Q := by
  obtain ⟨e, b, hs, he, k⟩ := h
  obtain ⟨x, hx, he⟩ := Option.bind_eq_some_iff.mp he
  cases asB_inv he
  exact i σ H _ ⟨e, .bool b, hs, hx, fun v H' s1 d1 => ⟨b, d1.bl_inv, k H' s1⟩⟩
theorem ptd_cmp {a b : Expr} {op : CmpOp} {g : PyData → PyData → Option PyData} {f1 f2 : DF} {pos : Pos} (o : OD X (compareOp op) g) (ha : PD X a f1) (hb : PD X b f2) (hm : behindInMarks op b = false := by first | exact nomark _ | rfl) : PTD X (.Compare a [op] [b] pos) (btest (bin2 f1 f2 g)) :=
  PT.imp (pt_cmpR o ha hb hm) fun _ _ _ h => tTest_of (fun _ _ _ q => tOp_of q) h
theorem ptd_val {e : Expr} {f : DF} (h : PD X e f) (he : ∀ whole, isTrue e X.env whole = (do let v ← whole; standAt e.pos; holding [v] (truthy v)) := by intro _; rfl) : PTD X e (btest f) :=
  PT.imp (pt_val h he) fun _ _ _ q => tTest_of (te := tD X.K f) (fun _ _ _ z => z) q
def addD : PyData → PyData → Option PyData
  | .int i, .int j => some (.int (i + j))
  | _, _ => none
def subD : PyData → PyData → Option PyData
  | .int i, .int j => some (.int (i - j))
  | _, _ => none
/-- products of numbers of which one is small -/
def mulD : PyData → PyData → Option PyData
  | .int i, .int j => if (-(2 ^ 64) < i ∧ i < 2 ^ 64) ∨ (-(2 ^ 64) < j ∧ j < 2 ^ 64) then some (.int (i * j)) else none
  | _, _ => none
def divD : PyData → PyData → Option PyData
  | .int i, .int j => if 0 < j ∧ j < 1073741824 then some (.int (i / j)) else none
  | _, _ => none
def modD : PyData → PyData → Option PyData
  | .int i, .int j => if 0 < j then some (.int (i % j)) else none
  | _, _ => none
theorem od_int {f : Value → Value → Sem Value} {C : Int → Int → Prop} {g : Int → Int → V} {h : PyData → PyData → Option PyData} (o : OpR X f (rI C g)) (k : ∀ x y d, h x y = some d → ∃ i j, x = .int i ∧ y = .int j ∧ C i j ∧ ∀ H, Dp X.K H (g i j) d) : OD X f h :=
  OpR.imp o fun x y H Q ⟨dx, dy, d, h1, h2, h3, q⟩ => by
    obtain ⟨i, j, rfl, rfl, c, hd⟩ := k dx dy d h3
    exact ⟨i, j, h1.int_inv, h2.int_inv, c, q _ H (Same.refl H) (hd H)⟩
theorem od_int0 {f : Value → Value → Sem Value} {g : Int → Int → V} {h : PyData → PyData → Option PyData} (o : OpR X f (rI0 g)) (k : ∀ x y d, h x y = some d → ∃ i j, x = .int i ∧ y = .int j ∧ ∀ H, Dp X.K H (g i j) d) : OD X f h :=
  OpR.imp o fun x y H Q ⟨dx, dy, d, h1, h2, h3, q⟩ => by
    obtain ⟨i, j, rfl, rfl, hd⟩ := k dx dy d h3
    exact ⟨i, j, h1.int_inv, h2.int_inv, q _ H (Same.refl H) (hd H)⟩
theorem od_add : OD X (binaryOp .Add) addD := od_int0 op_add fun x y d h => by
  cases x <;> cases y <;> simp only [addD, reduceCtorEq, Option.some.injEq] at h
  subst h
  exact ⟨_, _, rfl, rfl, fun _ => .int _⟩
theorem od_sub : OD X (binaryOp .Sub) subD := od_int0 op_sub fun x y d h => by
  cases x <;> cases y <;> simp only [subD, reduceCtorEq, Option.some.injEq] at h
  subst h
  exact ⟨_, _, rfl, rfl, fun _ => .int _⟩
theorem od_mul : OD X (binaryOp .Mult) mulD := od_int op_mul fun x y d h => by
  cases x <;> cases y <;> simp only [mulD, reduceCtorEq] at h
  split at h
  · rename_i c
    cases h
    exact ⟨_, _, rfl, rfl, c, fun _ => .int _⟩
  · cases h
theorem od_div : OD X (binaryOp .FloorDiv) divD := od_int op_fdiv fun x y d h => by
  cases x <;> cases y <;> simp only [divD, reduceCtorEq] at h
  split at h
  · rename_i c
    cases h
    exact ⟨_, _, rfl, rfl, c, fun _ => .int _⟩
  · cases h
theorem od_mod : OD X (binaryOp .Mod) modD := od_int op_mod fun x y d h => by
  cases x <;> cases y <;> simp only [modD, reduceCtorEq] at h
  split at h
  · rename_i c
    cases h
    exact ⟨_, _, rfl, rfl, c, fun _ => .int _⟩
  · cases h
def ltD : PyData → PyData → Option PyData
  | .int i, .int j => some (.bool (decide (i < j)))
  | _, _ => none
def leD : PyData → PyData → Option PyData
  | .int i, .int j => some (.bool (decide (i ≤ j)))
  | _, _ => none
def gtD : PyData → PyData → Option PyData
  | .int i, .int j => some (.bool (decide (j < i)))
  | _, _ => none
def geD : PyData → PyData → Option PyData
  | .int i, .int j => some (.bool (decide (j ≤ i)))
  | _, _ => none
theorem od_lt : OD X (compareOp .Lt) ltD := od_int0 op_lt fun x y d h => by
  cases x <;> cases y <;> simp only [ltD, reduceCtorEq, Option.some.injEq] at h
  subst h
  exact ⟨_, _, rfl, rfl, fun _ => .bl _⟩
theorem od_le : OD X (compareOp .LtE) leD := od_int0 op_le fun x y d h => by
  cases x <;> cases y <;> simp only [leD, reduceCtorEq, Option.some.injEq] at h
  subst h
  exact ⟨_, _, rfl, rfl, fun _ => .bl _⟩
theorem od_gt : OD X (compareOp .Gt) gtD := od_int0 op_gt fun x y d h => by
  cases x <;> cases y <;> simp only [gtD, reduceCtorEq, Option.some.injEq] at h
  subst h
  exact ⟨_, _, rfl, rfl, fun _ => .bl _⟩
theorem od_ge : OD X (compareOp .GtE) geD := od_int0 op_ge fun x y d h => by
  cases x <;> cases y <;> simp only [geD, reduceCtorEq, Option.some.injEq] at h
  subst h
  exact ⟨_, _, rfl, rfl, fun _ => .bl _⟩
end
end L2
end
section
set_option Elab.async false
set_option linter.all false
set_option maxRecDepth 100000
set_option maxHeartbeats 4000000
/-! D2: equality, tests, displays, subscripts, calls, built-ins. -/
namespace L2
open PySem PySem.Spec PyProof.Rows StX RZ
section
variable {X : Cx}
/-! ### ==, !=, is None, in -/
def eqvD (x y : PyData) : Option Bool := match x, y with
  | .int i, .int j => some (decide (i = j))
  | .bool i, .bool j => some (decide (i = j))
  | .str i, .str j => some (decide (i = j))
  | x, y => if SeqAt.shaped x = true ∧ SeqAt.shaped y = true then some (PyData.eqv x y) else none
def eqD (x y : PyData) : Option PyData := (eqvD x y).map fun b => .bool b
def neD (x y : PyData) : Option PyData := (eqvD x y).map fun b => .bool (!b)
theorem eqvD_cases {x y : PyData} {b : Bool} (h : eqvD x y = some b) : (∃ i j, x = .int i ∧ y = .int j ∧ b = decide (i = j)) ∨ (∃ i j, x = .bool i ∧ y = .bool j ∧ b = decide (i = j)) ∨ (∃ i j, x = .str i ∧ y = .str j ∧ b = decide (i = j)) ∨
    (SeqAt.shaped x = true ∧ SeqAt.shaped y = true ∧ b = PyData.eqv x y) := by
  unfold eqvD at h
  split at h
  · cases h; exact .inl ⟨_, _, rfl, rfl, rfl⟩
  · cases h; exact .inr (.inl ⟨_, _, rfl, rfl, rfl⟩)
  · cases h; exact .inr (.inr (.inl ⟨_, _, rfl, rfl, rfl⟩))
  · split at h
    · rename_i q
      cases h
      exact .inr (.inr (.inr ⟨q.1, q.2, rfl⟩))
    · cases h
theorem decInt {i j : Int} : decide (V.int i = V.int j) = decide (i = j) := by
  by_cases h : i = j
  · rw [decide_eq_true h, decide_eq_true (by rw [h])]
  · rw [decide_eq_false h, decide_eq_false (fun q => h (V.int.inj q))]
theorem decBl {i j : Bool} : decide (V.bl i = V.bl j) = decide (i = j) := by
  by_cases h : i = j
  · rw [decide_eq_true h, decide_eq_true (by rw [h])]
  · rw [decide_eq_false h, decide_eq_false (fun q => h (V.bl.inj q))]
theorem decStr {i j : Str} : decide (V.str i = V.str j) = decide (i = j) := by
  by_cases h : i = j
  · rw [decide_eq_true h, decide_eq_true (by rw [h])]
  · rw [decide_eq_false h, decide_eq_false (fun q => h (V.str.inj q))]
theorem od_eq (hu : X.A.units + 64 < cLine) : OD X (compareOp .Eq) eqD := OpR.imp (OpR.or op_eq (op_eqD hu)) fun x y H Q ⟨dx, dy, d, h1, h2, h3, q⟩ => by
  unfold eqD at h3
  obtain ⟨b, hb, rfl⟩ := Option.map_eq_some_iff.mp h3
  have q' := q (.bl b) H (Same.refl H) (.bl b)
  rcases eqvD_cases hb with ⟨i, j, rfl, rfl, rfl⟩ | ⟨i, j, rfl, rfl, rfl⟩ | ⟨i, j, rfl, rfl, rfl⟩ | ⟨s1, s2, rfl⟩
  · rw [h1.int_inv, h2.int_inv]
    exact .inl ⟨rfl, by rw [decInt]; exact q'⟩
  · rw [h1.bl_inv, h2.bl_inv]
    exact .inl ⟨rfl, by rw [decBl]; exact q'⟩
  · rw [h1.str_inv, h2.str_inv]
    exact .inl ⟨rfl, by rw [decStr]; exact q'⟩
  · exact .inr ⟨dx, dy, h1, h2, s1, s2, q'⟩
theorem od_ne (hu : X.A.units + 64 < cLine) : OD X (compareOp .NotEq) neD := OpR.imp (OpR.or op_ne (op_neD hu)) fun x y H Q ⟨dx, dy, d, h1, h2, h3, q⟩ => by
  unfold neD at h3
  obtain ⟨b, hb, rfl⟩ := Option.map_eq_some_iff.mp h3
  have q' := q (.bl (!b)) H (Same.refl H) (.bl (!b))
  rcases eqvD_cases hb with ⟨i, j, rfl, rfl, rfl⟩ | ⟨i, j, rfl, rfl, rfl⟩ | ⟨i, j, rfl, rfl, rfl⟩ | ⟨s1, s2, rfl⟩
  · rw [h1.int_inv, h2.int_inv]
    exact .inl ⟨rfl, by rw [decInt]; exact q'⟩
  · rw [h1.bl_inv, h2.bl_inv]
    exact .inl ⟨rfl, by rw [decBl]; exact q'⟩
  · rw [h1.str_inv, h2.str_inv]
    exact .inl ⟨rfl, by rw [decStr]; exact q'⟩
  · exact .inr ⟨dx, dy, h1, h2, s1, s2, q'⟩
def isN : PyData → Bool
  | .none => true
  | _ => false
theorem Dp.isN {K : PySem.W.Frag} {H : Hp} {v : V} {d : PyData} (h : Dp K H v d) : decide (v = .non) = L2.isN d := by
  cases h <;> rfl
def isD (x y : PyData) : Option PyData := if isN y then some (.bool (isN x)) else none
def isnotD (x y : PyData) : Option PyData := if isN y then some (.bool (!isN x)) else none
theorem isN_inv {d : PyData} (h : isN d = true) : d = .none := by cases d <;> first | rfl | cases h
theorem od_is : OD X (compareOp .Is) isD := OpR.imp op_isN fun x y H Q ⟨dx, dy, d, h1, h2, h3, q⟩ => by
  unfold isD at h3
  split at h3
  · rename_i z
    cases h3
    cases isN_inv z
    refine ⟨by cases h2; rfl, ?_⟩
    rw [h1.isN]
    exact q _ H (Same.refl H) (.bl _)
  · cases h3
theorem od_isnot : OD X (compareOp .IsNot) isnotD := OpR.imp op_notN fun x y H Q ⟨dx, dy, d, h1, h2, h3, q⟩ => by
  unfold isnotD at h3
  split at h3
  · rename_i z
    cases h3
    cases isN_inv z
    refine ⟨by cases h2; rfl, ?_⟩
    rw [h1.isN]
    exact q _ H (Same.refl H) (.bl _)
  · cases h3
/-- x in ys: a list of any data; a tuple of ints -/
def intsOf : List PyData → Option (List Int)
  | [] => some []
  | .int i :: r => (intsOf r).map (i :: ·)
  | _ => none
theorem intsOf_inv : ∀ {ds : List PyData} {ns : List Int}, intsOf ds = some ns → ds = ns.map PyData.int
  | [], _, h => by cases h; rfl
  | .int i :: r, ns, h => by
    obtain ⟨m, h1, rfl⟩ := Option.map_eq_some_iff.mp (show (intsOf r).map (i :: ·) = some ns from h)
    rw [intsOf_inv h1]; rfl
  | .none :: _, _, h => nomatch h
  | .bool _ :: _, _, h => nomatch h
  | .str _ :: _, _, h => nomatch h
  | .list _ :: _, _, h => nomatch h
  | .tuple _ :: _, _, h => nomatch h
  | .dict _ :: _, _, h => nomatch h
def inB (x y : PyData) : Option Bool := match y with
  | .list ds => if SeqAt.shaped x = true ∧ SeqAt.shaped (.list ds) = true then some (ds.any fun z => PyData.eqv z x) else none
  | .tuple ds => match x, intsOf ds with
    | .int i, some ns => some (ns.any fun z => decide (z = i))
    | _, _ => none
  | _ => none
def inD (x y : PyData) : Option PyData := (inB x y).map fun b => .bool b
def notInD (x y : PyData) : Option PyData := (inB x y).map fun b => .bool (!b)
theorem flat_ints : ∀ ns : List Int, (ns.map V.int).all flatV = true
  | [] => rfl
  | n :: ns => by rw [List.map_cons, List.all_cons, flat_ints ns]; rfl
theorem inV_ints (i : Int) (ns : List Int) : inV (.int i) (ns.map V.int) = ns.any fun z => decide (z = i) := by
  unfold inV
  rw [List.any_map]
  congr 1
theorem od_in (hu : X.A.units + 65 < cLine) : OD X (compareOp .In) inD := OpR.imp (OpR.or (op_inD hu) op_in_seq) fun x y H Q ⟨dx, dy, d, h1, h2, h3, q⟩ => by
  obtain ⟨b, hb, rfl⟩ := Option.map_eq_some_iff.mp (show (inB dx dy).map (fun b => .bool b) = some d from h3)
  have q' := q (.bl b) H (Same.refl H) (.bl b)
  unfold inB at hb
  split at hb
  · split at hb
    · rename_i z
      cases hb
      exact .inl ⟨dx, _, h1, h2, z.1, z.2, q'⟩
    · cases hb
  · split at hb
    · rename_i i ns e
      cases hb
      rw [intsOf_inv e] at h2
      obtain ⟨a, xs, rfl, hs, ha⟩ := h2.tup_inv
      rw [ha.ints] at hs
      rw [h1.int_inv]
      refine .inr ⟨a, _, rfl, .inr hs, rfl, flat_ints _, ?_⟩
      rw [inV_ints]
      exact q'
    · cases hb
  · cases hb
theorem od_notIn (hu : X.A.units + 65 < cLine) : OD X (compareOp .NotIn) notInD := OpR.imp (OpR.or (op_notInD hu) op_notIn_seq) fun x y H Q ⟨dx, dy, d, h1, h2, h3, q⟩ => by
  obtain ⟨b, hb, rfl⟩ := Option.map_eq_some_iff.mp (show (inB dx dy).map (fun b => .bool (!b)) = some d from h3)
  have q' := q (.bl (!b)) H (Same.refl H) (.bl (!b))
  unfold inB at hb
  split at hb
  · split at hb
    · rename_i z
      cases hb
      exact .inl ⟨dx, _, h1, h2, z.1, z.2, q'⟩
    · cases hb
  · split at hb
    · rename_i i ns e
      cases hb
      rw [intsOf_inv e] at h2
      obtain ⟨a, xs, rfl, hs, ha⟩ := h2.tup_inv
      rw [ha.ints] at hs
      rw [h1.int_inv]
      refine .inr ⟨a, _, rfl, .inr hs, rfl, flat_ints _, ?_⟩
      rw [inV_ints]
      exact q'
    · cases hb
  · cases hb
/-! ### and, or, not, if -/
def andB (f g : DFB) : DFB := fun e => (f e).bind fun b => if b = true then g e else some false
def orB (f g : DFB) : DFB := fun e => (f e).bind fun b => if b = true then some true else g e
def notB (f : DFB) : DFB := fun e => (f e).map (!·)
def ifD (c : DFB) (f g : DF) : DF := fun e => (c e).bind fun b => if b = true then f e else g e
variable {a b c : Expr} {rest : List Expr} {f g : DF} {p q : DFB} {pos : Pos}
theorem pwd_and1 (ha : PTD X a p) : PWD X (.BoolOp .And [a] pos) p := pw_and1 ha
theorem pwd_or1 (ha : PTD X a p) : PWD X (.BoolOp .Or [a] pos) p := pw_or1 ha
theorem pwd_and (ha : PTD X a p) (hb : PWD X (.BoolOp .And (b :: rest) pos) q) : PWD X (.BoolOp .And (a :: b :: rest) pos) (andB p q) := PW.imp (pw_and ha hb) fun σ H Q ⟨e, r, hs, he, k⟩ => by
  obtain ⟨x, hx, he⟩ := Option.bind_eq_some_iff.mp he
  refine ⟨e, x, hs, hx, fun H1 s1 => ?_⟩
  cases x with
  | true => exact iteT ⟨e, r, hs.same s1, he, fun H' s2 => k H' (s1.trans s2)⟩
  | false => cases he; exact iteF (k H1 s1)
theorem pwd_or (ha : PTD X a p) (hb : PWD X (.BoolOp .Or (b :: rest) pos) q) : PWD X (.BoolOp .Or (a :: b :: rest) pos) (orB p q) := PW.imp (pw_or ha hb) fun σ H Q ⟨e, r, hs, he, k⟩ => by
  obtain ⟨x, hx, he⟩ := Option.bind_eq_some_iff.mp he
  refine ⟨e, x, hs, hx, fun H1 s1 => ?_⟩
  cases x with
  | true => cases he; exact iteT (k H1 s1)
  | false => exact iteF ⟨e, r, hs.same s1, he, fun H' s2 => k H' (s1.trans s2)⟩
theorem ptd_not (ha : PTD X a p) : PTD X (.UnaryOp .Not a pos) (notB p) := PT.imp (pt_not ha) fun σ H Q ⟨e, r, hs, he, k⟩ => by
  obtain ⟨x, hx, rfl⟩ := Option.map_eq_some_iff.mp he
  exact ⟨e, x, hs, hx, fun H1 s1 => k H1 s1⟩
theorem ptd_w (h : PWD X a p) : PTD X a p := h.pt
/-- as values -/
def andV (f g : DF) : DF := fun e => (btest f e).bind fun b => if b = true then g e else some (.bool false)
def orV (f g : DF) : DF := fun e => (btest f e).bind fun b => if b = true then some (.bool true) else g e
def notV (f : DF) : DF := fun e => (btest f e).map fun b => .bool (!b)
theorem btest_inv {f : DF} {e : DEnv} {b : Bool} (h : btest f e = some b) : f e = some (.bool b) := by
  obtain ⟨x, hx, he⟩ := Option.bind_eq_some_iff.mp h
  rw [hx, asB_inv he]
theorem pd_one {op} (h : PD X a f) : PD X (.BoolOp op [a] pos) f := pe_one h
theorem pd_and (ha : PD X a f) (hb : PD X (.BoolOp .And (b :: rest) pos) g) : PD X (.BoolOp .And (a :: b :: rest) pos) (andV f g) := PE.imp (pe_and ha hb) fun σ H Q ⟨e, r, hs, he, k⟩ => by
  obtain ⟨x, hx, he⟩ := Option.bind_eq_some_iff.mp he
  refine ⟨e, .bool x, hs, btest_inv hx, fun v H1 s1 d1 => ⟨x, d1.bl_inv, ?_⟩⟩
  cases x with
  | true => exact iteT ⟨e, r, hs.same s1, he, fun v H' s2 => k v H' (s1.trans s2)⟩
  | false => cases he; exact iteF (k _ H1 s1 (.bl _))
theorem pd_or (ha : PD X a f) (hb : PD X (.BoolOp .Or (b :: rest) pos) g) : PD X (.BoolOp .Or (a :: b :: rest) pos) (orV f g) := PE.imp (pe_or ha hb) fun σ H Q ⟨e, r, hs, he, k⟩ => by
  obtain ⟨x, hx, he⟩ := Option.bind_eq_some_iff.mp he
  refine ⟨e, .bool x, hs, btest_inv hx, fun v H1 s1 d1 => ⟨x, d1.bl_inv, ?_⟩⟩
  cases x with
  | true => cases he; exact iteT (k _ H1 s1 (.bl _))
  | false => exact iteF ⟨e, r, hs.same s1, he, fun v H' s2 => k v H' (s1.trans s2)⟩
theorem pd_not (ha : PD X a f) : PD X (.UnaryOp .Not a pos) (notV f) := PE.imp (pe_not ha) fun σ H Q ⟨e, r, hs, he, k⟩ => by
  obtain ⟨x, hx, rfl⟩ := Option.map_eq_some_iff.mp he
  exact ⟨e, .bool x, hs, btest_inv hx, fun v H1 s1 d1 => ⟨x, d1.bl_inv, k _ H1 s1 (.bl _)⟩⟩
theorem pd_if (hc : PTD X c p) (ha : PD X a f) (hb : PD X b g) : PD X (.IfExp c a b pos) (ifD p f g) := PE.imp (pe_ifExp hc ha hb) fun σ H Q ⟨e, r, hs, he, k⟩ => by
  obtain ⟨x, hx, he⟩ := Option.bind_eq_some_iff.mp he
  refine ⟨e, x, hs, hx, fun H1 s1 => ?_⟩
  cases x with
  | true => exact iteT ⟨e, r, hs.same s1, he, fun v H' s2 => k v H' (s1.trans s2)⟩
  | false => exact iteF ⟨e, r, hs.same s1, he, fun v H' s2 => k v H' (s1.trans s2)⟩
/-! ### displays -/
def nilF : DFs := fun _ => some []
def consF (f : DF) (r : DFs) : DFs := fun e => (f e).bind fun x => (r e).map fun xs => x :: xs
def seqD : PyData → Option (List PyData)
  | .list ds => some ds
  | .tuple ds => some ds
  | _ => none
def starF (f : DF) (r : DFs) : DFs := fun e => ((f e).bind seqD).bind fun xs => (r e).map fun ys => xs ++ ys
variable {es : List Expr} {fs : DFs}
theorem pad_nil : PAD X [] nilF := PA.imp pa_nil fun σ H Q ⟨e, r, hs, he, k⟩ => by
  cases he
  exact k [] H (Same.refl H) .nil
theorem pad_cons (ha : PD X a f) (hr : PAD X es fs) (hs : starEach (a :: es) X.env = (false, eval a X.env) :: starEach es X.env := by rfl) : PAD X (a :: es) (consF f fs) := PA.imp (pa_cons ha hr hs) fun σ H Q ⟨e, r, hs, he, k⟩ => by
  obtain ⟨x, hx, he⟩ := Option.bind_eq_some_iff.mp he
  obtain ⟨xs, hxs, rfl⟩ := Option.map_eq_some_iff.mp he
  exact ⟨e, x, hs, hx, fun v H1 s1 d1 => ⟨e, xs, hs.same s1, hxs, fun vs H2 s2 d2 => k _ H2 (s1.trans s2) (.cons (Dp.same s2 _ _ d1) d2)⟩⟩
theorem seqD_inv {K : PySem.W.Frag} {H : Hp} {d : PyData} {ds : List PyData} {v : V} (h : seqD d = some ds) (hd : Dp K H v d) : ∃ a xs, v = .ref a ∧ (SqT K H a xs ∨ SqL K H a xs) ∧ DpAll K H xs ds := by
  cases d <;> simp only [seqD, reduceCtorEq, Option.some.injEq] at h
  · subst h
    obtain ⟨a, xs, e, h1, h2⟩ := hd.lst_inv
    exact ⟨a, xs, e, .inr h1, h2⟩
  · subst h
    obtain ⟨a, xs, e, h1, h2⟩ := hd.tup_inv
    exact ⟨a, xs, e, .inl h1, h2⟩
theorem pad_star {sp : Pos} (ha : PD X a f) (hr : PAD X es fs) (hs : starEach (.Starred a sp :: es) X.env = (true, eval a X.env) :: starEach es X.env := by rfl) : PAD X (.Starred a sp :: es) (starF f fs) := PA.imp (pa_star ha hr hs) fun σ H Q ⟨e, r, hs, he, k⟩ => by
  obtain ⟨xs, hxs, he⟩ := Option.bind_eq_some_iff.mp he
  obtain ⟨x, hx, hxs⟩ := Option.bind_eq_some_iff.mp hxs
  obtain ⟨ys, hys, rfl⟩ := Option.map_eq_some_iff.mp he
  refine ⟨e, x, hs, hx, fun v H1 s1 d1 => ?_⟩
  obtain ⟨a, us, rfl, h1, h2⟩ := seqD_inv hxs d1
  exact ⟨a, us, rfl, h1, e, ys, hs.same s1, hys, fun vs H2 s2 d2 => k _ H2 (s1.trans s2) ((DpAll.same s2 _ _ h2).append d2)⟩
def small (n : Nat) : Bool := decide (n ≤ 1000000)
theorem small_le {n : Nat} (h : small n = true) : n ≤ sizeLine := Nat.le_trans (of_decide_eq_true h) (by rw [sizeLine_eq]; decide)
theorem small_lt {n : Nat} (h : small n = true) : n < sizeLine := Nat.lt_of_le_of_lt (of_decide_eq_true h) (by rw [sizeLine_eq]; decide)
def tupF (f : DFs) : DF := fun e => (f e).bind fun ds => if small ds.length then some (.tuple ds) else none
def lstF (f : DFs) : DF := fun e => (f e).bind fun ds => if small ds.length then some (.list ds) else none
theorem same_new {H : Hp} {p : Addr} {o : HO} (h : H p = none) : Same H (upd H p o) := fun b x e => by
  rw [upd_ne (ne_of_none e h)]
  exact e
theorem pd_tup {x1} (h : PAD X es fs) : PD X (.Tuple es x1 pos) (tupF fs) := PE.imp (pe_tup h) fun σ H Q ⟨e, r, hs, he, k⟩ => by
  obtain ⟨ds, hds, he⟩ := Option.bind_eq_some_iff.mp he
  split at he
  · rename_i z
    cases he
    refine ⟨e, ds, hs, hds, fun vs H1 s1 d1 => ⟨by rw [d1.length]; exact small_le z, fun p hp => ?_⟩⟩
    exact k _ _ (s1.trans (same_new hp)) (.tup (.inl (.inl upd_same)) (DpAll.same (same_new hp) _ _ d1))
  · cases he
theorem pd_lst (h : PAD X es fs) : PD X (.List es pos) (lstF fs) := PE.imp (pe_lst h) fun σ H Q ⟨e, r, hs, he, k⟩ => by
  obtain ⟨ds, hds, he⟩ := Option.bind_eq_some_iff.mp he
  split at he
  · rename_i z
    cases he
    refine ⟨e, ds, hs, hds, fun vs H1 s1 d1 => ⟨by rw [d1.length]; exact small_le z, fun p hp => ?_⟩⟩
    exact k _ _ (s1.trans (same_new hp)) (.lst (.inl (.inl upd_same)) (DpAll.same (same_new hp) _ _ d1))
  · cases he
/-! ### subscripts -/
def ixD (x y : PyData) : Option PyData := match y with
  | .int i => (seqD x).bind fun ds => atI ds i
  | _ => none
theorem atI_all {K : PySem.W.Frag} {H : Hp} {vs : List V} {ds : List PyData} {i : Int} {d : PyData} (h : DpAll K H vs ds) (e : atI ds i = some d) : ∃ v, atI vs i = some v ∧ Dp K H v d := by
  unfold atI at e ⊢
  obtain ⟨j, hj, e⟩ := Option.bind_eq_some_iff.mp e
  obtain ⟨v, hv, hd⟩ := h.get e
  exact ⟨v, by rw [h.length, hj]; exact hv, hd⟩
theorem pd_ix (ha : PD X a f) (hb : PD X b g) (hs : PlainIx b := by exact fun _ _ => rfl) : PD X (.Subscript a b pos) (bin2 f g ixD) := PE.imp (pe_ix (ix_list.or ix_tup) ha hb hs) fun σ H Q ⟨e, r, hs, he, k⟩ => by
  obtain ⟨x, hx, he⟩ := Option.bind_eq_some_iff.mp he
  obtain ⟨y, hy, he⟩ := Option.bind_eq_some_iff.mp he
  refine ⟨e, x, hs, hx, fun v1 H1 s1 d1 => ⟨e, y, hs.same s1, hy, fun v2 H2 s2 d2 => ?_⟩⟩
  cases y <;> simp only [ixD, reduceCtorEq] at he
  rename_i i
  obtain ⟨ds, hds, he⟩ := Option.bind_eq_some_iff.mp he
  obtain ⟨p, xs, rfl, h1, h2⟩ := seqD_inv hds (Dp.same s2 _ _ d1)
  obtain ⟨v, hv, hd⟩ := atI_all h2 he
  rcases h1 with h1 | h1
  · exact .inr ⟨p, xs, i, v, rfl, d2.int_inv, h1, hv, k v H2 (s1.trans s2) hd⟩
  · exact .inl ⟨p, xs, i, v, rfl, d2.int_inv, h1, hv, k v H2 (s1.trans s2) hd⟩
def noneO : DEnv → Option (Option Int) := fun _ => some none
def someO (f : DF) : DEnv → Option (Option Int) := fun e => (f e).bind fun d => match d with
  | .int i => some (some i)
  | _ => none
theorem pod_none : POD X none noneO := PO.imp po_none fun σ H Q ⟨e, r, hs, he, k⟩ => by
  cases he
  exact k H (Same.refl H)
theorem pod_some (h : PD X a f) : POD X (some a) (someO f) := PO.imp (po_some h) fun σ H Q ⟨e, r, hs, he, k⟩ => by
  obtain ⟨x, hx, he⟩ := Option.bind_eq_some_iff.mp he
  refine ⟨e, x, hs, hx, fun v H1 s1 d1 => ?_⟩
  cases x <;> simp only [reduceCtorEq, Option.some.injEq] at he
  subst he
  exact ⟨_, d1.int_inv, k H1 s1⟩
/-- a slice of a list or a tuple -/
def cutD (xs : List PyData) (lo hi : Option Int) : List PyData := (xs.drop (HT.sIx xs.length 0 lo)).take (HT.sIx xs.length xs.length hi - HT.sIx xs.length 0 lo)
def slD (x : PyData) (lo hi : Option Int) : Option PyData := match x with
  | .list ds => some (.list (cutD ds lo hi))
  | .tuple ds => some (.tuple (cutD ds lo hi))
  | _ => none
def slF (f : DF) (lo hi : DEnv → Option (Option Int)) : DF := fun e => (f e).bind fun x => (lo e).bind fun l => (hi e).bind fun h => slD x l h
theorem cut_all {K : PySem.W.Frag} {H : Hp} {vs : List V} {ds : List PyData} (h : DpAll K H vs ds) (lo hi : Option Int) : DpAll K H (cutV vs lo hi) (cutD ds lo hi) := by
  unfold cutV cutD
  rw [h.length]
  exact (h.drop _).take _
theorem cutD_whole {xs : List PyData} {lo hi : Option Int} (h : HT.sIx xs.length 0 lo = 0 ∧ HT.sIx xs.length xs.length hi = xs.length) : cutD xs lo hi = xs := by
  unfold cutD
  rw [h.1, h.2]
  simp
variable {lo hi : Option Expr} {fl fh : DEnv → Option (Option Int)} {p2 : Pos}
theorem pd_sl (ha : PD X a f) (hl : POD X lo fl) (hh : POD X hi fh) : PD X (.Subscript a (.Slice lo hi none p2) pos) (slF f fl fh) := PE.imp (pe_slice (sl_list.or sl_tupA) ha hl hh) fun σ H Q ⟨e, r, hs, he, k⟩ => by
  obtain ⟨x, hx, he⟩ := Option.bind_eq_some_iff.mp he
  obtain ⟨l, hl, he⟩ := Option.bind_eq_some_iff.mp he
  obtain ⟨u, hu, he⟩ := Option.bind_eq_some_iff.mp he
  refine ⟨e, x, hs, hx, fun v1 H1 s1 d1 => ⟨e, l, hs.same s1, hl, fun H2 s2 => ⟨e, u, (hs.same s1).same s2, hu, fun H3 s3 => ?_⟩⟩⟩
  have d3 := Dp.same s3 _ _ (Dp.same s2 _ _ d1)
  have s13 := (s1.trans s2).trans s3
  cases x <;> simp only [slD, reduceCtorEq, Option.some.injEq] at he
  · subst he
    obtain ⟨p, xs, rfl, h1, h2⟩ := d3.lst_inv
    exact .inl ⟨p, xs, rfl, h1, fun p hp => k _ _ (s13.trans (same_new hp)) (.lst (.inl (.inl upd_same)) (DpAll.same (same_new hp) _ _ (cut_all h2 l u)))⟩
  · subst he
    obtain ⟨p, xs, rfl, h1, h2⟩ := d3.tup_inv
    refine .inr ⟨p, xs, rfl, h1, fun hw => ?_, fun _ p hp => k _ _ (s13.trans (same_new hp)) (.tup (.inl (.inl upd_same)) (DpAll.same (same_new hp) _ _ (cut_all h2 l u)))⟩
    rw [h2.length] at hw
    rw [cutD_whole hw] at k
    exact k _ _ s13 (.tup h1 h2)
end
end L2
end
section
set_option Elab.async false
set_option linter.all false
set_option maxRecDepth 100000
set_option maxHeartbeats 4000000
/-! D3: built-ins over data: len, sum, max, all, abs, int, tuple, list, sorted, isinstance. -/
namespace L2
open PySem PySem.Spec PyProof.Rows StX RZ
/-! ### insertion sort, and mergeSort -/
section
variable {α : Type} {le : α → α → Bool}
def insD (le : α → α → Bool) (x : α) : List α → List α
  | [] => [x]
  | y :: ys => if le x y then x :: y :: ys else y :: insD le x ys
def isortD (le : α → α → Bool) : List α → List α
  | [] => []
  | x :: xs => insD le x (isortD le xs)
theorem insD_mem {x z : α} : ∀ {ys : List α}, z ∈ insD le x ys → z = x ∨ z ∈ ys
  | [], h => by simp [insD] at h; exact .inl h
  | y :: ys, h => by
    unfold insD at h
    split at h
    · simpa using h
    · rcases List.mem_cons.mp h with h | h
      · exact .inr (by simp [h])
      · rcases insD_mem h with h | h
        · exact .inl h
        · exact .inr (by simp [h])
theorem insD_sorted (t : PySem.W.TotalLe le) (x : α) : ∀ ys : List α, ys.Pairwise (fun a b => le a b = true) → (insD le x ys).Pairwise (fun a b => le a b = true)
  | [], _ => by simp [insD]
  | y :: ys, h => by
    unfold insD
    have hp := List.pairwise_cons.mp h
    split
    · rename_i q
      refine List.pairwise_cons.mpr ⟨fun z hz => ?_, h⟩
      rcases List.mem_cons.mp hz with rfl | hz
      · exact q
      · exact t.trans _ _ _ q (hp.1 z hz)
    · rename_i q
      refine List.pairwise_cons.mpr ⟨fun z hz => ?_, insD_sorted t x ys hp.2⟩
      rcases insD_mem hz with rfl | hz
      · exact (t.total _ _).resolve_left q
      · exact hp.1 z hz
theorem isortD_sorted (t : PySem.W.TotalLe le) : ∀ xs : List α, (isortD le xs).Pairwise (fun a b => le a b = true)
  | [] => List.Pairwise.nil
  | x :: xs => insD_sorted t x _ (isortD_sorted t xs)
theorem insD_filter (t : PySem.W.TotalLe le) (c x : α) : ∀ ys : List α, ys.Pairwise (fun a b => le a b = true) → (insD le x ys).filter (PySem.W.sameRank le c) = (x :: ys).filter (PySem.W.sameRank le c)
  | [], _ => rfl
  | y :: ys, h => by
    unfold insD
    have hp := List.pairwise_cons.mp h
    split
    · rfl
    · rename_i q
      have ih := insD_filter t c x ys hp.2
      by_cases hx : PySem.W.sameRank le c x = true
      · have hy : ¬ PySem.W.sameRank le c y = true := fun hy => by
          unfold PySem.W.sameRank at hx hy
          rw [Bool.and_eq_true] at hx hy
          exact q (t.trans _ c _ hx.2 hy.1)
        rw [List.filter_cons_of_neg hy, ih, List.filter_cons_of_pos hx, List.filter_cons_of_pos hx, List.filter_cons_of_neg hy]
      · by_cases hy : PySem.W.sameRank le c y = true
        · rw [List.filter_cons_of_pos hy, ih, List.filter_cons_of_neg hx, List.filter_cons_of_neg hx, List.filter_cons_of_pos hy]
        · rw [List.filter_cons_of_neg hy, ih, List.filter_cons_of_neg hx, List.filter_cons_of_neg hx, List.filter_cons_of_neg hy]
theorem isortD_filter (t : PySem.W.TotalLe le) (c : α) : ∀ xs : List α, (isortD le xs).filter (PySem.W.sameRank le c) = xs.filter (PySem.W.sameRank le c)
  | [] => rfl
  | x :: xs => by
    have h := insD_filter t c x (isortD le xs) (isortD_sorted t xs)
    unfold isortD
    rw [h]
    by_cases hx : PySem.W.sameRank le c x = true
    · rw [List.filter_cons_of_pos hx, List.filter_cons_of_pos hx, isortD_filter t c xs]
    · rw [List.filter_cons_of_neg hx, List.filter_cons_of_neg hx, isortD_filter t c xs]
theorem isortD_eq (t : PySem.W.TotalLe le) (xs : List α) : isortD le xs = xs.mergeSort le := PySem.W.sort_unique t (isortD_sorted t xs) fun c => isortD_filter t c xs
end
/-! ### sorted -/
open PySem.W (alike dataLe AllAlike Sortable EachIs) in
section
variable {X : Cx} {pins : List (Addr × Obj)} {σ : L2.St} {H : Hp} {s : Shared}
def ordD (x y : PyData) : Bool := PySem.W.dataLe false id x y
theorem ordD_total : PySem.W.TotalLe ordD := by
  show PySem.W.TotalLe (PySem.W.dataLe false (id : PyData → PyData))
  unfold PySem.W.dataLe
  exact PySem.W.sortLe_total _ _ _
def alikeB (ds : List PyData) : Bool := ds.all fun d => ds.all fun d' => alike d d'
def isTupB : PyData → Bool
  | .tuple (_ :: _) => true
  | _ => false
def noTupB : PyData → Bool
  | .none => false
  | .tuple _ => false
  | _ => true
def sortableB (ds : List PyData) : Bool := ds.all isTupB || ds.all noTupB
def okSort (ds : List PyData) : Bool := small ds.length && alikeB ds && sortableB ds && nlAll ds && ds.all fun d => decide (d.depth ≤ 16)
def sortL (ds : List PyData) : List PyData := isortD ordD ds
theorem alikeB_of {ds : List PyData} (h : alikeB ds = true) : AllAlike ds := fun d hd d' hd' => List.all_eq_true.mp (List.all_eq_true.mp h d hd) d' hd'
theorem sortableB_of {ds : List PyData} (h : sortableB ds = true) : Sortable ds := by
  unfold sortableB at h
  rw [Bool.or_eq_true] at h
  rcases h with h | h
  · refine .inl fun d hd => ?_
    have q := List.all_eq_true.mp h d hd
    cases d with
    | tuple xs =>
      cases xs with
      | nil => cases q
      | cons x r => exact ⟨x, r, rfl⟩
    | _ => cases q
  · refine .inr fun d hd => ?_
    have q := List.all_eq_true.mp h d hd
    cases d <;> first | (cases q; done) | exact ⟨(fun z => nomatch z), (fun xs z => nomatch z)⟩
mutual
theorem reads_nl {h : Heap} : ∀ (d : PyData) (v : Value) (as : List Addr), nl d = true → Reads h v d as → as = []
  | .none, _, _, _, r => by cases r; rfl
  | .bool _, _, _, _, r => by cases r; rfl
  | .int _, _, _, _, r => by cases r; rfl
  | .str _, _, _, _, r => by cases r; rfl
  | .list _, _, _, n, _ => by rw [nl] at n; cases n
  | .tuple ds, _, _, n, r => by
    cases r with
    | tuple h1 h2 h3 h4 => exact readsAll_nl ds _ _ (nl_tup n) h4
  | .dict _, _, _, n, _ => by rw [nl] at n; cases n
theorem readsAll_nl {h : Heap} : ∀ (ds : List PyData) (vs : List Value) (as : List Addr), nlAll ds = true → ReadsAll h vs ds as → as = []
  | [], _, _, _, r => by cases r; rfl
  | d :: ds, _, _, n, r => by
    cases r with
    | cons h1 h2 => rw [reads_nl d _ _ (nl_cons n).1 h1, readsAll_nl ds _ _ (nl_cons n).2 h2]; rfl
end
theorem nl_mem {d : PyData} : ∀ {ds : List PyData}, nlAll ds = true → d ∈ ds → nl d = true
  | x :: xs, n, h => by
    rcases List.mem_cons.mp h with rfl | h
    · exact (nl_cons n).1
    · exact nl_mem (nl_cons n).2 h
/-- values and data that go together through V's -/
def RVD (K : PySem.W.Frag) (H : Hp) (u : Value) (d : PyData) : Prop := ∃ v, RelV v u ∧ Dp K H v d
theorem each_of : ∀ {vs : List V} {us : List Value} {ds : List PyData}, Vals vs us → DpAll X.K H vs ds → EachIs (RVD X.K H) us ds
  | _, _, _, .nil, .nil => .nil
  | _, _, _, .cons r t, .cons d e => .cons ⟨_, r, d⟩ (each_of t e)
theorem of_each : ∀ {us : List Value} {ds : List PyData}, EachIs (RVD X.K H) us ds → ∃ vs, Vals vs us ∧ DpAll X.K H vs ds
  | _, _, .nil => ⟨[], .nil, .nil⟩
  | _, _, .cons ⟨v, r, d⟩ t => by
    obtain ⟨vs, a, b⟩ := of_each t
    exact ⟨v :: vs, .cons r a, .cons d b⟩
theorem each_reads (I : Inv X pins σ H s) : ∀ {us : List Value} {ds : List PyData}, EachIs (RVD X.K H) us ds → EachIs (fun v b => ∃ as, Reads s.heap v (id b) as) us ds
  | _, _, .nil => .nil
  | _, _, .cons ⟨v, r, d⟩ t => .cons (Dp.reads I _ v _ d r) (each_reads I t)
theorem each_sorted {ds : List PyData} {out : List Value} (e : EachIs (RVD X.K H) out (ds.mergeSort (dataLe false id))) : EachIs (RVD X.K H) out (sortL ds) := by
  unfold sortL
  rw [isortD_eq ordD_total]
  exact e
theorem okSort_inv {ds : List PyData} (h : okSort ds = true) : small ds.length = true ∧ AllAlike ds ∧ Sortable ds ∧ nlAll ds = true ∧ ∀ d ∈ ds, d.depth ≤ 16 := by
  unfold okSort at h
  rw [Bool.and_eq_true, Bool.and_eq_true, Bool.and_eq_true, Bool.and_eq_true] at h
  obtain ⟨⟨⟨⟨h1, h2⟩, h3⟩, h4⟩, h5⟩ := h
  exact ⟨h1, alikeB_of h2, sortableB_of h3, h4, fun d hd => of_decide_eq_true (List.all_eq_true.mp h5 d hd)⟩
/-- a new list of the items (the state is I's), sorted -/
theorem sort_new {A' : Around} {us : List Value} {vs : List V} {ds : List PyData} {R : Value → Shared → Prop} {E : Value → Shared → Prop} (I : Inv X pins σ H s) (hu : A'.units + 1 + 16 < cLine) (r : Vals vs us) (hd : DpAll X.K H vs ds) (ok : okSort ds = true)
    (h : ∀ (ws : List V) (s' : Shared), H s.heap.objs.size = none → DpAll X.K H ws (sortL ds) → ws.length ≤ sizeLine → Inv X pins σ (upd H s.heap.objs.size (.lst ws)) s' → R .none s') :
    wpAny (model X.prog X.w) A' (call (.builtin "list.sort") [.ref s.heap.objs.size]) R E { s with heap := s.heap.push { cls := .type "list", data := .seq us.toArray } } := by
  obtain ⟨o1, o2, o3, o4, o5⟩ := okSort_inv ok
  have ho : (s.heap.push (seqObj "list" us.toArray 0)).get? s.heap.objs.size = some (seqObj "list" us.toArray 0) := Heap.get?_push_size _ rfl
  have I1 : Inv X pins σ H { s with heap := s.heap.push (seqObj "list" us.toArray 0) } := I.kept (t' := s.toks) fun b u e => Heap.get?_push_of_some _ e
  have ids : ds.map (id : PyData → PyData) = ds := by simp
  have e := each_of (X := X) r hd
  have er := each_reads I1 e
  have er2 : EachIs (fun v b => ∃ as, Reads (s.heap.push (seqObj "list" us.toArray 0)) v (id b) as ∧ s.heap.objs.size ∉ as) us ds := (PySem.W.each_mem er).mono fun v b ⟨⟨as, q⟩, hb⟩ => ⟨as, q, by
    rw [reads_nl _ _ _ (nl_mem o4 hb) q]
    simp⟩
  refine PySem.W.list_sort_data (s := { s with heap := s.heap.push (seqObj "list" us.toArray 0) }) (enc := id) ho e er2 (by rw [ids]; exact o2) (by rw [ids]; exact o3) (small_le o1) (fun b hb => by have := o5 b hb; show _ + b.depth < _; omega) fun out ol oe => ?_
  obtain ⟨ws, w1, w2⟩ := of_each (each_sorted oe)
  obtain ⟨e', he'⟩ := PyProof.Rows.sortedHeap_at (vs := us) (out := out.toArray) ho
  have hw : ws.length ≤ sizeLine := by
    rw [w1.length, ol]; exact small_le o1
  refine h ws _ (I.hok.fresh (Nat.le_refl _)) w2 hw (I.laid (t' := s.toks) (fun b u hb => ?_) (Nat.le_refl _) ⟨hw, out, e', w1, he'⟩)
  have hl : b < s.heap.objs.size := Heap.lt_size hb
  show (sortedHeap (s.heap.push (seqObj "list" us.toArray 0)) s.heap.objs.size us out.toArray).get? b = some u
  rw [PyProof.Rows.sortedHeap_old (Nat.ne_of_lt hl) (by rw [size_push']; exact Nat.lt_succ_of_lt hl)]
  exact Heap.get?_push_of_some _ hb
theorem sorted_by {u : Value} {Q : VK} {ds : List PyData} {vs : List V} (hu : X.A.units + 64 < cLine) (ok : okSort ds = true)
    (hc : ∀ (R : List Value → Shared → Prop), (∀ us s', Inv X pins σ H s' → Vals vs us → R us s') → wpAny (model X.prog X.w) X.A.in1 (collect u) R X.xe s) (hd : DpAll X.K H vs ds)
    (q : ∀ (ws : List V) (p : Addr), H p = none → DpAll X.K H ws (sortL ds) → Q (.ref p) (upd H p (.lst ws))) : wpAny (model X.prog X.w) X.A (call (.builtin "sorted") [u]) (EP X pins σ Q) X.xe s := by
  refine Calls.call_function_entry PyProof.Rows.kind_sorted PyProof.Rows.plain_sorted PyProof.Rows.entry_sorted (PyProof.Rows.args_sorted1 _) ?_
  unfold Builtin.«sorted»
  refine wpAny_bind (m := checkCount "sorted" 1 1 _) (wpAny_pure ?_)
  refine wpAny_bind (hc _ fun us s' I' r => ?_)
  have hlen : us.length ≤ sizeLine := by
    rw [← r.length, hd.length]; exact small_le (okSort_inv ok).1
  refine wpAny_bind (wpAny_newList ?_ hlen)
  refine wpAny_bind (wpAny_holding (wpAny_mono (sort_new (A' := X.A.in1) (R := fun _ s'' => EP X pins σ Q (.ref s'.heap.objs.size) s'') I' (by show X.A.units + 1 + 1 + 16 < cLine; omega) r hd ok fun ws s'' h1 h2 h3 I'' => ⟨.ref s'.heap.objs.size, _, I'', rfl, q ws _ h1 h2⟩) (fun x s'' h => ?_) fun _ _ e => e))
  exact wpAny_pure ⟨_, rfl, h⟩
/-- sorted(xs): a list, a tuple -/
def sortedD : List PyData → Option PyData
  | [.list ds] => if okSort ds then some (.list (sortL ds)) else none
  | [.tuple ds] => if okSort ds then some (.list (sortL ds)) else none
  | _ => none
def rCD (K : PySem.W.Frag) (g : List PyData → Option PyData) : List V → Hp → VK → Prop := fun vs H Q => ∃ ds d, DpAll K H vs ds ∧ g ds = some d ∧ ∀ v H', Same H H' → Dp K H' v d → Q v H'
abbrev CD (X : Cx) (f : Value) (g : List PyData → Option PyData) : Prop := CallR X f (rCD X.K g)
theorem cd_sorted (hu : X.A.units + 64 < cLine) : CD X (.builtin "sorted") sortedD := by
  intro pins s σ H xs us Q I r h
  obtain ⟨ds, d, hd, hg, q⟩ := h
  have fin : ∀ {ds : List PyData} {vs : List V}, okSort ds = true → DpAll X.K H vs ds → d = .list (sortL ds) → ∀ (ws : List V) (p : Addr), H p = none → DpAll X.K H ws (sortL ds) → Q (.ref p) (upd H p (.lst ws)) := fun ok _ e ws p hp hw => by
    subst e
    exact q _ _ (same_new hp) (.lst (.inl (.inl upd_same)) (DpAll.same (same_new hp) _ _ hw))
  unfold sortedD at hg
  split at hg
  · split at hg
    · rename_i ok
      cases hg
      cases hd with
      | cons h1 h2 =>
        cases h2
        obtain ⟨a, vs, rfl, hs, ha⟩ := h1.lst_inv
        rw [Vals.ref1 r]
        obtain ⟨its, rv, ⟨o, n, ho, hc, _, hdt⟩, hz⟩ := I.list hs
        exact sorted_by hu ok (fun R hR => wpAny_collect_seq a (.inl rfl) ho hc hdt (fun h' hk => hR _ _ (I.kept (t' := s.toks) hk) (by simpa using rv)) (by rw [List.size_toArray, ← rv.length]; exact hz)) ha (fin ok ha rfl)
    · cases hg
  · split at hg
    · rename_i ok
      cases hg
      cases hd with
      | cons h1 h2 =>
        cases h2
        obtain ⟨a, vs, rfl, hs, ha⟩ := h1.tup_inv
        rw [Vals.ref1 r]
        obtain ⟨its, rv, ⟨o, ho, hc, n, hdt⟩, hz⟩ := I.tuple hs
        exact sorted_by hu ok (fun R hR => wpAny_collect_seq a (.inr rfl) ho hc hdt (fun h' hk => hR _ _ (I.kept (t' := s.toks) hk) (by simpa using rv)) (by rw [List.size_toArray, ← rv.length]; exact hz)) ha (fin ok ha rfl)
    · cases hg
  · cases hg
end
end L2
end
section
set_option Elab.async false
set_option linter.all false
set_option maxRecDepth 100000
set_option maxHeartbeats 4000000
/-! D4: more built-ins over data. -/
namespace L2
open PySem PySem.Spec PyProof.Rows StX RZ
section
variable {X : Cx}
/-! ### len, tuple, list, abs, int -/
def lenD : List PyData → Option PyData
  | [d] => (seqD d).map fun ds => .int (ds.length : Nat)
  | _ => none
theorem dpAll1 {K : PySem.W.Frag} {H : Hp} {vs : List V} {d : PyData} (h : DpAll K H vs [d]) : ∃ v, vs = [v] ∧ Dp K H v d := by
  cases h with
  | cons h1 h2 => cases h2; exact ⟨_, rfl, h1⟩
theorem dpAll2 {K : PySem.W.Frag} {H : Hp} {vs : List V} {d e : PyData} (h : DpAll K H vs [d, e]) : ∃ v w, vs = [v, w] ∧ Dp K H v d ∧ Dp K H w e := by
  cases h with
  | cons h1 h2 =>
    cases h2 with
    | cons h2 h3 => cases h3; exact ⟨_, _, rfl, h1, h2⟩
theorem cd_len : CD X (.builtin "len") lenD := CallR.imp call_len_seq fun xs H Q ⟨ds, d, hd, hg, q⟩ => by
  unfold lenD at hg
  split at hg
  · obtain ⟨es, he, rfl⟩ := Option.map_eq_some_iff.mp hg
    obtain ⟨v, rfl, h1⟩ := dpAll1 hd
    obtain ⟨a, ys, rfl, h2, h3⟩ := seqD_inv he h1
    refine ⟨a, ys, rfl, h2.symm, ?_⟩
    rw [h3.length]
    exact q _ H (Same.refl H) (.int _)
  · cases hg
def tupleD : List PyData → Option PyData
  | [d] => (seqD d).map fun ds => .tuple ds
  | _ => none
def listD : List PyData → Option PyData
  | [d] => (seqD d).map fun ds => .list ds
  | _ => none
theorem cd_tuple : CD X (.type "tuple") tupleD := CallR.imp call_tuple_of fun xs H Q ⟨ds, d, hd, hg, q⟩ => by
  unfold tupleD at hg
  split at hg
  · obtain ⟨es, he, rfl⟩ := Option.map_eq_some_iff.mp hg
    obtain ⟨v, rfl, h1⟩ := dpAll1 hd
    obtain ⟨a, ys, rfl, h2, h3⟩ := seqD_inv he h1
    refine ⟨a, ys, rfl, ?_⟩
    rcases h2 with h2 | h2
    · exact .inr ⟨h2, q _ H (Same.refl H) (.tup h2 h3)⟩
    · exact .inl ⟨h2, fun l hl => q _ _ (same_new hl) (.tup (.inl (.inl upd_same)) (DpAll.same (same_new hl) _ _ h3))⟩
  · cases hg
theorem cd_list : CD X (.type "list") listD := CallR.imp call_list_of fun xs H Q ⟨ds, d, hd, hg, q⟩ => by
  unfold listD at hg
  split at hg
  · obtain ⟨es, he, rfl⟩ := Option.map_eq_some_iff.mp hg
    obtain ⟨v, rfl, h1⟩ := dpAll1 hd
    obtain ⟨a, ys, rfl, h2, h3⟩ := seqD_inv he h1
    exact ⟨a, ys, rfl, h2.symm, fun l hl => q _ _ (same_new hl) (.lst (.inl (.inl upd_same)) (DpAll.same (same_new hl) _ _ h3))⟩
  · cases hg
def absD : List PyData → Option PyData
  | [.int i] => some (.int (if i < 0 then -i else i))
  | _ => none
theorem cd_abs : CD X (.builtin "abs") absD := CallR.imp call_abs fun xs H Q ⟨ds, d, hd, hg, q⟩ => by
  unfold absD at hg
  split at hg
  · cases hg
    obtain ⟨v, rfl, h1⟩ := dpAll1 hd
    exact ⟨_, by rw [h1.int_inv], q _ H (Same.refl H) (.int _)⟩
  · cases hg
def intD : List PyData → Option PyData
  | [.int i] => some (.int i)
  | [.bool k] => some (.int (if k then 1 else 0))
  | _ => none
theorem cd_int : CD X (.type "int") intD := CallR.imp call_int1 fun xs H Q ⟨ds, d, hd, hg, q⟩ => by
  unfold intD at hg
  split at hg
  · cases hg
    obtain ⟨v, rfl, h1⟩ := dpAll1 hd
    exact .inl ⟨_, by rw [h1.int_inv], q _ H (Same.refl H) (.int _)⟩
  · cases hg
    obtain ⟨v, rfl, h1⟩ := dpAll1 hd
    exact .inr ⟨_, by rw [h1.bl_inv], q _ H (Same.refl H) (.int _)⟩
  · cases hg
/-! ### sum, max, all -/
def maxL : List Int → Int
  | [] => 0
  | [n] => n
  | n :: m :: r => max n (maxL (m :: r))
theorem maxL_mem : ∀ {ns : List Int}, ns ≠ [] → maxL ns ∈ ns
  | [], h => absurd rfl h
  | [n], _ => by simp [maxL]
  | n :: m :: r, _ => by
    unfold maxL
    have ih := maxL_mem (ns := m :: r) (by simp)
    rcases Int.le_total n (maxL (m :: r)) with h | h
    · rw [Int.max_eq_right h]; exact List.mem_cons_of_mem _ ih
    · rw [Int.max_eq_left h]; exact List.mem_cons_self
theorem maxL_le : ∀ {ns : List Int} {y : Int}, y ∈ ns → y ≤ maxL ns
  | [n], y, h => by simp at h; simp [maxL, h]
  | n :: m :: r, y, h => by
    unfold maxL
    rcases List.mem_cons.mp h with rfl | h
    · exact Int.le_max_left _ _
    · exact Int.le_trans (maxL_le h) (Int.le_max_right _ _)
theorem maxL_unique {ns : List Int} {m : Int} (h1 : m ∈ ns) (h2 : ∀ y ∈ ns, y ≤ m) : m = maxL ns := by
  have a := maxL_le h1
  have b := h2 _ (maxL_mem (ns := ns) (by rintro rfl; cases h1))
  omega
def sumD : List PyData → Option PyData
  | [.list ds] => (intsOf ds).map fun ns => .int ns.sum
  | [.tuple ds] => (intsOf ds).map fun ns => .int ns.sum
  | _ => none
def maxD : List PyData → Option PyData
  | [.list ds] => (intsOf ds).bind fun ns => if ns.isEmpty then none else some (.int (maxL ns))
  | [.tuple ds] => (intsOf ds).bind fun ns => if ns.isEmpty then none else some (.int (maxL ns))
  | [.int i, .int j] => some (.int (if j > i then j else i))
  | _ => none
def boolsOf : List PyData → Option (List Bool)
  | [] => some []
  | .bool i :: r => (boolsOf r).map (i :: ·)
  | _ => none
theorem boolsOf_inv : ∀ {ds : List PyData} {ns : List Bool}, boolsOf ds = some ns → ds = ns.map PyData.bool
  | [], _, h => by cases h; rfl
  | .bool i :: r, ns, h => by
    obtain ⟨m, h1, rfl⟩ := Option.map_eq_some_iff.mp (show (boolsOf r).map (i :: ·) = some ns from h)
    rw [boolsOf_inv h1]; rfl
  | .none :: _, _, h => nomatch h
  | .int _ :: _, _, h => nomatch h
  | .str _ :: _, _, h => nomatch h
  | .list _ :: _, _, h => nomatch h
  | .tuple _ :: _, _, h => nomatch h
  | .dict _ :: _, _, h => nomatch h
theorem DpAll.bools {K : PySem.W.Frag} {H : Hp} : ∀ {ns : List Bool} {vs : List V}, DpAll K H vs (ns.map PyData.bool) → vs = ns.map V.bl
  | [], _, h => by cases h; rfl
  | n :: ns, _, h => by
    cases h with
    | cons h1 h2 => rw [h1.bl_inv, DpAll.bools h2]; rfl
def allD : List PyData → Option PyData
  | [.list ds] => (boolsOf ds).map fun bs => .bool (bs.all id)
  | _ => none
theorem sum_tup (hc : X.calm = true) : CallR X (.builtin "sum") (fun vs H Q => ∃ (a : Addr) (ns : List Int), vs = [V.ref a] ∧ SqT X.K H a (ns.map V.int) ∧ Q (.int ns.sum) H) := by
  intro pins s σ H xs us Q I r h
  obtain ⟨a, ns, rfl, hs, q⟩ := h
  rw [Vals.ref1 r]
  obtain ⟨its, rv, ht, hz⟩ := I.tuple hs
  have hi := rv.ints
  obtain ⟨zs, e⟩ := hi.allInts.items
  have hn : numsOf (intItems zs).toList = ns := by rw [← e]; exact hi.numsOf
  rw [nums_intItems] at hn
  have ht' : s.heap.IsTuple a (intItems zs) := by rw [← e]; exact ht
  refine PySem.W.ktm_sumG (I.ok.hd hc) ht' fun h' tk t' hk => ?_
  refine ⟨.int ns.sum, H, I.kept hk, ⟨t', ?_⟩, q⟩
  rw [preSum_eq, List.take_of_length_le (by simp), hn]
theorem max_tup (hc : X.calm = true) : CallR X (.builtin "max") (fun vs H Q => ∃ (a : Addr) (ns : List Int), vs = [V.ref a] ∧ SqT X.K H a (ns.map V.int) ∧ 0 < ns.length ∧ ∀ m, m ∈ ns → (∀ y, y ∈ ns → y ≤ m) → Q (.int m) H) := by
  intro pins s σ H xs us Q I r h
  obtain ⟨a, ns, rfl, hs, hne, q⟩ := h
  rw [Vals.ref1 r]
  obtain ⟨its, rv, ht, hz⟩ := I.tuple hs
  have hi := rv.ints
  obtain ⟨zs, e⟩ := hi.allInts.items
  have hn : numsOf (intItems zs).toList = ns := by rw [← e]; exact hi.numsOf
  rw [nums_intItems] at hn
  subst hn
  have ht' : s.heap.IsTuple a (intItems zs) := by rw [← e]; exact ht
  have hsz : 0 < zs.size := by simpa using hne
  obtain ⟨o, ho, _⟩ := id ht'
  have hlt : a < s.heap.objs.size := Heap.lt_size ho
  refine call_max_walk (wpAny_pyIter_tuple ht' ?_)
  refine ⟨_, _, _, _, _, _, _, rfl, Walks.tuple (A := X.A.in1) (I.ok.hd hc) s.heap.objs.size a (Nat.ne_of_lt hlt) (intItems zs), ⟨⟨_, Heap.get?_push_size _ rfl, rfl, rfl⟩, ht'.at fun o e => Heap.get?_push_of_some _ e⟩, fun b hb => ?_, by simpa [intItems] using hsz, CmpOf.ints_gt (numAt zs) (fun _ _ => intItems_at), fun v h' tk hP hk => ?_⟩
  · show b < (s.heap.push _).objs.size
    rw [Heap.size_push]
    rcases List.mem_cons.mp hb with rfl | hb
    · exact Nat.lt_succ_self _
    · obtain rfl := List.mem_singleton.mp hb
      exact Nat.lt_succ_of_lt hlt
  · have hsz2 : (intItems zs).size = zs.size := by simp [intItems]
    rw [hsz2] at hP
    obtain ⟨t, rfl⟩ := intItems_at hP
    obtain ⟨h1, h2⟩ := argBest_gt (numAt zs) (zs.size - 1)
    refine ⟨.int _, H, I.kept (fun b o e => hk b o (fun hm => ?_) (Heap.get?_push_of_some _ e)), ⟨t, rfl⟩, q _ ?_ fun y hy => ?_⟩
    · obtain rfl := List.mem_singleton.mp hm
      exact absurd (Heap.lt_size e) (Nat.lt_irrefl _)
    · rw [numAt_eq]; exact PySem.getD_mem (by rw [List.length_map, Array.length_toList]; omega)
    · obtain ⟨j, hj, rfl⟩ := mem_getD hy
      rw [List.length_map, Array.length_toList] at hj
      rw [← numAt_eq]; exact h2 j (by omega)
theorem cd_sum (hc : X.calm = true) : CD X (.builtin "sum") sumD := CallR.imp (CallR.or (cr_sum hc) (sum_tup hc)) fun xs H Q ⟨ds, d, hd, hg, q⟩ => by
  unfold sumD at hg
  split at hg
  · obtain ⟨es, he, rfl⟩ := Option.map_eq_some_iff.mp hg
    obtain ⟨v, rfl, h1⟩ := dpAll1 hd
    rw [intsOf_inv he] at h1
    obtain ⟨a, ys, rfl, h2, h3⟩ := h1.lst_inv
    rw [h3.ints] at h2
    exact .inl ⟨a, es, rfl, h2, q _ H (Same.refl H) (.int _)⟩
  · obtain ⟨es, he, rfl⟩ := Option.map_eq_some_iff.mp hg
    obtain ⟨v, rfl, h1⟩ := dpAll1 hd
    rw [intsOf_inv he] at h1
    obtain ⟨a, ys, rfl, h2, h3⟩ := h1.tup_inv
    rw [h3.ints] at h2
    exact .inr ⟨a, es, rfl, h2, q _ H (Same.refl H) (.int _)⟩
  · cases hg
theorem cd_max (hc : X.calm = true) : CD X (.builtin "max") maxD := CallR.imp (CallR.or (CallR.or (cr_max hc) (max_tup hc)) (call_max2 hc)) fun xs H Q ⟨ds, d, hd, hg, q⟩ => by
  unfold maxD at hg
  split at hg
  · obtain ⟨es, he, hg⟩ := Option.bind_eq_some_iff.mp hg
    split at hg
    · cases hg
    · rename_i ne
      cases hg
      obtain ⟨v, rfl, h1⟩ := dpAll1 hd
      rw [intsOf_inv he] at h1
      obtain ⟨a, ys, rfl, h2, h3⟩ := h1.lst_inv
      rw [h3.ints] at h2
      refine .inl (.inl ⟨a, es, rfl, h2, ?_, fun m m1 m2 => ?_⟩)
      · cases es with
        | nil => exact absurd rfl ne
        | cons => simp
      · rw [maxL_unique m1 m2]; exact q _ H (Same.refl H) (.int _)
  · obtain ⟨es, he, hg⟩ := Option.bind_eq_some_iff.mp hg
    split at hg
    · cases hg
    · rename_i ne
      cases hg
      obtain ⟨v, rfl, h1⟩ := dpAll1 hd
      rw [intsOf_inv he] at h1
      obtain ⟨a, ys, rfl, h2, h3⟩ := h1.tup_inv
      rw [h3.ints] at h2
      refine .inl (.inr ⟨a, es, rfl, h2, ?_, fun m m1 m2 => ?_⟩)
      · cases es with
        | nil => exact absurd rfl ne
        | cons => simp
      · rw [maxL_unique m1 m2]; exact q _ H (Same.refl H) (.int _)
  · cases hg
    obtain ⟨v, w, rfl, h1, h2⟩ := dpAll2 hd
    exact .inr ⟨_, _, by rw [h1.int_inv, h2.int_inv], q _ H (Same.refl H) (.int _)⟩
  · cases hg
theorem cd_all (hc : X.calm = true) : CD X (.builtin "all") allD := CallR.imp (cr_all hc) fun xs H Q ⟨ds, d, hd, hg, q⟩ => by
  unfold allD at hg
  split at hg
  · obtain ⟨es, he, rfl⟩ := Option.map_eq_some_iff.mp hg
    obtain ⟨v, rfl, h1⟩ := dpAll1 hd
    rw [boolsOf_inv he] at h1
    obtain ⟨a, ys, rfl, h2, h3⟩ := h1.lst_inv
    rw [h3.bools] at h2
    exact ⟨a, es, rfl, h2, q _ H (Same.refl H) (.bl _)⟩
  · cases hg
/-! ### calls by name -/
variable {a : Expr} {es : List Expr} {fs : DFs} {pos : Pos}
def callF (F : List PyData → Option PyData) (g : DFs) : DF := fun e => (g e).bind F
/-- the promise of a def that hands back data and leaves what stood: F of the arguments -/
def spD (K : PySem.W.Frag) (F : List PyData → Option PyData) : Sp := fun vs H Q _ => ∃ ds d, DpAll K H vs ds ∧ F ds = some d ∧ ∀ v H', Same H H' → Dp K H' v d → Q v H'
/-- the def x keeps the promise sp, by at most level k -/
structure Has (P : Program) (w : World) (K : PySem.W.Frag) (mg : Str → Option Value) (base : Heap) (k : Nat) (x : Str) (sp : Sp) : Prop where
  ex : ∃ (fa : Addr) (fd : FuncData) (ps : List Str), FnOk P w K mg base CX0 k fa fd ps sp ∧ mg x = some (.ref fa) ∧ PySem.W.keepIn K (.ref fa) = true ∧ Binds K fd ps []
theorem Has.mono {P : Program} {w : World} {K : PySem.W.Frag} {mg : Str → Option Value} {base : Heap} {j k : Nat} {x : Str} {sp : Sp} (h : Has P w K mg base j x sp) (hk : j ≤ k) : Has P w K mg base k x sp := by
  obtain ⟨fa, fd, ps, a, b, c, d⟩ := h
  exact ⟨fa, fd, ps, a.mono hk, b, c, d⟩
theorem Has.imp {P : Program} {w : World} {K : PySem.W.Frag} {mg : Str → Option Value} {base : Heap} {k : Nat} {x : Str} {sp sp' : Sp} (h : Has P w K mg base k x sp) (i : ∀ vs H Q E, sp' vs H Q E → sp vs H Q E) : Has P w K mg base k x sp' := by
  obtain ⟨fa, fd, ps, a, b, c, d⟩ := h
  exact ⟨fa, fd, ps, a.imp i, b, c, d⟩
theorem pe_has {k j : Nat} {x : Str} {sp : Sp} {p : Pos} {t : TA} (G : Has X.prog X.w X.K X.mg X.base k x sp) (hr : Room j X.A) (hg : Gl X x) (ha : PA X (a :: es) t) (hk : k ≤ j := by decide)
    (hd : (x == ("__debug__" : Str)) = false := by decide) (he : starEach (a :: es) X.env = (false, eval a X.env) :: starEach es X.env := by rfl) (hpl : (backTo pos (starEach es X.env)).any (·.1) = false := by rfl) : PE X (.Call (.Name x p) (a :: es) [] pos) (fun σ H Q => t σ H fun vs H1 => sp vs H1 Q E0) := by
  obtain ⟨fa, fd, ps, G, hm, hkp, hb⟩ := G.ex
  refine PE.imp (pe_call (CX := CX0) (E := E0) G (hr.mono hk) hg hm hkp hb .nil pass0 ha hd he hpl) fun σ H Q h => ?_
  show t σ H fun vs H1 => sp (vs ++ []) H1 Q E0
  have e : (fun (vs : List V) (H1 : Hp) => sp (vs ++ []) H1 Q E0) = fun vs H1 => sp vs H1 Q E0 := by
    funext vs H1
    rw [List.append_nil]
  rw [e]
  exact h
theorem pd_call {k j : Nat} {x : Str} {F : List PyData → Option PyData} {p : Pos} (G : Has X.prog X.w X.K X.mg X.base k x (spD X.K F)) (hr : Room j X.A) (hg : Gl X x) (ha : PAD X (a :: es) fs) (hk : k ≤ j := by decide)
    (hd : (x == ("__debug__" : Str)) = false := by decide) (he : starEach (a :: es) X.env = (false, eval a X.env) :: starEach es X.env := by rfl) (hpl : (backTo pos (starEach es X.env)).any (·.1) = false := by rfl) : PD X (.Call (.Name x p) (a :: es) [] pos) (callF F fs) :=
  PE.imp (pe_has G hr hg ha hk hd he hpl) fun σ H Q ⟨e, r, hs, he, k⟩ => by
    obtain ⟨ds, hds, he⟩ := Option.bind_eq_some_iff.mp he
    exact ⟨e, ds, hs, hds, fun vs H1 s1 d1 => ⟨ds, r, d1, he, fun v H2 s2 d2 => k v H2 (s1.trans s2) d2⟩⟩
theorem tCB_of {K : PySem.W.Frag} {g : List PyData → Option PyData} {σ : L2.St} {H : Hp} {Q : VK} (h : tD K (callF g fs) σ H Q) : tCB (rCD K g) (tDA K fs) σ H Q := by
  obtain ⟨e, d, hs, he, k⟩ := h
  obtain ⟨ds, hds, he⟩ := Option.bind_eq_some_iff.mp he
  exact ⟨e, ds, hs, hds, fun vs H1 s1 d1 => ⟨ds, d, d1, he, fun v H2 s2 d2 => k v H2 (s1.trans s2) d2⟩⟩
theorem pd_callB {id : String} {g : List PyData → Option PyData} {x : Str} {p : Pos} (c : CD X (.builtin id) g) (hg : Gl X x) (hm : X.mg x = none) (hv : bootBuiltins x = some (.builtin id)) (ha : PAD X (a :: es) fs) (hn : x ≠ "__name__" := by decide) (hdb : (x == ("__debug__" : Str)) = false := by decide)
    (he : starEach (a :: es) X.env = (false, eval a X.env) :: starEach es X.env := by rfl) (hpl : (backTo pos (starEach es X.env)).any (·.1) = false := by rfl) : PD X (.Call (.Name x p) (a :: es) [] pos) (callF g fs) :=
  PE.imp (pe_callB c hg hm hv ha hn hdb he hpl) fun _ _ _ h => tCB_of h
theorem pd_callT {T : String} {g : List PyData → Option PyData} {x : Str} {p : Pos} (c : CD X (.type T) g) (hg : Gl X x) (hm : X.mg x = none) (hv : bootBuiltins x = some (.type T)) (ha : PAD X (a :: es) fs) (hn : x ≠ "__name__" := by decide) (hdb : (x == ("__debug__" : Str)) = false := by decide)
    (he : starEach (a :: es) X.env = (false, eval a X.env) :: starEach es X.env := by rfl) (hpl : (backTo pos (starEach es X.env)).any (·.1) = false := by rfl) : PD X (.Call (.Name x p) (a :: es) [] pos) (callF g fs) :=
  PE.imp (pe_callTy c hg hm hv ha hn hdb he hpl) fun _ _ _ h => tCB_of h
end
end L2
end
section
set_option Elab.async false
set_option linter.all false
set_option maxRecDepth 100000
set_option maxHeartbeats 4000000
/-! D5: isinstance, targets, walks, comprehensions over data. -/
namespace L2
open PySem PySem.Spec PyProof.Rows StX RZ
section
variable {X : Cx}
/-! ### isinstance -/
def tyD : PyData → String
  | .none => "NoneType"
  | .bool _ => "bool"
  | .int _ => "int"
  | .str _ => "str"
  | .list _ => "list"
  | .tuple _ => "tuple"
  | .dict _ => "dict"
def isiB (t c : String) : Bool := t == c || (t == "bool" && c == "int")
theorem kit_all : (["NoneType", "bool", "int", "str", "list", "tuple"].all fun t => ["int", "bool", "str", "list", "tuple"].all fun c => decide (kitB t c = some (isiB t c))) = true := by decide +kernel
theorem kit_of_ty {d : PyData} {c : String} (hd : ∀ x, d ≠ .dict x) (hc : c ∈ ["int", "bool", "str", "list", "tuple"]) : kitB (tyD d) c = some (isiB (tyD d) c) := by
  have h : tyD d ∈ ["NoneType", "bool", "int", "str", "list", "tuple"] := by
    cases d <;> first | (exact absurd rfl (hd _)) | (simp [tyD])
  exact of_decide_eq_true (List.all_eq_true.mp (List.all_eq_true.mp kit_all _ h) _ hc)
theorem Dp.nodict {K : PySem.W.Frag} {H : Hp} {v : V} {d : PyData} (h : Dp K H v d) : ∀ x, d ≠ .dict x := by
  rintro x rfl
  cases h
theorem Dp.tyx {K : PySem.W.Frag} {H : Hp} {v : V} {d : PyData} (h : Dp K H v d) : TyX K H v (.type (tyD d)) := by
  cases h with
  | non => exact .base .non
  | bl b => exact .base (.bl b)
  | int i => exact .base (.int i)
  | str x => exact .base (.str x)
  | lst h1 h2 =>
    rcases h1 with (h1 | ⟨o, h1⟩) | ⟨o, its, n, h1, h2, _⟩
    · exact .base (.lst h1)
    · exact .base (.frz h1)
    · exact .kList h1 h2
  | tup h1 h2 =>
    rcases h1 with (h1 | ⟨o, h1⟩) | ⟨o, its, n, h1, h2, _⟩
    · exact .base (.tup h1)
    · exact .fTuple h1
    · exact .kTuple h1 h2
variable {a : Expr} {f : DF} {pos : Pos}
def isiF (c : String) (f : DF) : DF := fun e => (f e).map fun d => .bool (isiB (tyD d) c)
theorem pd_isi {c : String} {x : Str} {p p2 : Pos} (hg : Gl X "isinstance") (hm : X.mg "isinstance" = none) (hg2 : Gl X x) (hm2 : X.mg x = none) (hv : bootBuiltins x = some (.type c)) (hc : c ∈ ["int", "bool", "str", "list", "tuple"]) (ha : PD X a f)
    (hn : x ≠ "__name__" := by decide) (hdb : (x == ("__debug__" : Str)) = false := by decide) (he : starEach [a, .Name x p2] X.env = (false, eval a X.env) :: starEach [.Name x p2] X.env := by rfl) (he2 : starEach [.Name x p2] X.env = (false, eval (.Name x p2) X.env) :: starEach [] X.env := by rfl) (hpl : (backTo pos (starEach [.Name x p2] X.env)).any (·.1) = false := by rfl) :
    PD X (.Call (.Name "isinstance" p) [a, .Name x p2] [] pos) (isiF c f) :=
  PE.imp (pe_callB call_isi hg hm (by decide +kernel) (pa_cons ha (pa_cons (pe_bltn (v := .ty c) hg2 hm2 hv rfl hn hdb) pa_nil he2) he) (he := he) (hpl := hpl)) fun σ H Q ⟨e, r, hs, he, k⟩ => by
    obtain ⟨d, hd, rfl⟩ := Option.map_eq_some_iff.mp he
    refine ⟨e, d, hs, hd, fun v H1 s1 d1 => ⟨v, .ty c, .type (tyD d), .type c, isiB (tyD d) c, rfl, .ty c, d1.tyx, kit_ty (kit_of_ty d1.nodict hc), k _ H1 s1 (.bl _)⟩⟩
/-- isinstance(x, (c1, c2)) -/
def isiF2 (c1 c2 : String) (f : DF) : DF := fun e => (f e).map fun d => .bool (isiB (tyD d) c1 || isiB (tyD d) c2)
theorem pd_isi2 {c1 c2 : String} {x1 x2 : Str} {p p1 p2 p3 : Pos} {kk} (hg : Gl X "isinstance") (hm : X.mg "isinstance" = none) (hg1 : Gl X x1) (hm1 : X.mg x1 = none) (hv1 : bootBuiltins x1 = some (.type c1)) (hc1 : c1 ∈ ["int", "bool", "str", "list", "tuple"])
    (hg2 : Gl X x2) (hm2 : X.mg x2 = none) (hv2 : bootBuiltins x2 = some (.type c2)) (hc2 : c2 ∈ ["int", "bool", "str", "list", "tuple"]) (ha : PD X a f)
    (hn1 : x1 ≠ "__name__" := by decide) (hdb1 : (x1 == ("__debug__" : Str)) = false := by decide) (hn2 : x2 ≠ "__name__" := by decide) (hdb2 : (x2 == ("__debug__" : Str)) = false := by decide)
    (he : starEach [a, .Tuple [.Name x1 p1, .Name x2 p2] kk p3] X.env = (false, eval a X.env) :: starEach [.Tuple [.Name x1 p1, .Name x2 p2] kk p3] X.env := by rfl) :
    PD X (.Call (.Name "isinstance" p) [a, .Tuple [.Name x1 p1, .Name x2 p2] kk p3] [] pos) (isiF2 c1 c2 f) :=
  PE.imp (pe_callB call_isiT hg hm (by decide +kernel) (pa_cons ha (pa_cons (pe_tup (pa_cons (pe_bltn (v := .ty c1) hg1 hm1 hv1 rfl hn1 hdb1) (pa_cons (pe_bltn (v := .ty c2) hg2 hm2 hv2 rfl hn2 hdb2) pa_nil))) pa_nil) he) (he := he)) fun σ H Q ⟨e, r, hs, he, k⟩ => by
    obtain ⟨d, hd, rfl⟩ := Option.map_eq_some_iff.mp he
    refine ⟨e, d, hs, hd, fun v H1 s1 d1 => ⟨by show 2 ≤ sizeLine; decide, fun t ht => ?_⟩⟩
    have d2 := Dp.same (same_new (o := .tup [V.ty c1, V.ty c2]) ht) _ _ d1
    refine ⟨v, t, [.ty c1, .ty c2], .type (tyD d), [.type c1, .type c2], _, rfl, upd_same, .cons (.ty c1) (.cons (.ty c2) .nil), d2.tyx, kitAny_cons (kit_ty (kit_of_ty d1.nodict hc1)) (fun q => kitAny_cons (kit_ty (kit_of_ty d1.nodict hc2)) (fun q2 => ?_) (fun q2 => ?_)) (fun q => ?_), k _ _ (s1.trans (same_new ht)) (.bl _)⟩
    · rw [kitAny_nil, q, q2]; rfl
    · rw [q2, Bool.or_true]
    · rw [q, Bool.true_or]
/-! ### targets -/
abbrev Bd := PyData → DEnv → Option DEnv
abbrev Bds := List PyData → DEnv → Option DEnv
def WipeOk (js : List Nat) (σ σ' : L2.St) : Prop := ∀ vs : List Nat, (∀ j ∈ js, j ∈ vs) → wipe σ' vs = wipe σ vs
def tGD (K : PySem.W.Frag) (bd : Bd) (js : List Nat) : TG := fun v σ H Q => ∃ d e e', SD K H σ e ∧ Dp K H v d ∧ bd d e = some e' ∧ ∀ σ', SD K H σ' e' → WipeOk js σ σ' → Q σ' H
def tGDs (K : PySem.W.Frag) (bd : Bds) (js : List Nat) : TGs := fun vs σ H Q => ∃ ds e e', SD K H σ e ∧ DpAll K H vs ds ∧ bd ds e = some e' ∧ ∀ σ', SD K H σ' e' → WipeOk js σ σ' → Q σ' H
abbrev PGD (X : Cx) (tg : Expr) (bd : Bd) (js : List Nat) : Prop := PG X tg (tGD X.K bd js)
abbrev PGDs (X : Cx) (tg : List Expr) (bd : Bds) (js : List Nat) : Prop := PGs X tg (tGDs X.K bd js)
def bdName (i : Nat) : Bd := fun d e => some (e.set i (some d))
def bdsNil : Bds := fun ds e => match ds with
  | [] => some e
  | _ => none
def bdsCons (b : Bd) (r : Bds) : Bds := fun ds e => match ds with
  | d :: ds => (b d e).bind fun e1 => r ds e1
  | [] => none
def bdTup (n : Nat) (r : Bds) : Bd := fun d e => match d with
  | .tuple ds => if ds.length = n then r ds e else none
  | _ => none
theorem wipe_get {σ : L2.St} {i : Nat} : ∀ {vs : List Nat}, (wipe σ vs)[i]? = if i ∈ vs ∧ i < σ.length then some none else σ[i]?
  | [] => by simp [wipe]
  | v :: vs => by
    unfold wipe
    by_cases h : v = i
    · subst h
      by_cases hl : v < σ.length
      · rw [List.getElem?_set_self (by rw [wipe_length]; exact hl), if_pos ⟨by simp, hl⟩]
      · rw [List.set_eq_of_length_le (by rw [wipe_length]; omega), wipe_get (vs := vs), if_neg (fun q => hl q.2), if_neg (fun q => hl q.2)]
    · rw [List.getElem?_set_ne h, wipe_get (vs := vs)]
      have e : (i ∈ v :: vs) ↔ i ∈ vs := by simp [Ne.symm h]
      by_cases q : i ∈ vs ∧ i < σ.length
      · rw [if_pos q, if_pos ⟨e.mpr q.1, q.2⟩]
      · rw [if_neg q, if_neg (fun z => q ⟨e.mp z.1, z.2⟩)]
theorem wipe_set {σ : L2.St} {i : Nat} {o : Option V} {vs : List Nat} (h : i ∈ vs) : wipe (σ.set i o) vs = wipe σ vs := by
  apply List.ext_getElem?
  intro j
  rw [wipe_get, wipe_get, List.length_set]
  by_cases q : j ∈ vs ∧ j < σ.length
  · rw [if_pos q, if_pos q]
  · rw [if_neg q, if_neg q]
    by_cases hij : i = j
    · subst hij
      have : ¬ i < σ.length := fun z => q ⟨h, z⟩
      rw [List.set_eq_of_length_le (by omega)]
    · rw [List.getElem?_set_ne hij]
theorem wipe_idem {σ : L2.St} {vs : List Nat} : wipe (wipe σ vs) vs = wipe σ vs := by
  apply List.ext_getElem?
  intro j
  rw [wipe_get (vs := vs), wipe_length]
  by_cases q : j ∈ vs ∧ j < σ.length
  · rw [if_pos q, wipe_get, if_pos q]
  · rw [if_neg q]
theorem WipeOk.refl (σ : L2.St) : WipeOk [] σ σ := fun _ _ => rfl
theorem WipeOk.trans {js ks : List Nat} {σ σ1 σ2 : L2.St} (a : WipeOk js σ σ1) (b : WipeOk ks σ1 σ2) : WipeOk (js ++ ks) σ σ2 := fun vs h => (b vs fun j hj => h j (List.mem_append_right _ hj)).trans (a vs fun j hj => h j (List.mem_append_left _ hj))
theorem pgd_name (i : Nat) {x : Str} {pos : Pos} (hN : X.N.Nodup) (hi : X.N[i]? = some x := by rfl) (hx : Loc X.env.scope x := by first | exact Or.inl rfl | exact Or.inr rfl) (hf : X.fn x = true ∨ X.env.scope.names.lookup x = some .local := by first | exact .inl rfl | exact .inr rfl | assumption) : PGD X (.Name x pos) (bdName i) [i] :=
  PG.imp (pg_name (i := i) hN hi hx hf) fun v σ H Q ⟨d, e, e', hs, hd, hb, k⟩ => by
    cases hb
    exact k _ (hs.set i hd) fun vs h => wipe_set (h i (by simp))
theorem pgds_nil : PGDs X [] bdsNil [] := PGs.imp pgs_nil fun vs σ H Q ⟨ds, e, e', hs, hd, hb, k⟩ => by
  unfold bdsNil at hb
  split at hb
  · cases hb
    cases hd
    exact ⟨rfl, k σ hs (WipeOk.refl σ)⟩
  · cases hb
theorem pgds_cons {t : Expr} {ts : List Expr} {b : Bd} {r : Bds} {js ks : List Nat} (h1 : PGD X t b js) (h2 : PGDs X ts r ks) (hs : (assignEach (t :: ts) X.env).map (·.2) = assign t X.env :: (assignEach ts X.env).map (·.2) := by rfl) : PGDs X (t :: ts) (bdsCons b r) (js ++ ks) :=
  PGs.imp (pgs_cons h1 h2 hs) fun vs σ H Q ⟨ds, e, e', hs, hd, hb, k⟩ => by
    unfold bdsCons at hb
    split at hb
    · obtain ⟨e1, h1, hb⟩ := Option.bind_eq_some_iff.mp hb
      cases hd with
      | cons hd1 hd2 => exact ⟨_, _, rfl, _, e, e1, hs, hd1, h1, fun σ1 s1 w1 => ⟨_, e1, e', s1, hd2, hb, fun σ2 s2 w2 => k σ2 s2 (w1.trans w2)⟩⟩
    · cases hb
theorem pgd_tup {es : List Expr} {kk : Nat} {r : Bds} {js : List Nat} {n : Nat} (hc : X.calm = true) (h : PGDs X es r js) (hn : (assignEach es X.env).length = n := by rfl) (hst : (assignEach es X.env).findIdx? (·.1) = none := by rfl) : PGD X (.Tuple es kk pos) (bdTup n r) js :=
  PG.imp (pg_tup hc h hn hst) fun v σ H Q ⟨d, e, e', hs, hd, hb, k⟩ => by
    unfold bdTup at hb
    split at hb
    · split at hb
      · rename_i z
        obtain ⟨a, xs, rfl, h1, h2⟩ := hd.tup_inv
        exact ⟨a, xs, rfl, h1, h2.length.trans z, _, e, e', hs, h2, hb, k⟩
      · cases hb
    · cases hb
/-! ### walks -/
structure WD (K : PySem.W.Frag) (J : It) (H1 : Hp) (ds : List PyData) : Prop where
  go : ∀ i H, Same H1 H → i < ds.length → J.go i H
  stop : ∀ H, Same H1 H → J.stop ds.length H
  yld : ∀ i H x H', Same H1 H → J.yld i H x H' → ∀ d, ds[i]? = some d → Same H H' ∧ Dp K H' x d
def iD (K : PySem.W.Frag) (fi : DFs) : TI := fun σ H R => ∃ e ds, SD K H σ e ∧ fi e = some ds ∧ ∀ J H1, Same H H1 → WD K J H1 ds → R J H1
abbrev PID (X : Cx) (tg iter : Expr) (fi : DFs) : Prop := PI X tg iter (iD X.K fi)
def listI (f : DF) : DFs := fun e => (f e).bind fun d => match d with
  | .list ds => some ds
  | _ => none
def tupI (f : DF) : DFs := fun e => (f e).bind fun d => match d with
  | .tuple ds => some ds
  | _ => none
theorem pid_list {tg : Expr} (h : PD X a f) : PID X tg a (listI f) := PI.imp (pi_list h) fun σ H R ⟨e, ds, hs, he, k⟩ => by
  obtain ⟨d, hd, he⟩ := Option.bind_eq_some_iff.mp he
  refine ⟨e, d, hs, hd, fun v H1 s1 d1 => ?_⟩
  split at he
  · cases he
    obtain ⟨p, xs, rfl, h1, h2⟩ := d1.lst_inv
    refine ⟨p, rfl, ⟨xs, h1⟩, k _ H1 s1 ⟨fun i H e hi => ?_, fun H e => ⟨xs, e.seq h1, by rw [h2.length]; exact Nat.le_refl _⟩, fun i H x H' e y d' hd' => ?_⟩⟩
    · exact ⟨xs, xs[i]'(by rw [h2.length]; exact hi), e.seq h1, by simp⟩
    · obtain ⟨rfl, y⟩ := y
      obtain ⟨v, hv, hdv⟩ := h2.get hd'
      have := y xs (e.seq h1)
      rw [hv] at this
      cases this
      exact ⟨Same.refl _, Dp.same e _ _ hdv⟩
  · cases he
theorem pid_tup {tg : Expr} (h : PD X a f) : PID X tg a (tupI f) := PI.imp (pi_tup h) fun σ H R ⟨e, ds, hs, he, k⟩ => by
  obtain ⟨d, hd, he⟩ := Option.bind_eq_some_iff.mp he
  refine ⟨e, d, hs, hd, fun v H1 s1 d1 => ?_⟩
  split at he
  · cases he
    obtain ⟨p, xs, rfl, h1, h2⟩ := d1.tup_inv
    refine ⟨p, rfl, ⟨xs, h1⟩, k _ H1 s1 ⟨fun i H e hi => ?_, fun H e => ⟨xs, sqT_same e h1, by rw [h2.length]; exact Nat.le_refl _⟩, fun i H x H' e y d' hd' => ?_⟩⟩
    · exact ⟨xs, xs[i]'(by rw [h2.length]; exact hi), sqT_same e h1, by simp⟩
    · obtain ⟨rfl, y⟩ := y
      obtain ⟨v, hv, hdv⟩ := h2.get hd'
      have := y xs (sqT_same e h1)
      rw [hv] at this
      cases this
      exact ⟨Same.refl _, Dp.same e _ _ hdv⟩
  · cases he
def zipL : List PyData → List PyData → List PyData
  | x :: xs, y :: ys => .tuple [x, y] :: zipL xs ys
  | _, _ => []
theorem zipL_length : ∀ xs ys : List PyData, (zipL xs ys).length = min xs.length ys.length
  | [], ys => by simp [zipL]
  | x :: xs, [] => by simp [zipL]
  | x :: xs, y :: ys => by simp [zipL, zipL_length xs ys, Nat.succ_min_succ]
theorem zipL_get : ∀ {xs ys : List PyData} {i : Nat} {d : PyData}, (zipL xs ys)[i]? = some d → ∃ x y, xs[i]? = some x ∧ ys[i]? = some y ∧ d = .tuple [x, y]
  | [], _, _, _, h => by simp [zipL] at h
  | _ :: _, [], _, _, h => by simp [zipL] at h
  | x :: xs, y :: ys, 0, d, h => by simp [zipL] at h; exact ⟨x, y, rfl, rfl, h.symm⟩
  | x :: xs, y :: ys, i + 1, d, h => by
    simp only [zipL, List.getElem?_cons_succ] at h
    obtain ⟨u, w, h1, h2, h3⟩ := zipL_get h
    exact ⟨u, w, by simpa using h1, by simpa using h2, h3⟩
/-- zip of two lists, of two tuples -/
def zipI (f : DFs) : DFs := fun e => (f e).bind fun ds => match ds with
  | [.list xs, .list ys] => some (zipL xs ys)
  | [.tuple xs, .tuple ys] => some (zipL xs ys)
  | _ => none
theorem pair_dp {K : PySem.W.Frag} {H : Hp} {T : Addr} {x y : V} {d e : PyData} (hT : H T = none) (h1 : Dp K H x d) (h2 : Dp K H y e) : Dp K (upd H T (.tup [x, y])) (.ref T) (.tuple [d, e]) :=
  .tup (.inl (.inl upd_same)) (.cons (Dp.same (same_new hT) _ _ h1) (.cons (Dp.same (same_new hT) _ _ h2) .nil))
theorem pid_zip {a2 : Expr} {fs : DFs} {p tpos : Pos} {elts : List Expr} {kk : Nat} (hg : Gl X "zip") (hm : X.mg "zip" = none) (ha : PAD X [a, a2] fs) (hs : starEach [a, a2] X.env = (false, eval a X.env) :: starEach [a2] X.env := by rfl) (hpl : (backTo pos (starEach [a2] X.env)).any (·.1) = false := by rfl) :
    PID X (.Tuple elts kk tpos) (.Call (.Name "zip" p) [a, a2] [] pos) (zipI fs) := PI.imp (pi_zipA hg hm ha hs hpl) fun σ H R ⟨e, ds, hs, he, k⟩ => by
  obtain ⟨d, hd, he⟩ := Option.bind_eq_some_iff.mp he
  refine ⟨e, d, hs, hd, fun vs H1 s1 d1 => ?_⟩
  split at he
  · rename_i us ws
    cases he
    obtain ⟨v, w, rfl, g1, g2⟩ := dpAll2 d1
    obtain ⟨p, xs, rfl, h1, h2⟩ := g1.lst_inv
    obtain ⟨q, ys, rfl, h3, h4⟩ := g2.lst_inv
    refine ⟨p, q, xs, ys, rfl, .inl ⟨h1, h3, k _ H1 s1 ⟨fun i H e hi => ?_, fun H e => ⟨xs, ys, e.seq h1, e.seq h3, ?_⟩, fun i H x H' e y d' hd' => ?_⟩⟩⟩
    · rw [zipL_length] at hi
      exact ⟨xs, ys, xs[i]'(by rw [h2.length]; omega), ys[i]'(by rw [h4.length]; omega), e.seq h1, e.seq h3, by simp, by simp⟩
    · rw [zipL_length, h2.length, h4.length]; omega
    · obtain ⟨T, x1, y1, rfl, hT, rfl, f1, f2⟩ := y
      obtain ⟨u, w, e1, e2, rfl⟩ := zipL_get hd'
      obtain ⟨v1, hv1, dv1⟩ := h2.get e1
      obtain ⟨v2, hv2, dv2⟩ := h4.get e2
      have q1 := f1 xs (e.seq h1)
      have q2 := f2 ys (e.seq h3)
      rw [hv1] at q1
      rw [hv2] at q2
      cases q1
      cases q2
      exact ⟨same_new hT, pair_dp hT (Dp.same e _ _ dv1) (Dp.same e _ _ dv2)⟩
  · rename_i us ws
    cases he
    obtain ⟨v, w, rfl, g1, g2⟩ := dpAll2 d1
    obtain ⟨p, xs, rfl, h1, h2⟩ := g1.tup_inv
    obtain ⟨q, ys, rfl, h3, h4⟩ := g2.tup_inv
    refine ⟨p, q, xs, ys, rfl, .inr ⟨h1, h3, k _ H1 s1 ⟨fun i H e hi => ?_, fun H e => ⟨xs, ys, sqT_same e h1, sqT_same e h3, ?_⟩, fun i H x H' e y d' hd' => ?_⟩⟩⟩
    · rw [zipL_length] at hi
      exact ⟨xs, ys, xs[i]'(by rw [h2.length]; omega), ys[i]'(by rw [h4.length]; omega), sqT_same e h1, sqT_same e h3, by simp, by simp⟩
    · rw [zipL_length, h2.length, h4.length]; omega
    · obtain ⟨T, x1, y1, rfl, hT, rfl, f1, f2⟩ := y
      obtain ⟨u, w, e1, e2, rfl⟩ := zipL_get hd'
      obtain ⟨v1, hv1, dv1⟩ := h2.get e1
      obtain ⟨v2, hv2, dv2⟩ := h4.get e2
      have q1 := f1 xs (sqT_same e h1)
      have q2 := f2 ys (sqT_same e h3)
      rw [hv1] at q1
      rw [hv2] at q2
      cases q1
      cases q2
      exact ⟨same_new hT, pair_dp hT (Dp.same e _ _ dv1) (Dp.same e _ _ dv2)⟩
  · cases he
/-- range(n) -/
def rangeL : Nat → List PyData := fun n => (List.range n).map fun i => .int (i : Nat)
def rangeI (f : DFs) : DFs := fun e => (f e).bind fun ds => match ds with
  | [.int j] => if j < 1000000 ∧ -1000000 < j then some (rangeL j.toNat) else none
  | _ => none
theorem pid_range {tg : Expr} {fs : DFs} {p : Pos} (hg : Gl X "range") (hm : X.mg "range" = none) (ha : PAD X [a] fs) (hs : starEach [a] X.env = [(false, eval a X.env)] := by rfl) : PID X tg (.Call (.Name "range" p) [a] [] pos) (rangeI fs) := PI.imp (pi_range1 hg hm ha hs) fun σ H R ⟨e, ds, hs, he, k⟩ => by
  obtain ⟨d, hd, he⟩ := Option.bind_eq_some_iff.mp he
  refine ⟨e, d, hs, hd, fun vs H1 s1 d1 => ?_⟩
  split at he
  · rename_i j
    split at he
    · rename_i z
      cases he
      obtain ⟨v, rfl, g1⟩ := dpAll1 d1
      have hl : (rangeL j.toNat).length = j.toNat := by simp [rangeL]
      refine ⟨j, by rw [g1.int_inv], by omega, by omega, k _ H1 s1 ⟨fun i H _ hi => by rw [hl] at hi; exact hi, fun H _ => by rw [hl]; exact Nat.le_refl _, fun i H x H' _ y d' hd' => ?_⟩⟩
      obtain ⟨rfl, rfl⟩ := y
      refine ⟨Same.refl _, ?_⟩
      unfold rangeL at hd'
      rw [List.getElem?_map] at hd'
      obtain ⟨m, hm, rfl⟩ := Option.map_eq_some_iff.mp hd'
      obtain ⟨_, rfl⟩ := List.getElem?_eq_some_iff.mp hm
      rw [List.getElem_range, Int.zero_add]
      exact .int _
    · cases he
  · cases he
end
end L2
end
section
set_option Elab.async false
set_option linter.all false
set_option maxRecDepth 100000
set_option maxHeartbeats 4000000
/-! D6: comprehensions over data. -/
namespace L2
open PySem PySem.Spec PyProof.Rows StX RZ
section
variable {X : Cx}
abbrev PTsD (X : Cx) (ifs : List Expr) (p : DFB) : Prop := PTs X ifs (tDT X.K p)
theorem PTs.imp {e : List Expr} {t t' : TT} (h : PTs X e t) (i : ∀ σ H Q, t' σ H Q → t σ H Q) : PTs X e t' := ⟨fun pins s σ H Q I q => h.run pins s σ H Q I (i _ _ _ q)⟩
def yesB : DFB := fun _ => some true
theorem ptsd_nil : PTsD X [] yesB := PTs.imp pts_nil fun σ H Q ⟨e, b, hs, he, k⟩ => by
  cases he
  exact k H (Same.refl H)
theorem ptsd_one {c : Expr} {p : DFB} (h : PTD X c p) : PTsD X [c] p := pts_one h
/-- a new list of data -/
def tDF (K : PySem.W.Frag) (f : DFs) : TE := fun σ H Q => ∃ e ds, SD K H σ e ∧ f e = some ds ∧ ∀ p vs H', H p = none → Same H H' → H' p = some (.lst vs) → DpAll K H' vs ds → Q (.ref p) H'
def asL (f : DFs) : DF := fun e => (f e).map fun ds => .list ds
theorem tDF_of {K : PySem.W.Frag} {f : DFs} {σ : L2.St} {H : Hp} {Q : VK} (h : tD K (asL f) σ H Q) : tDF K f σ H Q := by
  obtain ⟨e, d, hs, he, k⟩ := h
  obtain ⟨ds, hds, rfl⟩ := Option.map_eq_some_iff.mp he
  exact ⟨e, ds, hs, hds, fun p vs H' hp s hl hd => k _ H' s (.lst (.inl (.inl hl)) hd)⟩
def compD (bd : Bd) (ft : DFB) (fe : DF) (e0 : DEnv) : List PyData → Option (List PyData)
  | [] => some []
  | d :: r => (bd d e0).bind fun e1 => (ft e1).bind fun b => if b = true then (fe e1).bind fun y => if nl y = true then (compD bd ft fe e0 r).map (y :: ·) else none else compD bd ft fe e0 r
def compF (fi : DFs) (bd : Bd) (vs : List Nat) (ft : DFB) (fe : DF) : DFs := fun e => (fi e).bind fun ds => if small ds.length = true then compD bd ft fe (wipeE e vs) ds else none
theorem SD.len {K : PySem.W.Frag} {H : Hp} {σ : L2.St} {e : DEnv} (h : SD K H σ e) : σ.length = e.length := h.1
/-- where a comprehension stands: i items gone -/
structure LcAt (K : PySem.W.Frag) (bd : Bd) (ft : DFB) (fe : DF) (e0 : DEnv) (ds : List PyData) (all : List PyData) (H1 : Hp) (D : Addr) (i : Nat) (H : Hp) : Prop where
  same : Same H1 H
  at_ : ∃ acc outs rest, H D = some (.lst acc) ∧ DpAll K H acc outs ∧ nlAll outs = true ∧ acc.length ≤ i ∧ compD bd ft fe e0 (ds.drop i) = some rest ∧ all = outs ++ rest
theorem nlAll_snoc : ∀ {xs : List PyData} {y : PyData}, nlAll xs = true → nl y = true → nlAll (xs ++ [y]) = true
  | [], y, _, h => by simp [nlAll, h]
  | x :: xs, y, h, h2 => by
    rw [List.cons_append, nlAll, (nl_cons h).1, nlAll_snoc (nl_cons h).2 h2]; rfl
theorem nlAll_append : ∀ {xs ys : List PyData}, nlAll xs = true → nlAll ys = true → nlAll (xs ++ ys) = true
  | [], _, _, h => h
  | x :: xs, y, h, h2 => by
    rw [List.cons_append, nlAll, (nl_cons h).1, nlAll_append (nl_cons h).2 h2]; rfl
theorem drop_get {α : Type} {xs : List α} {i : Nat} (h : i < xs.length) : xs.drop i = xs[i] :: xs.drop (i + 1) := List.drop_eq_getElem_cons h
theorem lc_data {K : PySem.W.Frag} {fi : DFs} {bd : Bd} {js vs : List Nat} {ft : DFB} {fe : DF} (hj : ∀ j ∈ js, j ∈ vs) {σ : L2.St} {H : Hp} {Q : VK} (h : tDF K (compF fi bd vs ft fe) σ H Q) : tLc (iD K fi) (tGD K bd js) (tDT K ft) (tD K fe) vs σ H Q := by
  obtain ⟨e, all, hs, he, k⟩ := h
  obtain ⟨ds, hds, he⟩ := Option.bind_eq_some_iff.mp he
  split at he
  · rename_i hsm
    refine ⟨e, ds, hs, hds, fun J H1 s1 w1 D hD => ?_⟩
    have hDH : H D = none := s1.free hD
    refine ⟨fun i m H' => m = ds.length - i ∧ i ≤ ds.length ∧ LcAt K bd ft fe (wipeE e vs) ds all H1 D i H', ⟨ds.length, by simp, Nat.zero_le _, same_new hD, [], [], all, upd_same, .nil, rfl, Nat.le_refl _, he, rfl⟩, ?_⟩
    rintro i m H' ⟨rfl, hi, sm, acc, outs, rest, ha, hda, hn, hl, hc, rfl⟩
    by_cases hlt : i < ds.length
    · refine .inr ⟨w1.go i H' sm hlt, LcAt K bd ft fe (wipeE e vs) ds (outs ++ rest) H1 D (i + 1), fun H2 p => ⟨ds.length - (i + 1), by omega, rfl, hlt, p⟩, fun x H2 y => ?_⟩
      obtain ⟨s2, dx⟩ := w1.yld i H' x H2 sm y ds[i] (List.getElem?_eq_getElem hlt)
      rw [drop_get hlt] at hc
      obtain ⟨e1, hb, hc⟩ := Option.bind_eq_some_iff.mp hc
      obtain ⟨b, hft, hc⟩ := Option.bind_eq_some_iff.mp hc
      have sm2 := sm.trans s2
      refine ⟨ds[i], wipeE e vs, e1, (hs.same (s1.trans sm2)).wipe vs, dx, hb, fun σ2 hs2 hw => ⟨(hw vs hj).trans wipe_idem, e1, b, hs2, hft, fun H3 s3 => ?_⟩⟩
      cases b with
      | true =>
        obtain ⟨y', hfe, hc⟩ := Option.bind_eq_some_iff.mp hc
        split at hc
        · rename_i hny
          obtain ⟨rest', hc', rfl⟩ := Option.map_eq_some_iff.mp hc
          refine iteT ⟨e1, y', hs2.same s3, hfe, fun v H4 s4 dv => ?_⟩
          have s24 := s2.trans (s3.trans s4)
          have hD4 : H4 D = some (.lst acc) := s24 D _ ha
          refine ⟨acc, hD4, by have := of_decide_eq_true hsm; rw [sizeLine_eq]; omega, fun b o q => ?_, acc ++ [v], outs ++ [y'], rest', upd_same, ?_, nlAll_snoc hn hny, by rw [List.length_append]; simp; omega, hc', by simp⟩
          · have q1 := (sm.trans s24) b o q
            rw [upd_ne (ne_of_none q hD)]
            exact q1
          · exact DpAll.snoc (DpAll.tsame (TSame.lst hD4) _ _ hn (DpAll.same s24 _ _ hda)) (Dp.tsame (TSame.lst hD4) _ _ hny dv)
        · cases hc
      | false =>
        refine iteF ⟨sm2.trans s3, acc, outs, rest, (s2.trans s3) D _ ha, DpAll.same (s2.trans s3) _ _ hda, hn, by omega, ?_, rfl⟩
        exact hc
    · have e0 : i = ds.length := by omega
      subst e0
      rw [List.drop_length] at hc
      cases hc
      refine .inl ⟨w1.stop H' sm, ?_⟩
      rw [List.append_nil] at k
      exact k D acc H' hDH (s1.trans sm) ha hda
  · cases he
variable {elt tg iter : Expr} {ifs : List Expr} {scope : Scope} {own : List (Str × Nat)} {pos : Pos} {fi : DFs} {bd : Bd} {js : List Nat} {ft : DFB} {fe : DF}
theorem pf_lc (hc : X.calm = true) (hN : X.N.Nodup) (hi : PID X tg iter fi) (ok : BlkOk X.N X.env.scope scope own)
    (hg : ∀ (s : Shared) (H : Hp) (C : Addr) (cl : List (Str × Addr)) (fp : List Addr), PGD (X.blk s H scope (compEnvC scope cl C X.env) fp) tg bd js) (ht : ∀ (s : Shared) (H : Hp) (C : Addr) (cl : List (Str × Addr)) (fp : List Addr), PTsD (X.blk s H scope (compEnvC scope cl C X.env) fp) ifs ft)
    (he : ∀ (s : Shared) (H : Hp) (C : Addr) (cl : List (Str × Addr)) (fp : List Addr), PD (X.blk s H scope (compEnvC scope cl C X.env) fp) elt fe) (hj : ∀ j ∈ js, j ∈ own.map (·.2) := by decide) (hs : ∀ x, foldedSetIterable iter X.env x = pure x := by intro _; rfl) :
    PE X (.ListComp elt [⟨tg, iter, ifs, 0⟩] scope pos) (tDF X.K (compF fi bd (own.map (·.2)) ft fe)) := PE.imp (pe_lc hc hN hi ok hg ht he hs) fun σ H Q h => lc_data hj h
theorem pd_lc (hc : X.calm = true) (hN : X.N.Nodup) (hi : PID X tg iter fi) (ok : BlkOk X.N X.env.scope scope own)
    (hg : ∀ (s : Shared) (H : Hp) (C : Addr) (cl : List (Str × Addr)) (fp : List Addr), PGD (X.blk s H scope (compEnvC scope cl C X.env) fp) tg bd js) (ht : ∀ (s : Shared) (H : Hp) (C : Addr) (cl : List (Str × Addr)) (fp : List Addr), PTsD (X.blk s H scope (compEnvC scope cl C X.env) fp) ifs ft)
    (he : ∀ (s : Shared) (H : Hp) (C : Addr) (cl : List (Str × Addr)) (fp : List Addr), PD (X.blk s H scope (compEnvC scope cl C X.env) fp) elt fe) (hj : ∀ j ∈ js, j ∈ own.map (·.2) := by decide) (hs : ∀ x, foldedSetIterable iter X.env x = pure x := by intro _; rfl) :
    PD X (.ListComp elt [⟨tg, iter, ifs, 0⟩] scope pos) (asL (compF fi bd (own.map (·.2)) ft fe)) := PE.imp (pf_lc hc hN hi ok hg ht he hj hs) fun σ H Q h => tDF_of h
/-! ### two fors (no tests), the inner one over a tuple -/
def nlEnv (e : DEnv) : Bool := e.all fun o => match o with
  | some d => nl d
  | none => true
theorem SD.tsame {K : PySem.W.Frag} {H H' : Hp} {σ : L2.St} {e : DEnv} (h : SD K H σ e) (n : nlEnv e = true) (t : TSame H H') : SD K H' σ e := ⟨h.1, fun i d q => by
  obtain ⟨v, a, b⟩ := h.2 i d q
  exact ⟨v, a, Dp.tsame t d v (List.all_eq_true.mp n _ (List.mem_of_getElem? (gv_some q))) b⟩⟩
def comp2D (f1 : DF) (bd bd1 : Bd) (vs1 : List Nat) (fe : DF) (e0 : DEnv) : List PyData → Option (List PyData)
  | [] => some []
  | d :: r => (bd d e0).bind fun e1 => (f1 e1).bind fun t => match t with
    | .tuple ds => if nlEnv e1 = true ∧ nlAll ds = true then (compD bd1 yesB fe (wipeE e1 vs1) ds).bind fun xs => (comp2D f1 bd bd1 vs1 fe e0 r).bind fun ys => some (xs ++ ys) else none
    | _ => none
def comp2F (fi : DFs) (f1 : DF) (bd bd1 : Bd) (vs vs1 : List Nat) (fe : DF) : DFs := fun e => (fi e).bind fun ds => (comp2D f1 bd bd1 vs1 fe (wipeE e vs) ds).bind fun xs => if small xs.length = true then some xs else none
theorem compD_len {bd : Bd} {ft : DFB} {fe : DF} {e0 : DEnv} : ∀ {ds xs : List PyData}, compD bd ft fe e0 ds = some xs → xs.length ≤ ds.length
  | [], xs, h => by cases h; exact Nat.le_refl _
  | d :: r, xs, h => by
    obtain ⟨e1, hb, h⟩ := Option.bind_eq_some_iff.mp h
    obtain ⟨b, hft, h⟩ := Option.bind_eq_some_iff.mp h
    cases b with
    | true =>
      obtain ⟨y', hfe, h⟩ := Option.bind_eq_some_iff.mp h
      split at h
      · obtain ⟨rest', h', rfl⟩ := Option.map_eq_some_iff.mp h
        have := compD_len h'
        simp
        omega
      · cases h
    | false =>
      have := compD_len (show compD bd ft fe e0 r = some xs from h)
      simp
      omega
theorem lc2_data {K : PySem.W.Frag} {fi : DFs} {f1 : DF} {bd bd1 : Bd} {js js1 vs vs1 : List Nat} {fe : DF} (hj : ∀ j ∈ js, j ∈ vs) (hj1 : ∀ j ∈ js1, j ∈ vs1) {σ : L2.St} {H : Hp} {Q : VK} (h : tDF K (comp2F fi f1 bd bd1 vs vs1 fe) σ H Q) :
    tLc2 (iD K fi) (tGD K bd js) tYes (iTup K (tD K f1)) (tGD K bd1 js1) tYes (tD K fe) vs vs1 σ H Q := by
  obtain ⟨e, all, hs, he, k⟩ := h
  obtain ⟨ds, hds, he⟩ := Option.bind_eq_some_iff.mp he
  obtain ⟨all', he, hsm⟩ := Option.bind_eq_some_iff.mp he
  split at hsm
  · rename_i hsm'
    cases hsm
    have hsz : all.length < sizeLine := small_lt hsm'
    refine ⟨e, ds, hs, hds, fun J H1 s1 w1 D hD => ?_⟩
    have hDH : H D = none := s1.free hD
    let Pv : Nat → Hp → Prop := fun i H' => Same H1 H' ∧ ∃ acc outs rest, H' D = some (.lst acc) ∧ DpAll K H' acc outs ∧ nlAll outs = true ∧ comp2D f1 bd bd1 vs1 fe (wipeE e vs) (ds.drop i) = some rest ∧ all = outs ++ rest
    refine ⟨fun i m H' => m = ds.length - i ∧ i ≤ ds.length ∧ Pv i H', ⟨ds.length, by simp, Nat.zero_le _, same_new hD, [], [], all, upd_same, .nil, rfl, he, rfl⟩, ?_⟩
    rintro i m H' ⟨rfl, hi, sm, acc, outs, rest, ha, hda, hn, hc, hall⟩
    by_cases hlt : i < ds.length
    · refine .inr ⟨w1.go i H' sm hlt, Pv (i + 1), fun H2 p => ⟨ds.length - (i + 1), by omega, rfl, hlt, p⟩, fun x H2 y => ?_⟩
      obtain ⟨s2, dx⟩ := w1.yld i H' x H2 sm y ds[i] (List.getElem?_eq_getElem hlt)
      rw [drop_get hlt] at hc
      obtain ⟨e1, hb, hc⟩ := Option.bind_eq_some_iff.mp hc
      obtain ⟨t1, ht1, hc⟩ := Option.bind_eq_some_iff.mp hc
      split at hc
      · rename_i ds1
        split at hc
        · rename_i hnl
          obtain ⟨xs, hxs, hc⟩ := Option.bind_eq_some_iff.mp hc
          obtain ⟨ys, hys, hc⟩ := Option.bind_eq_some_iff.mp hc
          cases hc
          have sm2 := sm.trans s2
          refine ⟨ds[i], wipeE e vs, e1, (hs.same (s1.trans sm2)).wipe vs, dx, hb, fun σ2 hs2 hw => ⟨(hw vs hj).trans wipe_idem, @iteT _ (Pv (i + 1) H2) ⟨e1, .tuple ds1, hs2, ht1, fun v H4 s4 dv => ?_⟩⟩⟩
          obtain ⟨a, us, rfl, h1, h2⟩ := dv.tup_inv
          have s24 := s2.trans s4
          let P1 : Nat → Hp → Prop := fun j H' => TSame H4 H' ∧ Same H1 H' ∧ ∃ acc1 outs1 r1, H' D = some (.lst acc1) ∧ DpAll K H' acc1 outs1 ∧ nlAll outs1 = true ∧ compD bd1 yesB fe (wipeE e1 vs1) (ds1.drop j) = some r1 ∧ outs ++ xs = outs1 ++ r1
          have sqt : ∀ {H' : Hp}, TSame H4 H' → SqT K H' a us := fun t => by
            rcases h1 with h1 | h1
            · exact .inl (t _ _ h1)
            · exact .inr h1
          refine ⟨a, rfl, ⟨us, h1⟩, fun j m H' => m = ds1.length - j ∧ j ≤ ds1.length ∧ P1 j H', ⟨ds1.length, by simp, Nat.zero_le _, TSame.refl _, sm2.trans s4, acc, outs, xs, s24 D _ ha, DpAll.same s24 _ _ hda, hn, hxs, rfl⟩, ?_⟩
          rintro j m H5 ⟨rfl, hj5, t5, s5, acc1, outs1, r1, ha1, hda1, hn1, hc1, hall1⟩
          by_cases hlt1 : j < ds1.length
          · refine .inr ⟨⟨us, us[j]'(by rw [h2.length]; exact hlt1), sqt t5, by simp⟩, P1 (j + 1), fun H6 p => ⟨ds1.length - (j + 1), by omega, rfl, hlt1, p⟩, fun x6 H6 y6 => ?_⟩
            obtain ⟨rfl, y6⟩ := y6
            obtain ⟨v6, hv6, dv6⟩ := h2.get (List.getElem?_eq_getElem hlt1)
            have q6 := y6 us (sqt t5)
            rw [hv6] at q6
            cases q6
            have hn6 : nl ds1[j] = true := nl_mem hnl.2 (List.getElem_mem hlt1)
            rw [drop_get hlt1] at hc1
            obtain ⟨e2, hb2, hc1⟩ := Option.bind_eq_some_iff.mp hc1
            obtain ⟨b2, hft2, hc1⟩ := Option.bind_eq_some_iff.mp hc1
            cases hft2
            obtain ⟨y2, hfe2, hc1⟩ := Option.bind_eq_some_iff.mp hc1
            split at hc1
            · rename_i hny2
              obtain ⟨rest', hc1', rfl⟩ := Option.map_eq_some_iff.mp hc1
              have hse1 : SD K H6 σ2 e1 := (hs2.same s4).tsame hnl.1 t5
              refine ⟨ds1[j], wipeE e1 vs1, e2, hse1.wipe vs1, Dp.tsame t5 _ _ hn6 dv6, hb2, fun σ3 hs3 hw3 => ⟨(hw3 vs1 hj1).trans wipe_idem, @iteT _ (P1 (j + 1) H6) ⟨e2, y2, hs3, hfe2, fun v7 H7 s7 dv7 => ?_⟩⟩⟩
              have hD7 : H7 D = some (.lst acc1) := s7 D _ ha1
              have hlen : acc1.length < sizeLine := by
                have e1' := hda1.length
                have e2' : (outs ++ xs).length ≤ all.length := by
                  rw [hall, List.length_append, List.length_append, List.length_append]; omega
                rw [hall1, List.length_append] at e2'
                omega
              refine ⟨acc1, hD7, hlen, (t5.trans (TSame.of s7)).trans (TSame.lst hD7), fun b o q => ?_, acc1 ++ [v7], outs1 ++ [y2], rest', upd_same, ?_, nlAll_snoc hn1 hny2, hc1', by rw [hall1]; simp⟩
              · rw [upd_ne (ne_of_none q hD)]
                exact (s5.trans s7) b o q
              · exact DpAll.snoc (DpAll.tsame (TSame.lst hD7) _ _ hn1 (DpAll.same s7 _ _ hda1)) (Dp.tsame (TSame.lst hD7) _ _ hny2 dv7)
            · cases hc1
          · have e0 : j = ds1.length := by omega
            subst e0
            rw [List.drop_length] at hc1
            cases hc1
            refine .inl ⟨⟨us, sqt t5, by rw [h2.length]; exact Nat.le_refl _⟩, s5, acc1, outs1, ys, ha1, hda1, hn1, hys, ?_⟩
            rw [hall]
            rw [List.append_nil] at hall1
            rw [← hall1, List.append_assoc]
        · cases hc
      · cases hc
    · have e0 : i = ds.length := by omega
      subst e0
      rw [List.drop_length] at hc
      cases hc
      refine .inl ⟨w1.stop H' sm, ?_⟩
      rw [List.append_nil] at hall
      subst hall
      exact k D acc H' hDH (s1.trans sm) ha hda
  · cases hsm
theorem pd_lc2 {tg1 iter1 : Expr} {vs1 : List Nat} {js1 : List Nat} {bd1 : Bd} {f1 : DF} (hc : X.calm = true) (hN : X.N.Nodup) (hi : PID X tg iter fi) (ok : BlkOk X.N X.env.scope scope own) (hv : ∀ i ∈ vs1, i ∈ own.map (·.2))
    (hg : ∀ (s : Shared) (H : Hp) (C : Addr) (cl : List (Str × Addr)) (fp : List Addr), PGD (X.blk s H scope (compEnvC scope cl C X.env) fp) tg bd js)
    (hi1 : ∀ (s : Shared) (H : Hp) (C : Addr) (cl : List (Str × Addr)) (fp : List Addr), PD (X.blk s H scope (compEnvC scope cl C X.env) fp) iter1 f1)
    (hg1 : ∀ (s : Shared) (H : Hp) (C : Addr) (cl : List (Str × Addr)) (fp : List Addr), PGD (X.blk s H scope (compEnvC scope cl C X.env) fp) tg1 bd1 js1)
    (he : ∀ (s : Shared) (H : Hp) (C : Addr) (cl : List (Str × Addr)) (fp : List Addr), PD (X.blk s H scope (compEnvC scope cl C X.env) fp) elt fe) (hj : ∀ j ∈ js, j ∈ own.map (·.2) := by decide) (hj1 : ∀ j ∈ js1, j ∈ vs1 := by decide)
    (hs : ∀ x, foldedSetIterable iter X.env x = pure x := by intro _; rfl) (hs1 : ∀ env x, foldedSetIterable iter1 env x = pure x := by intro _ _; rfl) :
    PD X (.ListComp elt [⟨tg, iter, [], 0⟩, ⟨tg1, iter1, [], 0⟩] scope pos) (asL (comp2F fi f1 bd bd1 (own.map (·.2)) vs1 fe)) :=
  PE.imp (pe_lc2 hc hN hi ok hv hg (fun _ _ _ _ _ => pts_nil) (fun s H C cl fp => pi_tup (hi1 s H C cl fp)) hg1 (fun _ _ _ _ _ => pts_nil) he hs hs1) fun σ H Q h => lc2_data hj hj1 (tDF_of h)
end
end L2
end
section
set_option Elab.async false
set_option linter.all false
set_option maxRecDepth 100000
set_option maxHeartbeats 4000000
/-! D7: statements over data, and a def's promise. -/
namespace L2
open PySem PySem.Spec PyProof.Rows StX RZ
inductive DOut where
  | nx (e : DEnv)
  | rt (d : PyData)
abbrev DG := DEnv → Option DOut
def EndD (K : PySem.W.Frag) (D : Ends) (H : Hp) : DOut → Prop
  | .nx e => ∀ σ' H', Same H H' → SD K H' σ' e → D.nx σ' H'
  | .rt d => ∀ v H', Same H H' → Dp K H' v d → D.rt v H'
def tDS (K : PySem.W.Frag) (g : DG) : TS := fun D σ H => ∃ e o, SD K H σ e ∧ g e = some o ∧ EndD K D H o
theorem EndD.same {K : PySem.W.Frag} {D : Ends} {H H' : Hp} {o : DOut} (h : EndD K D H o) (s : Same H H') : EndD K D H' o := by
  cases o with
  | nx e => exact fun σ' H2 s2 hs => h σ' H2 (s.trans s2) hs
  | rt d => exact fun v H2 s2 hd => h v H2 (s.trans s2) hd
section
variable {X : Cx}
abbrev PSD (X : Cx) (st : Stmt) (g : DG) : Prop := PS X st (tDS X.K g)
abbrev PSsD (X : Cx) (st : List Stmt) (g : DG) : Prop := PSs X st (tDS X.K g)
def skipG : DG := fun e => some (.nx e)
def seqG (g h : DG) : DG := fun e => (g e).bind fun o => match o with
  | .nx e1 => h e1
  | .rt d => some (.rt d)
def setG (i : Nat) (f : DF) : DG := fun e => (f e).map fun d => .nx (e.set i (some d))
def bindG (f : DF) (bd : Bd) : DG := fun e => (f e).bind fun d => (bd d e).map .nx
def retG (f : DF) : DG := fun e => (f e).map .rt
def dropG (f : DF) : DG := fun e => (f e).map fun _ => .nx e
def ifG (c : DFB) (g h : DG) : DG := fun e => (c e).bind fun b => if b = true then g e else h e
def neverG : DG := fun _ => none
variable {st : Stmt} {rest : List Stmt} {g h : DG} {f : DF} {c : Expr} {p : DFB} {a tg : Expr} {pos : Pos}
theorem psd_nil : PSsD X [] skipG := PSs.imp pss_nil fun D σ H ⟨e, o, hs, he, k⟩ => by
  cases he
  exact k σ H (Same.refl H) hs
theorem psd_cons (h1 : PSD X st g) (h2 : PSsD X rest h) : PSsD X (st :: rest) (seqG g h) := PSs.imp (pss_cons h1 h2) fun D σ H ⟨e, o, hs, he, k⟩ => by
  obtain ⟨o1, h1, he⟩ := Option.bind_eq_some_iff.mp he
  refine ⟨e, o1, hs, h1, ?_⟩
  cases o1 with
  | nx e1 => exact fun σ' H' s1 hs' => ⟨e1, o, hs', he, EndD.same k s1⟩
  | rt d =>
    cases he
    exact k
theorem psd_one (h1 : PSD X st g) : PSsD X [st] g := PSs.imp (pss_one h1) fun D σ H h => h
theorem psd_set (i : Nat) {x : Str} {pos' : Pos} (hN : X.N.Nodup) (he : PD X a f) (hi : X.N[i]? = some x := by rfl) (hx : Loc X.env.scope x := by first | exact Or.inl rfl | exact Or.inr rfl) (hs : swapsWith a (some (.Name x pos')) pos.line X.env = pure false := by rfl) (hf : X.fn x = true ∨ X.env.scope.names.lookup x = some .local := by first | exact .inl rfl | exact .inr rfl | assumption) :
    PSD X (.Assign [.Name x pos'] a pos) (setG i f) := PS.imp (ps_set hN hi hx he hs hf) fun D σ H ⟨e, o, hs, he, k⟩ => by
  obtain ⟨d, hd, rfl⟩ := Option.map_eq_some_iff.mp he
  exact ⟨e, d, hs, hd, fun v H' s1 d1 => k _ H' s1 ((hs.same s1).set i d1)⟩
theorem psd_asg {bd : Bd} {js : List Nat} (he : PD X a f) (hg : PGD X tg bd js) (hs : swapsWithSole [tg] a pos.line X.env = pure false := by rfl) (hw : swappedStores [tg] a X.env = pure none := by rfl) (h1 : (assignEach [tg] X.env).map (·.2) = [assign tg X.env] := by rfl) :
    PSD X (.Assign [tg] a pos) (bindG f bd) := PS.imp (ps_asg he hg hs hw h1) fun D σ H ⟨e, o, hs, he, k⟩ => by
  obtain ⟨d, hd, he⟩ := Option.bind_eq_some_iff.mp he
  obtain ⟨e1, h1, rfl⟩ := Option.map_eq_some_iff.mp he
  exact ⟨e, d, hs, hd, fun v H' s1 d1 => ⟨d, e, e1, hs.same s1, d1, h1, fun σ' hs' _ => k σ' H' s1 hs'⟩⟩
/-- a, b = x, y with plain local names -/
def parG (i j : Nat) (fs : DFs) : DG := fun e => (fs e).bind fun ds => match ds with
  | [x, y] => some (.nx ((e.set i (some x)).set j (some y)))
  | _ => none
theorem psd_par (i j : Nat) {x y : Str} {a b : Expr} {fs : DFs} {px py pt : Pos} {kt k2 pt2} (hc : X.calm = true) (hN : X.N.Nodup) (ha : PAD X [a, b] fs) (hi : X.N[i]? = some x := by rfl) (hj : X.N[j]? = some y := by rfl) (hij : i ≠ j := by decide)
    (hx : X.env.scope.names.lookup x = some .local := by rfl) (hy : X.env.scope.names.lookup y = some .local := by rfl)
    (hw : swappedStores [.Tuple [.Name x px, .Name y py] kt pt] (.Tuple [a, b] k2 pt2) X.env = pure (some [x, y]) := by rfl)
    (hs : swapsWithSole [.Tuple [.Name x px, .Name y py] kt pt] (.Tuple [a, b] k2 pt2) pos.line X.env = pure false := by rfl) :
    PSD X (.Assign [.Tuple [.Name x px, .Name y py] kt pt] (.Tuple [a, b] k2 pt2) pos) (parG i j fs) := PS.imp (ps_par hc hN hi hj hij hx hy ha hw hs) fun D σ H ⟨e, o, hs, he, k⟩ => by
  obtain ⟨ds, hds, he⟩ := Option.bind_eq_some_iff.mp he
  refine ⟨e, ds, hs, hds, fun vs H' s1 d1 => ?_⟩
  split at he
  · cases he
    obtain ⟨v, w, rfl, h1, h2⟩ := dpAll2 d1
    exact ⟨v, w, rfl, k _ H' s1 (((hs.same s1).set i h1).set j h2)⟩
  · cases he
theorem psd_ret (he : PD X a f) : PSD X (.Return (some a) pos) (retG f) := PS.imp (ps_ret he) fun D σ H ⟨e, o, hs, he, k⟩ => by
  obtain ⟨d, hd, rfl⟩ := Option.map_eq_some_iff.mp he
  exact ⟨e, d, hs, hd, k⟩
theorem psd_expr (he : PD X a f) (hs : swapsWith a none pos.line X.env = pure false := by rfl) : PSD X (.Expr a pos) (dropG f) := PS.imp (ps_expr he hs) fun D σ H ⟨e, o, hs, he, k⟩ => by
  obtain ⟨d, hd, rfl⟩ := Option.map_eq_some_iff.mp he
  exact ⟨e, d, hs, hd, fun v H' s1 d1 => k σ H' s1 (hs.same s1)⟩
theorem psd_if {b1 b2 : List Stmt} (hc : PTD X c p) (ha : PSsD X b1 g) (hb : PSsD X b2 h) : PSD X (.If c b1 b2 pos) (ifG p g h) := PS.imp (ps_if hc ha hb) fun D σ H ⟨e, o, hs, he, k⟩ => by
  obtain ⟨b, hb, he⟩ := Option.bind_eq_some_iff.mp he
  refine ⟨e, b, hs, hb, fun H1 s1 => ?_⟩
  cases b with
  | true => exact iteT ⟨e, o, hs.same s1, he, EndD.same k s1⟩
  | false => exact iteF ⟨e, o, hs.same s1, he, EndD.same k s1⟩
theorem psd_never : PSD X st neverG := ⟨fun _ _ _ _ _ _ ⟨_, _, _, h, _⟩ => nomatch h⟩
theorem psd_nevers : PSsD X rest neverG := ⟨fun _ _ _ _ _ _ ⟨_, _, _, h, _⟩ => nomatch h⟩
def forD (bd : Bd) (g : DG) : List PyData → DG
  | [], e => some (.nx e)
  | d :: r, e => (bd d e).bind fun e1 => (g e1).bind fun o => match o with
    | .nx e2 => forD bd g r e2
    | .rt v => some (.rt v)
def forG (fi : DFs) (bd : Bd) (g : DG) : DG := fun e => (fi e).bind fun ds => forD bd g ds e
theorem psd_for {iter : Expr} {body : List Stmt} {fi : DFs} {bd : Bd} {js : List Nat} (hp : PassesOwn (model X.prog X.w) X.A X.env X.xe) (hc : X.calm = true) (hi : PID X tg iter fi) (hg : PGD X tg bd js) (hb : PSsD X body g)
    (hs : ∀ x, foldedSetIterable iter X.env x = pure x := by intro _; rfl) : PSD X (.For tg iter body [] pos) (forG fi bd g) := PS.imp (ps_for hp hc hi hg hb hs) fun D σ H ⟨e, o, hs, he, k⟩ => by
  obtain ⟨ds, hds, he⟩ := Option.bind_eq_some_iff.mp he
  refine ⟨e, ds, hs, hds, fun J H1 s1 w1 => ?_⟩
  refine ⟨fun i m σ' H' => m = ds.length - i ∧ i ≤ ds.length ∧ Same H1 H' ∧ ∃ e', SD X.K H' σ' e' ∧ forD bd g (ds.drop i) e' = some o, ⟨ds.length, by simp, Nat.zero_le _, Same.refl _, e, hs.same s1, he⟩, ?_⟩
  rintro i m σ' H' ⟨rfl, hi, sm, e', hs', hf⟩
  by_cases hlt : i < ds.length
  · refine .inr ⟨w1.go i H' sm hlt, fun σ2 H2 => i + 1 ≤ ds.length ∧ Same H1 H2 ∧ ∃ e', SD X.K H2 σ2 e' ∧ forD bd g (ds.drop (i + 1)) e' = some o, fun σ2 H2 p => ⟨ds.length - (i + 1), by omega, rfl, p.1, p.2⟩, fun x H2 y => ?_⟩
    obtain ⟨s2, dx⟩ := w1.yld i H' x H2 sm y ds[i] (List.getElem?_eq_getElem hlt)
    rw [drop_get hlt] at hf
    obtain ⟨e1, hb, hf⟩ := Option.bind_eq_some_iff.mp hf
    obtain ⟨o1, ho, hf⟩ := Option.bind_eq_some_iff.mp hf
    refine ⟨ds[i], e', e1, hs'.same s2, dx, hb, fun σ2 hs2 _ => ⟨e1, o1, hs2, ho, ?_⟩⟩
    cases o1 with
    | nx e2 => exact fun σ3 H3 s3 hs3 => ⟨hlt, (sm.trans s2).trans s3, e2, hs3, hf⟩
    | rt d =>
      cases hf
      exact fun v H3 s3 d3 => k v H3 (((s1.trans sm).trans s2).trans s3) d3
  · have e0 : i = ds.length := by omega
    subst e0
    rw [List.drop_length] at hf
    cases hf
    exact .inl ⟨w1.stop H' sm, k σ' H' (s1.trans sm) hs'⟩
def whileD (c : DFB) (g : DG) : Nat → DG
  | 0, _ => none
  | n + 1, e => (c e).bind fun b => if b = true then (g e).bind fun o => match o with
    | .nx e2 => whileD c g n e2
    | .rt v => some (.rt v)
    else some (.nx e)
theorem psd_while {body : List Stmt} (n : Nat) (hp : PassesOwn (model X.prog X.w) X.A X.env X.xe) (hc : PTD X c p) (hb : PSsD X body g) : PSD X (.While c body [] pos) (whileD p g n) := PS.imp (ps_while hp hc hb) fun D σ H ⟨e, o, hs, he, k⟩ => by
  refine ⟨fun m σ' H' => Same H H' ∧ ∃ e', SD X.K H' σ' e' ∧ whileD p g m e' = some o, ⟨n, Same.refl H, e, hs, he⟩, ?_⟩
  rintro m σ' H' ⟨sm, e', hs', hw⟩
  cases m with
  | zero => cases hw
  | succ m =>
    obtain ⟨b, hb, hw⟩ := Option.bind_eq_some_iff.mp hw
    refine ⟨e', b, hs', hb, fun H1 s1 => ?_⟩
    cases b with
    | true =>
      obtain ⟨o1, ho, hw⟩ := Option.bind_eq_some_iff.mp hw
      refine iteT ⟨fun σ2 H2 => Same H H2 ∧ ∃ e', SD X.K H2 σ2 e' ∧ whileD p g m e' = some o, fun σ2 H2 q => ⟨m, Nat.lt_succ_self _, q⟩, e', o1, hs'.same s1, ho, ?_⟩
      cases o1 with
      | nx e2 => exact fun σ3 H3 s3 hs3 => ⟨(sm.trans s1).trans s3, e2, hs3, hw⟩
      | rt d =>
        cases hw
        exact fun v H3 s3 d3 => k v H3 ((sm.trans s1).trans s3) d3
    | false =>
      cases hw
      exact iteF (k σ' H1 (sm.trans s1) (hs'.same s1))
/-- name = [..] on one line: a new list, the caller's own -/
theorem ps_setF (i : Nat) {y : Str} {py : Pos} {elt tg iter : Expr} {ifs : List Expr} {scope : Scope} {own : List (Str × Nat)} {pos spos : Pos} {fi : DFs} {bd : Bd} {js : List Nat} {ft : DFB} {fe : DF} (hc : X.calm = true) (hN : X.N.Nodup) (hi : PID X tg iter fi) (ok : BlkOk X.N X.env.scope scope own)
    (hg : ∀ (s : Shared) (H : Hp) (C : Addr) (cl : List (Str × Addr)) (fp : List Addr), PGD (X.blk s H scope (compEnvC scope cl C X.env) fp) tg bd js) (ht : ∀ (s : Shared) (H : Hp) (C : Addr) (cl : List (Str × Addr)) (fp : List Addr), PTsD (X.blk s H scope (compEnvC scope cl C X.env) fp) ifs ft)
    (he : ∀ (s : Shared) (H : Hp) (C : Addr) (cl : List (Str × Addr)) (fp : List Addr), PD (X.blk s H scope (compEnvC scope cl C X.env) fp) elt fe) (hy : X.N[i]? = some y := by rfl) (hyl : X.env.scope.names.lookup y = some .local := by rfl)
    (hsw : swapsWith (.ListComp elt [⟨tg, iter, ifs, 0⟩] scope pos) (some (.Name y py)) spos.line X.env = pure true := by exact sw_true rfl rfl rfl (by decide +kernel)) (hj : ∀ j ∈ js, j ∈ own.map (·.2) := by decide) (hs : ∀ x, foldedSetIterable iter X.env x = pure x := by intro _; rfl) :
    PS X (.Assign [.Name y py] (.ListComp elt [⟨tg, iter, ifs, 0⟩] scope pos) spos) (tAsg (tDF X.K (compF fi bd (own.map (·.2)) ft fe)) (gName i)) := PS.imp (ps_setLc hc hN hy hyl hsw hi ok hg ht he hs) fun D σ H h => lc_data hj h
/-- name = [..] on one line -/
def setLG (i : Nat) (f : DFs) : DG := setG i (asL f)
theorem psd_setLc (i : Nat) {y : Str} {py : Pos} {elt tg iter : Expr} {ifs : List Expr} {scope : Scope} {own : List (Str × Nat)} {pos spos : Pos} {fi : DFs} {bd : Bd} {js : List Nat} {ft : DFB} {fe : DF} (hc : X.calm = true) (hN : X.N.Nodup) (hi : PID X tg iter fi) (ok : BlkOk X.N X.env.scope scope own)
    (hg : ∀ (s : Shared) (H : Hp) (C : Addr) (cl : List (Str × Addr)) (fp : List Addr), PGD (X.blk s H scope (compEnvC scope cl C X.env) fp) tg bd js) (ht : ∀ (s : Shared) (H : Hp) (C : Addr) (cl : List (Str × Addr)) (fp : List Addr), PTsD (X.blk s H scope (compEnvC scope cl C X.env) fp) ifs ft)
    (he : ∀ (s : Shared) (H : Hp) (C : Addr) (cl : List (Str × Addr)) (fp : List Addr), PD (X.blk s H scope (compEnvC scope cl C X.env) fp) elt fe) (hy : X.N[i]? = some y := by rfl) (hyl : X.env.scope.names.lookup y = some .local := by rfl)
    (hsw : swapsWith (.ListComp elt [⟨tg, iter, ifs, 0⟩] scope pos) (some (.Name y py)) spos.line X.env = pure true := by exact sw_true rfl rfl rfl (by decide +kernel)) (hj : ∀ j ∈ js, j ∈ own.map (·.2) := by decide) (hs : ∀ x, foldedSetIterable iter X.env x = pure x := by intro _; rfl) :
    PSD X (.Assign [.Name y py] (.ListComp elt [⟨tg, iter, ifs, 0⟩] scope pos) spos) (setLG i (compF fi bd (own.map (·.2)) ft fe)) := PS.imp (ps_setLc hc hN hy hyl hsw hi ok hg ht he hs) fun D σ H ⟨e, o, hs, he, k⟩ => by
  obtain ⟨d, hd, rfl⟩ := Option.map_eq_some_iff.mp he
  exact lc_data hj (tDF_of ⟨e, d, hs, hd, fun v H' s1 d1 => k _ H' s1 ((hs.same s1).set i d1)⟩)
end
/-! ### a def -/
def startE (n : Nat) (ds : List PyData) : DEnv := ds.map some ++ List.replicate (n - ds.length) none
def defD (m n : Nat) (g : DG) : List PyData → Option PyData := fun ds => if ds.length = m then (g (startE n ds)).map fun o => match o with
  | .rt d => d
  | .nx _ => .none else none
theorem sd_start {K : PySem.W.Frag} {H : Hp} {N : List Str} {vs : List V} {ds : List PyData} (h : DpAll K H vs ds) : SD K H (L2.start N vs) (startE N.length ds) := by
  have hl := h.length
  refine ⟨by simp [L2.start, startE, hl], fun i d q => ?_⟩
  have q := gv_some q
  unfold startE at q
  unfold L2.start
  by_cases hi : i < ds.length
  · rw [List.getElem?_append_left (by rw [List.length_map]; exact hi), List.getElem?_map] at q
    cases e : ds[i]? with
    | none => rw [e] at q; cases q
    | some d' =>
      rw [e] at q
      cases q
      obtain ⟨v, hv, hd⟩ := h.get e
      exact ⟨v, by rw [List.getElem?_append_left (by rw [List.length_map, hl]; exact hi), List.getElem?_map, hv]; rfl, hd⟩
  · rw [List.getElem?_append_right (by rw [List.length_map]; omega), List.getElem?_replicate] at q
    split at q <;> cases q
section
variable {P : Program} {w : World} {K : PySem.W.Frag} {mg : Str → Option Value} {base : Heap}
/-- the def x stands in the written part as the statement st -/
structure DefAt (K : PySem.W.Frag) (mg : Str → Option Value) (x : Str) (st : Stmt) : Prop where
  ex : ∃ (fa : Addr) (fd : FuncData), Fun K x x st fa fd ∧ mg x = some (.ref fa)
theorem has_of {x : Str} {st : Stmt} {N ps : List Str} {k : Nat} {sp : Sp} (F : DefAt K mg x st) (S : FnScope N ps (defScope st))
    (hb : ∀ (kV doc pm : Value) (an : Option Addr) (cdv ct : Value) (us : List Value), us.length = ps.length → bindArgs (PySem.W.fnOf x x (defArgs st) (defBody st) (defScope st) .none kV doc pm an cdv ct) ⟨us, []⟩ = pure (ps.zip us)) (len : ∀ vs H Q E, sp vs H Q E → vs.length = ps.length)
    (hbody : ∀ (fa : Addr) (cdv : Value) (A : Around) (outer : List Env) (s : Shared) (H : Hp) (vs : List V) (Q : VK) (E : XK), Room k (A.deeper (envOfC x (defScope st) s.heap.objs.size fa cdv)) → sp vs H Q E →
      ∃ t, PSs (cxOf CX0 P w K mg base N x (defScope st) fa cdv A outer s H E).nox (defBody st) t ∧ t { nx := fun _ H' => Q .non H', rt := Q } (L2.start N vs) H) : Has P w K mg base (k + 1) x sp := by
  obtain ⟨fa, fd, F, hm⟩ := F.ex
  exact ⟨fa, fd, ps, F.ok S len (hbody fa), hm, F.kp, F.binds hb⟩
/-- a def whose body is told over data -/
theorem has_pure {x : Str} {st : Stmt} {N ps : List Str} {k : Nat} {g : DG} (F : DefAt K mg x st) (S : FnScope N ps (defScope st))
    (hb : ∀ (kV doc pm : Value) (an : Option Addr) (cdv ct : Value) (us : List Value), us.length = ps.length → bindArgs (PySem.W.fnOf x x (defArgs st) (defBody st) (defScope st) .none kV doc pm an cdv ct) ⟨us, []⟩ = pure (ps.zip us))
    (hbody : ∀ (fa : Addr) (cdv : Value) (A : Around) (outer : List Env) (s : Shared) (H : Hp) (E : XK), Room k (A.deeper (envOfC x (defScope st) s.heap.objs.size fa cdv)) → PSsD (cxOf CX0 P w K mg base N x (defScope st) fa cdv A outer s H E).nox (defBody st) g) :
    Has P w K mg base (k + 1) x (spD K (defD ps.length N.length g)) := by
  refine has_of F S hb (fun vs H Q E ⟨ds, d, hd, he, _⟩ => ?_) fun fa cdv A outer s H vs Q E hr ⟨ds, d, hd, he, q⟩ => ⟨_, hbody fa cdv A outer s H E hr, ?_⟩
  · unfold defD at he
    split at he
    · rename_i z
      rw [hd.length]; exact z
    · cases he
  · unfold defD at he
    split at he
    · obtain ⟨o, ho, rfl⟩ := Option.map_eq_some_iff.mp he
      refine ⟨_, o, sd_start hd, ho, ?_⟩
      cases o with
      | nx e => exact fun σ' H' s1 _ => q _ H' s1 .non
      | rt d => exact fun v H' s1 d1 => q v H' s1 d1
    · cases he
end
end L2
end
section
set_option Elab.async false
set_option linter.all false
set_option maxRecDepth 100000
set_option maxHeartbeats 4000000
/-! D8: a list or a tuple walked; enumerate of a tuple. -/
namespace L2
open PySem PySem.Spec PyProof.Rows StX RZ
theorem PI.or {X : Cx} {tg e : Expr} {t t' : TI} (h : PI X tg e t) (h' : PI X tg e t') : PI X tg e (fun σ H R => t σ H R ∨ t' σ H R) := ⟨fun pins s σ H R I q => q.elim (h.run pins s σ H R I) (h'.run pins s σ H R I)⟩
def seqI (f : DF) : DFs := fun e => (f e).bind seqD
theorem pid_seq {X : Cx} {a : Expr} {f : DF} {tg : Expr} (h : PD X a f) : PID X tg a (seqI f) := PI.imp (PI.or (pid_list h) (pid_tup h)) fun σ H R ⟨e, ds, hs, he, k⟩ => by
  obtain ⟨d, hd, he⟩ := Option.bind_eq_some_iff.mp he
  cases d <;> simp only [seqD, reduceCtorEq, Option.some.injEq] at he
  · subst he
    exact .inl ⟨e, _, hs, by unfold listI; rw [hd]; rfl, k⟩
  · subst he
    exact .inr ⟨e, _, hs, by unfold tupI; rw [hd]; rfl, k⟩
/-! ### enumerate(tuple) -/
set_option maxHeartbeats 1000000 in
theorem meets_enumerate_newB1 {v : Value} {o : Obj} {H : Heap → Prop} (B : Begins v o H) :
    Meets (Builtin.«enumerate.__new__» ⟨[.type "enumerate", v], []⟩) (fun _ R s => H s.heap ∧
      R (.ok (.ret (.ref (s.heap.push o).objs.size))) { s with heap := (s.heap.push o).push { cls := .type "enumerate", data := .fields #[.none, .bool false, .ref s.heap.objs.size, rawInt 0, .none, .none] } }) :=
  .of_wp fun prog w A R s h => by
    obtain ⟨hp, g, d, tk, os⟩ := s; obtain ⟨h1, h⟩ := h
    have hsub := sub_enumerate
    have q1 : ∀ {A' : Around} {E : Value → Shared → Prop} {Q : Value → Shared → Prop}, Q (.ref hp.objs.size) ⟨hp.push o, g, d, tk, os⟩ → wpAny (model prog w) A' (pyIter v) Q E ⟨hp, g, d, tk, os⟩ :=
      fun q => B.iter prog w _ _ ⟨hp, g, d, tk, os⟩ _ h1 q
    wp_walk using q1
    refine wpAny_stack_any fun st => wpAny_pure ?_
    split
    · rename_i c _ _ _ _ _
      cases (c == Value.type "enumerate")
      · wp_walk using q1
        exact ⟨_, rfl, h⟩
      · wp_walk using q1
        exact ⟨_, rfl, h⟩
    · wp_walk using q1
      exact ⟨_, rfl, h⟩
theorem call_enumerate_tup {prog : Program} {w : World} {A : Around} {E : Value → Shared → Prop} {s : Shared} {t : Addr} {items : Array Value} {Q : Value → Shared → Prop} (hT : s.heap.IsTuple t items)
    (h : ∀ h', IsEnum h' (s.heap.objs.size + 1) s.heap.objs.size 0 .none → h'.IsTupleIter s.heap.objs.size t 0 → h'.objs.size = s.heap.objs.size + 2 →
      (∀ b o, s.heap.get? b = some o → h'.get? b = some o) → Q (.ref (s.heap.objs.size + 1)) { s with heap := h' }) :
    wpAny (model prog w) A (call (.type "enumerate") [.ref t]) Q E s := by
  refine callType_new F.called_enumerate (by decide) (F.typeCall_enumerate_1 _) (F.newCall_enumerate_1 _) (fun obj => F.args_object_init_2 obj _) F.entry_enumerate_new
    (meets_enumerate_newB1 (begins_tuple t items)) ⟨hT, ?_⟩
  have hz : (s.heap.push { cls := .type "tuple_iterator", data := .fields #[.ref t, .int 0 0] }).objs.size = s.heap.objs.size + 1 := Heap.size_push ..
  show _ ∧ _
  rw [hz]
  have he : IsEnum ((s.heap.push { cls := .type "tuple_iterator", data := .fields #[.ref t, .int 0 0] }).push
      { cls := .type "enumerate", data := .fields #[.none, .bool false, .ref s.heap.objs.size, rawInt 0, .none, .none] }) (s.heap.objs.size + 1) s.heap.objs.size 0 .none := by
    have := Heap.get?_push_size (s.heap.push { cls := .type "tuple_iterator", data := .fields #[.ref t, .int 0 0] })
      (o := { cls := .type "enumerate", data := .fields #[.none, .bool false, .ref s.heap.objs.size, rawInt 0, .none, .none] }) rfl
    rw [hz] at this; exact this
  refine ⟨⟨_, he, rfl⟩, h _ he ⟨_, Heap.get?_push_of_some _ (Heap.get?_push_size _ rfl), rfl, rfl⟩ (by rw [Heap.size_push, hz]) fun b o y => Heap.get?_push_of_some _ (Heap.get?_push_of_some _ y)⟩
theorem wpAny_pyNext_enum_endT {prog : Program} {w : World} {A : Around} {E : Value → Shared → Prop} {s : Shared} {e it l : Addr} {i : Nat} {k : Int} {items : Array Value} {old : Value} {Q : Option Value → Shared → Prop} (hh : A.handled = none)
    (he : IsEnum s.heap e it k old) (hit : s.heap.IsTupleIter it l i) (hl : s.heap.IsTuple l items) (hx : items[i]? = none)
    (hQ : ∀ h', Heap.ExtBut it s.heap h' → Q none { s with heap := h' }) : wpAny (model prog w) A (pyNext (.ref e)) Q E s := by
  have hT : s.TypeIs (.ref e) "enumerate" := ⟨_, he, rfl⟩
  unfold pyNext
  refine wpAny_bind (wpAny_attempt (wpAny_callSpecial?_slot (name := Str.ofString "__next__") hT F.slot_enumerate_next
    (wpAny_call_entry F.slot_enumerate_next hT F.entry_enumerate_next ?_ (F.args_enumerate_next_1 _))))
  show wpAny _ _ (field (.ref e) 2 >>= _) _ _ _
  refine wpAny_bind (wpAny_field he rfl (x := .ref it) rfl ?_)
  refine wpAny_bind (wpAny_nextOf_tuple_end hh hit hl hx fun h' x he' hx' => ?_)
  obtain ⟨o, ho, hc⟩ := hx'
  refine wpAny_bind (wpAny_isInstance (T := "StopIteration") (b := true) ⟨o, ho, hc⟩ isSubtype_stop ?_)
  exact wpAny_pure (hQ _ he')
def IteT (K : PySem.W.Frag) (a : Addr) : It :=
  ⟨fun i H => ∃ (xs : List V) (x : V), SqT K H a xs ∧ xs[i]? = some x, fun i H v H' => ∃ T x, v = .ref T ∧ H T = none ∧ H' = upd H T (.tup [.int (i : Nat), x]) ∧ ∀ xs, SqT K H a xs → xs[i]? = some x, fun i H => ∃ xs : List V, SqT K H a xs ∧ xs.length ≤ i⟩
theorem turn_enumT {P : Program} {w : World} {K : PySem.W.Frag} {elts : List Expr} {kk : Nat} {tpos : Pos} (a e it : Addr) :
    Turn P w K (.Tuple elts kk tpos) (IteT K a) [e, it] e (fun i h => (∃ old, IsEnum h e it ((i : Nat) : Int) old) ∧ h.IsTupleIter it a i ∧ e ≠ it) where
  mem := by simp
  obj := fun i h st b hb => by
    obtain ⟨⟨old, he⟩, ⟨o, ho, hc, hd⟩, _⟩ := st
    have e' : b = e ∨ b = it := by simpa using hb
    rcases e' with z | z
    · rw [z]; exact ⟨_, he, fun v q => nomatch q⟩
    · rw [z]; exact ⟨o, ho, fun v q => by rw [hd] at q; cases q⟩
  keep := fun i h h' st k => let ⟨⟨old, he⟩, hi, hne⟩ := st; ⟨⟨old, k e (by simp) _ he⟩, hi.at fun o q => k it (by simp) o q, hne⟩
  item := by
    intro X hP hw hK hc i pins s σ H E I hf st hg
    subst hP hw hK
    obtain ⟨⟨old, he⟩, hit, hne⟩ := st
    obtain ⟨xs, x, hq, hx⟩ := hg
    obtain ⟨its, rv, p, hz⟩ := I.tuple hq
    obtain ⟨u, hu, ru⟩ := rv.get hx
    have hel : e < s.heap.objs.size := Heap.lt_size he
    have hil : it < s.heap.objs.size := by obtain ⟨_, q, _⟩ := hit; exact Heap.lt_size q
    have hat : a ≠ it := fun z => by
      obtain ⟨o1, q1, c1, d1⟩ := hit
      obtain ⟨o2, q2, c2, n2, d2⟩ := p
      rw [z, q1] at q2
      cases q2
      rw [d1] at d2
      cases d2
    have hea : e ≠ a := fun z => by
      obtain ⟨o2, q2, c2, n2, d2⟩ := p
      have he' : s.heap.get? e = some _ := he
      rw [z, q2] at he'
      cases he'
      cases d2
    have hlt : i < its.toArray.size := by
      have := (List.getElem?_eq_some_iff.mp hu).1
      simpa using this
    refine wpAny_pyNext_enum_itemD (Draws.tuple (A := X.A.in1) (I.ok.hd hc) it a hat its.toArray) he ⟨hit, p⟩ hlt hne (by simp [hne, hea]) fun x' h' tk hP ho hst' hT hsz hk => ?_
    have hx' : x' = u := by
      have q : its.toArray[i]? = some x' := hP
      rw [List.getElem?_toArray, hu] at q
      exact (Option.some.inj q).symm
    subst hx'
    refine ⟨_, rfl, wpAny_letOwnedTupleGo_enum (s := { s with heap := h', toks := tk + 1 }) ho fun h'' he' sb => ?_⟩
    have hT2 : h''.get? s.heap.objs.size = some { cls := .type "tuple", data := .seq #[.int i tk, x'] } := (sb.2 _ (Nat.ne_of_gt hel)).trans hT
    have new : ObjOk X.prog X.w (upd H s.heap.objs.size (.tup [.int (i : Nat), x])) h'' s.heap.objs.size (.tup [.int (i : Nat), x]) :=
      ⟨by show 2 ≤ sizeLine; decide, [.int i tk, x'], .cons ⟨_, rfl⟩ (.cons ru .nil), ⟨_, hT2, rfl, _, rfl⟩⟩
    have I1 : Inv X pins σ (upd H s.heap.objs.size (.tup [.int (i : Nat), x])) { s with heap := h'', toks := tk + 1 } :=
      I.turnedNew (ch := [e, it]) (fun b ob hb q => (sb.2 b (fun z => hb (by simp [z]))).trans (hk b ob (fun z => hb (by simp [z])) (fun z => hb (by simp [z])) q)) hf (Nat.le_refl _) new
    refine ⟨.ref s.heap.objs.size, _, I1, rfl, ⟨_, x, rfl, I.hok.fresh (Nat.le_refl _), rfl, fun ys hy => by rw [I.tuple_inj hy hq]; exact hx⟩, ⟨⟨x', ?_⟩, hst'.1.at fun o q => (sb.2 it (Ne.symm hne)).trans q, hne⟩, fun b hb => ?_⟩
    · have e1 : ((i + 1 : Nat) : Int) = (i : Int) + 1 := by omega
      rw [e1]; exact he'
    · have hb' : b < s.heap.objs.size := by
        have e' : b = e ∨ b = it := by simpa using hb
        rcases e' with z | z
        · rw [z]; exact hel
        · rw [z]; exact hil
      rw [upd_ne (Nat.ne_of_lt hb')]
      exact (hf b hb).1
  done := by
    intro X hP hw hK hc i pins s σ H E I hf st hg
    subst hP hw hK
    obtain ⟨⟨old, he⟩, hit, hne⟩ := st
    obtain ⟨xs, hq, hx⟩ := hg
    obtain ⟨its, rv, p, hz⟩ := I.tuple hq
    obtain ⟨f0, f1, f2, f3, f4, f5⟩ := hf it (by simp)
    have hl := rv.length
    exact wpAny_pyNext_enum_endT (I.ok.hd hc) he hit (show s.heap.IsTuple a its.toArray from p) (by simp; omega) fun h' eb => ⟨rfl, I.turned (t' := s.toks) (fun b o hb q => eb b o hb q) f0 f1 f3 f4 f5⟩
  self := fun A i s Q E st h => let ⟨⟨_, he⟩, _⟩ := st; wpAny_pyIter_enum he h
def iEnumT (K : PySem.W.Frag) (ta : TA) : TI := fun σ H R => ta σ H fun vs H1 => ∃ a xs, vs = [.ref a] ∧ SqT K H1 a xs ∧ R (IteT K a) H1
theorem pi_enumT {X : Cx} {e : Expr} {ta : TA} {p pos tpos : Pos} {elts : List Expr} {kk : Nat} (hg : Gl X "enumerate") (hm : X.mg "enumerate" = none) (ha : PA X [e] ta) (hs : starEach [e] X.env = [(false, eval e X.env)] := by rfl) :
    PI X (.Tuple elts kk tpos) (.Call (.Name "enumerate" p) [e] [] pos) (iEnumT X.K ta) := by
  refine ⟨fun pins s σ H R I h => ?_⟩
  refine Call_ (ld_blt I hg hm boot_enumerate (PyProof.Rows.callWith_type1 (thn (ha.run pos pins s σ H _ I h) fun us s1 ⟨vs, H1, I1, r1, q1⟩ => ?_) hs rfl))
  obtain ⟨a, xs, ex, hq, q⟩ := q1
  subst ex
  cases r1 with
  | cons r rr =>
    cases rr
    cases r
    obtain ⟨its, rv, p', hz⟩ := I1.tuple hq
    refine call_enumerate_tup (show s1.heap.IsTuple a its.toArray from p') fun h' he hit hsz hk => wpAny_pyIter_enum he ?_
    have I2 : Inv X pins σ H1 { s1 with heap := h' } := I1.kept (t' := s1.toks) hk
    refine ⟨s1.heap.objs.size + 1, [s1.heap.objs.size + 1, s1.heap.objs.size], _, _, H1, rfl, I2, turn_enumT a (s1.heap.objs.size + 1) s1.heap.objs.size, ⟨⟨.none, he⟩, hit, Nat.succ_ne_self _⟩, fun b hb => ?_, q⟩
    have e' : b = s1.heap.objs.size + 1 ∨ b = s1.heap.objs.size := by simpa using hb
    have hle : s1.heap.objs.size ≤ b := by
      rcases e' with z | z
      · rw [z]; exact Nat.le_add_right _ _
      · rw [z]; exact Nat.le_refl _
    exact I1.fpOk hle (I1.hok.fresh hle)
end L2
end
section
set_option Elab.async false
set_option linter.all false
set_option maxRecDepth 100000
set_option maxHeartbeats 4000000
/-! D9: slots written out; sorted as a new list. -/
namespace L2
open PySem PySem.Spec PyProof.Rows StX RZ
section
variable {K : PySem.W.Frag} {H : Hp} {σ : L2.St} {e : DEnv}
theorem SD.nil : SD K H [] [] := ⟨rfl, fun i d h => by simp [gv] at h⟩
theorem SD.consN {o : Option V} (h : SD K H σ e) : SD K H (o :: σ) (none :: e) := ⟨by simp [h.1], fun i d q => by
  cases i with
  | zero => simp [gv] at q
  | succ i => exact h.2 i d (by simpa [gv] using q)⟩
theorem SD.consS {v : V} {d : PyData} (hd : Dp K H v d) (h : SD K H σ e) : SD K H (some v :: σ) (some d :: e) := ⟨by simp [h.1], fun i d' q => by
  cases i with
  | zero =>
    have : d = d' := by simpa [gv] using q
    subst this
    exact ⟨v, rfl, hd⟩
  | succ i => exact h.2 i d' (by simpa [gv] using q)⟩
end
section
variable {X : Cx}
def rCDF (K : PySem.W.Frag) (g : List PyData → Option (List PyData)) : List V → Hp → VK → Prop := fun vs H Q => ∃ ds out, DpAll K H vs ds ∧ g ds = some out ∧ ∀ p ws, H p = none → DpAll K H ws out → Q (.ref p) (upd H p (.lst ws))
def sortedDL : List PyData → Option (List PyData)
  | [.list ds] => if okSort ds then some (sortL ds) else none
  | [.tuple ds] => if okSort ds then some (sortL ds) else none
  | _ => none
theorem cdf_sorted (hu : X.A.units + 64 < cLine) : CallR X (.builtin "sorted") (rCDF X.K sortedDL) := by
  intro pins s σ H xs us Q I r h
  obtain ⟨ds, d, hd, hg, q⟩ := h
  unfold sortedDL at hg
  split at hg
  · split at hg
    · rename_i ok
      cases hg
      cases hd with
      | cons h1 h2 =>
        cases h2
        obtain ⟨a, vs, rfl, hs, ha⟩ := h1.lst_inv
        rw [Vals.ref1 r]
        obtain ⟨its, rv, ⟨o, n, ho, hc, _, hdt⟩, hz⟩ := I.list hs
        exact sorted_by hu ok (fun R hR => wpAny_collect_seq a (.inl rfl) ho hc hdt (fun h' hk => hR _ _ (I.kept (t' := s.toks) hk) (by simpa using rv)) (by rw [List.size_toArray, ← rv.length]; exact hz)) ha (fun ws p h1 h2 => q p ws h1 h2)
    · cases hg
  · split at hg
    · rename_i ok
      cases hg
      cases hd with
      | cons h1 h2 =>
        cases h2
        obtain ⟨a, vs, rfl, hs, ha⟩ := h1.tup_inv
        rw [Vals.ref1 r]
        obtain ⟨its, rv, ⟨o, ho, hc, n, hdt⟩, hz⟩ := I.tuple hs
        exact sorted_by hu ok (fun R hR => wpAny_collect_seq a (.inr rfl) ho hc hdt (fun h' hk => hR _ _ (I.kept (t' := s.toks) hk) (by simpa using rv)) (by rw [List.size_toArray, ← rv.length]; exact hz)) ha (fun ws p h1 h2 => q p ws h1 h2)
    · cases hg
  · cases hg
def callLF (g : List PyData → Option (List PyData)) (fs : DFs) : DFs := fun e => (fs e).bind g
theorem pf_callB {id : String} {g : List PyData → Option (List PyData)} {x : Str} {p : Pos} {a : Expr} {es : List Expr} {fs : DFs} {pos : Pos} (c : CallR X (.builtin id) (rCDF X.K g)) (hg : Gl X x) (hm : X.mg x = none) (hv : bootBuiltins x = some (.builtin id)) (ha : PAD X (a :: es) fs) (hn : x ≠ "__name__" := by decide) (hdb : (x == ("__debug__" : Str)) = false := by decide)
    (he : starEach (a :: es) X.env = (false, eval a X.env) :: starEach es X.env := by rfl) (hpl : (backTo pos (starEach es X.env)).any (·.1) = false := by rfl) : PE X (.Call (.Name x p) (a :: es) [] pos) (tDF X.K (callLF g fs)) :=
  PE.imp (pe_callB c hg hm hv ha hn hdb he hpl) fun σ H Q ⟨e, out, hs, he, k⟩ => by
    obtain ⟨ds, hds, he⟩ := Option.bind_eq_some_iff.mp he
    refine ⟨e, ds, hs, hds, fun vs H1 s1 d1 => ⟨ds, out, d1, he, fun p ws hp hw => k p ws _ (s1.free hp) (s1.trans (same_new hp)) upd_same (DpAll.same (same_new hp) _ _ hw)⟩⟩
end
end L2
end
section
set_option Elab.async false
set_option linter.all false
set_option maxRecDepth 100000
set_option maxHeartbeats 4000000
/-! E0: the text by places, and what is known of it behind the top. -/
namespace L2
open PySem PySem.Spec PyProof.Rows StX RZ
theorem Room.u65 {k : Nat} {A : Around} (r : Room k A) : A.units + 65 < cLine := by have := r.un; omega
theorem pd_gstr {X : Cx} {x z : Str} {pos : Pos} (hg : Gl X x) (h : ∃ t, X.mg x = some (.str z t)) (hd : (x == ("__debug__" : Str)) = false := by decide) : PD X (.Name x pos) (fun _ => some (.str z)) := by
  obtain ⟨t, h⟩ := h
  exact pd_c (pe_glob (v := .str z) hg h ⟨t, rfl⟩ hd) fun _ => .str z
theorem pd_never {X : Cx} {e : Expr} : PD X e (fun _ => none) := ⟨fun _ _ _ _ _ _ ⟨_, _, _, h, _⟩ => nomatch h⟩
def negF (f : DF) : DF := fun e => (f e).bind fun d => match d with
  | .int i => some (.int (-i))
  | _ => none
theorem pd_neg {X : Cx} {a : Expr} {f : DF} {pos : Pos} (h : PD X a f) : PD X (.UnaryOp .USub a pos) (negF f) := PE.imp (pe_un un_neg h) fun σ H Q ⟨e, r, hs, he, k⟩ => by
  obtain ⟨d, hd, he⟩ := Option.bind_eq_some_iff.mp he
  refine ⟨e, d, hs, hd, fun v H1 s1 d1 => ?_⟩
  split at he
  · cases he
    exact ⟨_, d1.int_inv, k _ H1 s1 (.int _)⟩
  · cases he
end L2
namespace Lb
open PySem PySem.Spec PyProof.Rows L2 StX RZ
def topS (i : Nat) : Stmt := PySem.Challenge.pw_lentblocks_k66_whole_pools_by_sizes.main.body.getD i (.Pass ⟨0, 0, 0, 0⟩)
abbrev s_is_number : Stmt := topS 5
abbrev s_is_count : Stmt := topS 6
abbrev s_tupled : Stmt := topS 7
abbrev s_check_square : Stmt := topS 9
abbrev s_pool_for : Stmt := topS 10
abbrev s_is_parting : Stmt := topS 11
abbrev s_all_partings : Stmt := topS 12
abbrev s_pools_for : Stmt := topS 13
abbrev s_total_for : Stmt := topS 14
abbrev s_fitting : Stmt := topS 15
abbrev s_best_parting : Stmt := topS 16
abbrev s_is_best_parting : Stmt := topS 17
abbrev s_ratios : Stmt := topS 19
abbrev s_common_part : Stmt := topS 21
abbrev s_unit : Stmt := topS 23
abbrev s_is_even : Stmt := topS 24
abbrev s_check_even : Stmt := topS 25
abbrev s_lines : Stmt := topS 26
abbrev s_least_pool : Stmt := topS 27
abbrev s_asks_of : Stmt := topS 30
abbrev s_raised : Stmt := topS 32
abbrev s_first_free : Stmt := topS 33
abbrev s_first_place : Stmt := topS 34
abbrev s_played : Stmt := topS 35
abbrev s_ends_of : Stmt := topS 36
abbrev s_serves_first : Stmt := topS 37
abbrev s_first_pool : Stmt := topS 38
abbrev s_is_clear : Stmt := topS 44
abbrev s_is_answer : Stmt := topS 45
abbrev s_going_back : Stmt := topS 46
abbrev s_cells_met : Stmt := topS 47
abbrev s_opposed : Stmt := topS 48
abbrev s_check_budget : Stmt := topS 49
abbrev s_asker : Stmt := topS 50
abbrev s_opponent : Stmt := topS 51
abbrev s_law_box : Stmt := topS 53
abbrev s_law_take : Stmt := topS 54
abbrev s_law_cells : Stmt := topS 55
abbrev s_law_of : Stmt := topS 56
abbrev s_law_same : Stmt := topS 57
abbrev s_law_need : Stmt := topS 58
abbrev s_law_dealt : Stmt := topS 59
abbrev s_law_scaled : Stmt := topS 60
abbrev s_law_row : Stmt := topS 61
abbrev s_law_dealt_right : Stmt := topS 62
abbrev s_law_by_hand_right : Stmt := topS 63
abbrev s_law_right : Stmt := topS 64
abbrev s_law : Stmt := topS 65
structure Txt (K : PySem.W.Frag) (mg : Str → Option Value) : Prop where
  d_is_number : DefAt K mg "is_number" s_is_number
  d_is_count : DefAt K mg "is_count" s_is_count
  d_tupled : DefAt K mg "tupled" s_tupled
  d_check_square : DefAt K mg "check_square" s_check_square
  d_pool_for : DefAt K mg "pool_for" s_pool_for
  d_is_parting : DefAt K mg "is_parting" s_is_parting
  d_all_partings : DefAt K mg "all_partings" s_all_partings
  d_pools_for : DefAt K mg "pools_for" s_pools_for
  d_total_for : DefAt K mg "total_for" s_total_for
  d_fitting : DefAt K mg "fitting" s_fitting
  d_best_parting : DefAt K mg "best_parting" s_best_parting
  d_is_best_parting : DefAt K mg "is_best_parting" s_is_best_parting
  d_ratios : DefAt K mg "ratios" s_ratios
  d_common_part : DefAt K mg "common_part" s_common_part
  d_unit : DefAt K mg "unit" s_unit
  d_is_even : DefAt K mg "is_even" s_is_even
  d_check_even : DefAt K mg "check_even" s_check_even
  d_lines : DefAt K mg "lines" s_lines
  d_least_pool : DefAt K mg "least_pool" s_least_pool
  d_asks_of : DefAt K mg "asks_of" s_asks_of
  d_raised : DefAt K mg "raised" s_raised
  d_first_free : DefAt K mg "first_free" s_first_free
  d_first_place : DefAt K mg "first_place" s_first_place
  d_played : DefAt K mg "played" s_played
  d_ends_of : DefAt K mg "ends_of" s_ends_of
  d_serves_first : DefAt K mg "serves_first" s_serves_first
  d_first_pool : DefAt K mg "first_pool" s_first_pool
  d_is_clear : DefAt K mg "is_clear" s_is_clear
  d_is_answer : DefAt K mg "is_answer" s_is_answer
  d_going_back : DefAt K mg "going_back" s_going_back
  d_cells_met : DefAt K mg "cells_met" s_cells_met
  d_opposed : DefAt K mg "opposed" s_opposed
  d_check_budget : DefAt K mg "check_budget" s_check_budget
  d_asker : DefAt K mg "asker" s_asker
  d_opponent : DefAt K mg "opponent" s_opponent
  d_law_box : DefAt K mg "_law_box" s_law_box
  d_law_take : DefAt K mg "_law_take" s_law_take
  d_law_cells : DefAt K mg "_law_cells" s_law_cells
  d_law_of : DefAt K mg "_law_of" s_law_of
  d_law_same : DefAt K mg "_law_same" s_law_same
  d_law_need : DefAt K mg "_law_need" s_law_need
  d_law_dealt : DefAt K mg "_law_dealt" s_law_dealt
  d_law_scaled : DefAt K mg "_law_scaled" s_law_scaled
  d_law_row : DefAt K mg "_law_row" s_law_row
  d_law_dealt_right : DefAt K mg "_law_dealt_right" s_law_dealt_right
  d_law_by_hand_right : DefAt K mg "_law_by_hand_right" s_law_by_hand_right
  d_law_right : DefAt K mg "_law_right" s_law_right
  d_law : DefAt K mg "law" s_law
  b_len : mg "len" = none
  b_sum : mg "sum" = none
  b_max : mg "max" = none
  b_all : mg "all" = none
  b_abs : mg "abs" = none
  b_sorted : mg "sorted" = none
  b_tuple : mg "tuple" = none
  b_list : mg "list" = none
  b_int : mg "int" = none
  b_bool : mg "bool" = none
  b_str : mg "str" = none
  b_isinstance : mg "isinstance" = none
  b_zip : mg "zip" = none
  b_range : mg "range" = none
  b_enumerate : mg "enumerate" = none
  b_dict : mg "dict" = none
  b_set : mg "set" = none
  c_ASK_rows : ∃ t, mg "ASK_rows" = some (.str "ask" t)
  c_ASK_opponents : ∃ t, mg "ASK_opponents" = some (.str "ask" t)
  c_BACK : ∃ t, mg "BACK" = some (.str "back" t)
  c_REFUSED : ∃ t, mg "REFUSED" = some (.str "refused" t)
  c_SERVED : ∃ t, mg "SERVED" = some (.str "served" t)
end Lb
end
section
set_option Elab.async false
set_option linter.all false
set_option maxRecDepth 100000
set_option maxHeartbeats 4000000
namespace L2
open PySem PySem.Spec PyProof.Rows StX RZ
theorem walk_enumT {K : PySem.W.Frag} {a : Addr} {xs : List V} : Walk (IteT K a) xs.length (fun H => SqT K H a xs) (YPair (fun i => some (.int (i : Nat))) (fun i => xs[i]?)) := by
  refine ⟨fun i _ hi q => ⟨xs, xs[i], q, by simp [hi]⟩, fun _ q => ⟨xs, q, Nat.le_refl _⟩, fun i H v H' _ q y => ?_⟩
  obtain ⟨T, x, h1, h2, h3, h4⟩ := y
  exact ⟨T, .int (i : Nat), x, h1, h2, h3, rfl, h4 xs q⟩
theorem SD.weak {K : PySem.W.Frag} {H : Hp} {σ : L2.St} {e e' : DEnv} (h : SD K H σ e) (hl : e'.length = e.length) (w : ∀ i d, gv i e' = some d → gv i e = some d) : SD K H σ e' := ⟨h.1.trans hl.symm, fun i d q => h.2 i d (w i d q)⟩
theorem gv_none_set {e : DEnv} {i j : Nat} {d : PyData} (h : gv j (e.set i none) = some d) : gv j e = some d := by
  by_cases hi : i < e.length
  · rw [gv_set hi] at h
    split at h
    · cases h
    · exact h
  · rw [List.set_eq_of_length_le (by omega)] at h
    exact h
theorem SD.forget {K : PySem.W.Frag} {H : Hp} {σ : L2.St} {e : DEnv} (h : SD K H σ e) (i : Nat) : SD K H σ (e.set i none) := h.weak (by rw [List.length_set]) fun _ _ q => gv_none_set q
/-- what stands but for objects that H0 does not know -/
theorem same_mut {H0 H : Hp} {p : Addr} {o : HO} (s : Same H0 H) (h : H0 p = none) : Same H0 (upd H p o) := fun b u q => by
  rw [upd_ne (ne_of_none q h)]
  exact s b u q
end L2
namespace Lb
open PySem PySem.Spec PyProof.Rows L2 StX RZ
section
variable {P : Program} {w : World} {K : PySem.W.Frag} {mg : Str → Option Value} {base : Heap}
/-! ### all_partings -/
abbrev N_all_partings : List Str := ["chain", "found", "size", "later", "own", "place", "part"]
theorem sc_all_partings : FnScope N_all_partings ["chain"] (defScope s_all_partings) := ⟨rfl, rfl, rfl, by decide +kernel, rfl, by decide +kernel, by decide +kernel⟩
def f_ap : DF := tupF (starF (slF (gv 4) noneO (someO (gv 5))) (consF (tupF (starF (gv 6) (consF (gv 2) nilF))) (starF (slF (gv 4) (someO (bin2 (gv 5) (fun _ => some (.int 1)) addD)) noneO) nilF)))
def later_ap : DFs := compF (seqI (gv 1)) (bdName 4) [4] yesB (tupF (starF (gv 4) (consF (tupF (consF (gv 2) nilF)) nilF)))
/-- the parts of one way, from the j-th on: what each gives -/
def apIn (e : DEnv) : Nat → List PyData → Option (List PyData)
  | _, [] => some []
  | j, p :: r => (f_ap ((e.set 5 (some (.int (j : Nat)))).set 6 (some p))).bind fun t => if nl t = true then (apIn e (j + 1) r).map (t :: ·) else none
def apOut (e : DEnv) : List PyData → Option (List PyData)
  | [] => some []
  | own :: r => match own with
    | .tuple ps => if nlAll ps = true then (apIn (e.set 4 (some (.tuple ps))) 0 ps).bind fun xs => (apOut e r).bind fun ys => some (xs ++ ys) else none
    | _ => none
def e_ap (e : DEnv) : DEnv := (((e.set 3 none).set 4 none).set 5 none).set 6 none
def b_ap : DG := fun e => (later_ap e).bind fun l0 => (listI (gv 1) e).bind fun fds => (apOut (e_ap e) fds).bind fun ys => if small (l0 ++ ys).length = true ∧ nlAll l0 = true ∧ e.length = 7 then some (.nx ((e_ap e).set 1 (some (.list (l0 ++ ys))))) else none
def g_all_partings : DG := seqG (setG 1 (lstF (consF (tupF nilF) nilF))) (seqG (forG (seqI (gv 0)) (bdName 2) b_ap)
  (retG (callF sortedD (consF (asL (compF (seqI (gv 1)) (bdName 4) [4] yesB (callF tupleD (consF (callF sortedD (consF (gv 4) nilF)) nilF)))) nilF))))
def F_all_partings : List PyData → Option PyData := defD 1 7 g_all_partings
theorem has_all_partings (T : Txt K mg) : Has P w K mg base 1 "all_partings" (spD K F_all_partings) := by
  refine has_pure (g := g_all_partings) T.d_all_partings sc_all_partings (fun _ _ _ _ _ _ us hl => match us, hl with | [_], _ => rfl) fun fa cdv A outer s H E hr => ?_
  unfold g_all_partings
  refine psd_cons (psd_set 1 sc_all_partings.nd (pd_lst (pad_cons (pd_tup pad_nil) pad_nil)))
    (psd_cons (psd_for PassesOwn.never rfl (pid_seq (pd_var 0)) (pgd_name 2 sc_all_partings.nd) ?body)
    (psd_one (psd_ret (pd_callB (cd_sorted hr.units) (by rfl) T.b_sorted (by decide +kernel) (pad_cons (pd_lc (own := [("own", 4)]) rfl sc_all_partings.nd (pid_seq (pd_var 1)) (blkOk_by (N := N_all_partings) (sc := defScope s_all_partings) (by decide +kernel)) (fun _ _ _ _ _ => (pgd_name 4 sc_all_partings.nd)) (fun _ _ _ _ _ => ptsd_nil) (fun _ _ _ _ _ => (pd_callT cd_tuple (by rfl) T.b_tuple (by decide +kernel) (pad_cons (pd_callB (cd_sorted hr.units) (by rfl) T.b_sorted (by decide +kernel) (pad_cons (pd_var 4) pad_nil)) pad_nil)))) pad_nil)))))
  refine PSs.imp (pss_cons (ps_setF 3 (own := [("own", 4)]) rfl sc_all_partings.nd (pid_seq (pd_var 1)) (blkOk_by (N := N_all_partings) (sc := defScope s_all_partings) (by decide +kernel)) (fun _ _ _ _ _ => (pgd_name 4 sc_all_partings.nd)) (fun _ _ _ _ _ => ptsd_nil) (fun _ _ _ _ _ => (pd_tup (pad_star (pd_var 4) (pad_cons (pd_tup (pad_cons (pd_var 2) pad_nil)) pad_nil)))))
    (pss_cons (ps_for PassesOwn.never rfl (pi_list (pv 1)) (pg_name (i := 4) sc_all_partings.nd rfl (.inl rfl))
      (pss_one (ps_for PassesOwn.never rfl (pi_enumT (by rfl) T.b_enumerate (pa_cons (pv 4) pa_nil)) (pg_tup rfl (pgs_cons (pg_name (i := 5) sc_all_partings.nd rfl (.inl rfl)) (pgs_cons (pg_name (i := 6) sc_all_partings.nd rfl (.inl rfl)) pgs_nil)))
        (pss_one (ps_expr (pe_bm PySem.F.plainAttrs_list PySem.F.slot_list_append PySem.F.type_list_append mt_append (pv 3) (pa_cons (pd_tup (pad_star (pd_sl (pd_var 4) pod_none (pod_some (pd_var 5))) (pad_cons (pd_tup (pad_star (pd_var 6) (pad_cons (pd_var 2) pad_nil))) (pad_star (pd_sl (pd_var 4) (pod_some (pd_bin od_add (pd_var 5) pd_int)) pod_none) pad_nil)))) pa_nil)))))))
    (pss_one (ps_set (i := 1) sc_all_partings.nd rfl (.inl rfl) (pv 3))))) fun D σ H ⟨e, o, hs, he, k⟩ => ?_
  obtain ⟨l0, hl0, he⟩ := Option.bind_eq_some_iff.mp he
  obtain ⟨fds, hfd, he⟩ := Option.bind_eq_some_iff.mp he
  obtain ⟨ys, hys, he⟩ := Option.bind_eq_some_iff.mp he
  split at he
  rotate_left
  · cases he
  rename_i hz
  cases he
  obtain ⟨hz1, hz2, hz3⟩ := hz
  refine ⟨e, l0, hs, hl0, fun L vs H1 hL s1 hl hd => ?_⟩
  have hf1 : gv 1 e = some (.list fds) := by
    obtain ⟨d, hd1, h2⟩ := Option.bind_eq_some_iff.mp hfd
    split at h2
    · cases h2; exact hd1
    · cases h2
  obtain ⟨vf, hvf, hdf⟩ := hs.2 1 _ hf1
  obtain ⟨a, xs, rfl, hxs, hall⟩ := hdf.lst_inv
  have hσ : σ.length = 7 := hs.1.trans hz3
  have zl : ∀ {n : Nat}, n ≤ (l0 ++ ys).length → n < sizeLine := fun h => Nat.lt_of_le_of_lt h (small_lt hz1)
  refine ⟨.ref a, by rw [List.getElem?_set_ne (by decide)]; exact hvf, a, rfl, ⟨xs, s1.seq hxs⟩, for_it walk_list
    (fun i σ' H' => SD K H σ' (e_ap e) ∧ σ'[3]? = some (some (.ref L)) ∧ Same H H' ∧ ∃ acc outs rest, H' L = some (.lst acc) ∧ DpAll K H' acc outs ∧ nlAll outs = true ∧ apOut (e_ap e) (fds.drop i) = some rest ∧ l0 ++ ys = outs ++ rest)
    ⟨?_, List.getElem?_set_self (by omega), s1, vs, l0, ys, hl, hd, hz2, hys, rfl⟩ (fun i σ' H' _ p => p.2.2.1.seq hxs) ?turn ?done⟩
  · exact (((hs.unset 3 _).forget 4).forget 5).forget 6
  case done =>
    rintro σ' H' ⟨p1, p2, p3, acc, outs, rest, p4, p5, p6, p7, p8⟩
    rw [← hall.length.symm, List.drop_length] at p7
    cases p7
    rw [List.append_nil] at p8
    refine ⟨.ref L, p2, k _ H' p3 ((p1.same p3).set 1 (.lst (SqL.of p4) ?_))⟩
    rw [p8]
    exact p5
  case turn =>
    rintro i x σ' H' H2 hi ⟨p1, p2, p3, acc, outs, rest, p4, p5, p6, p7, p8⟩ ⟨rfl, hx⟩
    have hi' : i < fds.length := by rw [← hall.length]; exact hi
    obtain ⟨d, hd1, hd2⟩ := hall.getV hx
    rw [drop_get hi'] at p7
    rw [List.getElem?_eq_getElem hi'] at hd1
    cases hd1
    unfold apOut at p7
    split at p7
    rotate_left
    · cases p7
    rename_i ps hown
    split at p7
    rotate_left
    · cases p7
    rename_i hnp
    obtain ⟨xs1, h1, p7⟩ := Option.bind_eq_some_iff.mp p7
    obtain ⟨ys1, h2, p7⟩ := Option.bind_eq_some_iff.mp p7
    cases p7
    rw [hown] at hd2
    have hd2' := hd2
    obtain ⟨b, us, rfl, hus, hua⟩ := hd2.tup_inv
    have hσ' : σ'.length = 7 := by rw [p1.1]; simp [e_ap, hz3]
    have p14 := p1.set 4 hd2'
    refine ⟨.ref b, List.getElem?_set_self (by omega), b, us, rfl, sqT_same p3 hus, for_it walk_enumT
      (fun j σ2 H2 => SD K H σ2 ((e_ap e).set 4 (some (.tuple ps))) ∧ σ2[3]? = some (some (.ref L)) ∧ Same H H2 ∧ ∃ acc1 outs1 rest1, H2 L = some (.lst acc1) ∧ DpAll K H2 acc1 outs1 ∧ nlAll outs1 = true ∧ apIn ((e_ap e).set 4 (some (.tuple ps))) j (ps.drop j) = some rest1 ∧ outs ++ xs1 = outs1 ++ rest1)
      ⟨p14, by rw [List.getElem?_set_ne (by decide)]; exact p2, p3, acc, outs, xs1, p4, p5, p6, h1, rfl⟩ (fun j σ2 H2 _ q => sqT_same q.2.2.1 hus) ?turn1 ?done1⟩
    case done1 =>
      rintro σ2 H2 ⟨q1, q2, q3, acc1, outs1, rest1, q4, q5, q6, q7, q8⟩
      rw [← hua.length.symm, List.drop_length] at q7
      cases q7
      rw [List.append_nil] at q8
      refine ⟨q1.weak (by simp) (fun j d hj => ?_), q2, q3, acc1, outs1, ys1, q4, q5, q6, h2, ?_⟩
      · have hl7 : (e_ap e).length = 7 := by simp [e_ap, hz3]
        rw [gv_set (by omega)]
        by_cases h4 : j = 4
        · subst h4
          have : gv 4 (e_ap e) = none := by
            unfold e_ap
            rw [gv_set (by simp; omega), if_neg (by decide), gv_set (by simp; omega), if_neg (by decide), gv_set (by simp; omega), if_pos rfl]
          rw [this] at hj
          cases hj
        · rw [if_neg h4]
          exact hj
      · rw [p8, ← q8, List.append_assoc]
    case turn1 =>
      rintro j y σ2 H2 H3 hj ⟨q1, q2, q3, acc1, outs1, rest1, q4, q5, q6, q7, q8⟩ ⟨T0, x1, y1, rfl, hT, rfl, hx1, hy1⟩
      cases hx1
      have hj' : j < ps.length := by rw [← hua.length]; exact hj
      obtain ⟨d1, hd1, hd3⟩ := hua.getV hy1
      rw [List.getElem?_eq_getElem hj'] at hd1
      cases hd1
      rw [drop_get hj'] at q7
      obtain ⟨t, ht, q7⟩ := Option.bind_eq_some_iff.mp q7
      split at q7
      rotate_left
      · cases q7
      rename_i hnt
      obtain ⟨rest2, q7', rfl⟩ := Option.map_eq_some_iff.mp q7
      have hσ2 : σ2.length = 7 := by rw [q1.1]; simp [e_ap, hz3]
      have sT := same_new (o := .tup [V.int (j : Nat), y1]) hT
      have hL3 : (upd H2 T0 (.tup [V.int (j : Nat), y1])) L = some (.lst acc1) := sT L _ q4
      have s3 : Same H (upd H2 T0 (.tup [V.int (j : Nat), y1])) := q3.trans sT
      refine ⟨T0, [.int (j : Nat), y1], rfl, .inl (.inl upd_same), rfl, .int (j : Nat), [y1], rfl, y1, [], rfl, rfl, .ref L, ?_, .inl ⟨rfl, _, SqL.of hL3⟩, _, t, ((q1.same s3).set 5 (.int _)).set 6 (Dp.same s3 _ _ hd3), ht, fun v H4 s4 d4 => ⟨L, acc1, v, rfl, rfl, s4 L _ hL3, ?_, ?_⟩⟩
      · rw [List.getElem?_set_ne (by decide), List.getElem?_set_ne (by decide)]
        exact q2
      · rw [q5.length]
        refine zl ?_
        have e1 := congrArg List.length p8
        have e2 := congrArg List.length q8
        simp only [List.length_append, List.length_cons] at e1 e2 ⊢
        omega
      · have s24 : Same H2 H4 := sT.trans s4
        have ts := TSame.lst (u := .lst (acc1 ++ [v])) (s4 L _ hL3)
        refine ⟨((q1.unset 5 (some (.int (j : Nat)))).unset 6 (some y1)).weak (by simp) (fun m d hm => ?_), ?_, same_mut (q3.trans s24) hL, acc1 ++ [v], outs1 ++ [t], rest2, upd_same, DpAll.snoc (DpAll.tsame ts _ _ q6 (DpAll.same s24 _ _ q5)) (Dp.tsame ts _ _ hnt d4), nlAll_snoc q6 hnt, q7', by rw [q8]; simp⟩
        · have hl7 : ((e_ap e).set 4 (some (.tuple ps))).length = 7 := by simp [e_ap, hz3]
          rw [gv_set (by rw [List.length_set]; omega), gv_set (by omega)]
          have n5 : gv 5 ((e_ap e).set 4 (some (.tuple ps))) = none := by
            rw [gv_set (by simp [e_ap]; omega), if_neg (by decide)]
            unfold e_ap
            rw [gv_set (by simp; omega), if_neg (by decide), gv_set (by simp; omega), if_pos rfl]
          have n6 : gv 6 ((e_ap e).set 4 (some (.tuple ps))) = none := by
            rw [gv_set (by simp [e_ap]; omega), if_neg (by decide)]
            unfold e_ap
            rw [gv_set (by simp; omega), if_pos rfl]
          by_cases h6 : m = 6
          · subst h6; rw [n6] at hm; cases hm
          · by_cases h5 : m = 5
            · subst h5; rw [n5] at hm; cases hm
            · rw [if_neg h6, if_neg h5]; exact hm
        · rw [List.getElem?_set_ne (by decide), List.getElem?_set_ne (by decide)]
          exact q2
end
end Lb
end
section
set_option Elab.async false
set_option linter.all false
set_option maxRecDepth 100000
set_option maxHeartbeats 4000000
namespace Lb
open PySem PySem.Spec PyProof.Rows L2 StX RZ
section
variable {P : Program} {w : World} {K : PySem.W.Frag} {mg : Str → Option Value} {base : Heap}
abbrev N_is_number : List Str := ["value"]
theorem sc_is_number : FnScope N_is_number ["value"] (defScope s_is_number) := ⟨rfl, rfl, rfl, by decide +kernel, rfl, by decide +kernel, by decide +kernel⟩
def g_is_number : DG := (retG (andV (isiF "int" (gv 0)) (notV (isiF "bool" (gv 0)))))
def F_is_number : List PyData → Option PyData := defD 1 1 g_is_number
theorem has_is_number (T : Txt K mg) : Has P w K mg base 1 "is_number" (spD K F_is_number) := by
  refine has_pure (g := g_is_number) T.d_is_number sc_is_number (fun _ _ _ _ _ _ us hl => match us, hl with | [_], _ => rfl) fun fa cdv A outer s H E hr => ?_
  unfold g_is_number
  exact (psd_one (psd_ret (pd_and (pd_isi (c := "int") (by rfl) T.b_isinstance (by rfl) T.b_int (by decide +kernel) (by decide) (pd_var 0)) (pd_one (pd_not (pd_isi (c := "bool") (by rfl) T.b_isinstance (by rfl) T.b_bool (by decide +kernel) (by decide) (pd_var 0)))))))
abbrev N_is_count : List Str := ["value"]
theorem sc_is_count : FnScope N_is_count ["value"] (defScope s_is_count) := ⟨rfl, rfl, rfl, by decide +kernel, rfl, by decide +kernel, by decide +kernel⟩
def g_is_count : DG := (retG (andV (callF F_is_number (consF (gv 0) nilF)) (bin2 (gv 0) (fun _ => some (.int 0)) geD)))
def F_is_count : List PyData → Option PyData := defD 1 1 g_is_count
theorem has_is_count (T : Txt K mg) (G_is_number : Has P w K mg base 1 "is_number" (spD K F_is_number)) : Has P w K mg base 2 "is_count" (spD K F_is_count) := by
  refine has_pure (g := g_is_count) T.d_is_count sc_is_count (fun _ _ _ _ _ _ us hl => match us, hl with | [_], _ => rfl) fun fa cdv A outer s H E hr => ?_
  unfold g_is_count
  exact (psd_one (psd_ret (pd_and (pd_call G_is_number hr (by rfl) (pad_cons (pd_var 0) pad_nil)) (pd_one (pd_cmp od_ge (pd_var 0) pd_int)))))
abbrev N_check_square : List Str := ["sizes", "budget"]
theorem sc_check_square : FnScope N_check_square ["sizes", "budget"] (defScope s_check_square) := ⟨rfl, rfl, rfl, by decide +kernel, rfl, by decide +kernel, by decide +kernel⟩
def g_check_square : DG := (ifG (btest (bin2 (bin2 (gv 1) (bin2 (bin2 (gv 0) (negF (fun _ => some (.int 1))) ixD) (bin2 (gv 0) (negF (fun _ => some (.int 1))) ixD) mulD) modD) (fun _ => some (.int 0)) neD)) neverG skipG)
def F_check_square : List PyData → Option PyData := defD 2 2 g_check_square
theorem has_check_square (T : Txt K mg) : Has P w K mg base 1 "check_square" (spD K F_check_square) := by
  refine has_pure (g := g_check_square) T.d_check_square sc_check_square (fun _ _ _ _ _ _ us hl => match us, hl with | [_, _], _ => rfl) fun fa cdv A outer s H E hr => ?_
  unfold g_check_square
  exact (psd_one (psd_if (ptd_cmp (od_ne hr.units) (pd_bin od_mod (pd_var 1) (pd_bin od_mul (pd_ix (pd_var 0) (pd_neg pd_int)) (pd_ix (pd_var 0) (pd_neg pd_int)))) pd_int) (psd_one psd_never) psd_nil))
abbrev N_pool_for : List Str := ["sizes", "budget", "near", "far"]
theorem sc_pool_for : FnScope N_pool_for ["sizes", "budget"] (defScope s_pool_for) := ⟨rfl, rfl, rfl, by decide +kernel, rfl, by decide +kernel, by decide +kernel⟩
def g_pool_for : DG := (seqG (dropG (callF F_check_square (consF (gv 0) (consF (gv 1) nilF))))
  (retG (bin2 (gv 1) (callF sumD (consF (asL (compF (zipI (consF (gv 0) (consF (slF (gv 0) (someO (fun _ => some (.int 1))) noneO) nilF))) (bdTup 2 (bdsCons (bdName 2) (bdsCons (bdName 3) bdsNil))) [2, 3] yesB (bin2 (gv 1) (bin2 (bin2 (gv 1) (gv 2) mulD) (gv 3) divD) subD))) nilF)) addD)))
def F_pool_for : List PyData → Option PyData := defD 2 4 g_pool_for
theorem has_pool_for (T : Txt K mg) (G_check_square : Has P w K mg base 1 "check_square" (spD K F_check_square)) : Has P w K mg base 2 "pool_for" (spD K F_pool_for) := by
  refine has_pure (g := g_pool_for) T.d_pool_for sc_pool_for (fun _ _ _ _ _ _ us hl => match us, hl with | [_, _], _ => rfl) fun fa cdv A outer s H E hr => ?_
  unfold g_pool_for
  exact (psd_cons (psd_expr (pd_call G_check_square hr (by rfl) (pad_cons (pd_var 0) (pad_cons (pd_var 1) pad_nil))))
      (psd_one (psd_ret (pd_bin od_add (pd_var 1) (pd_callB (cd_sum rfl) (by rfl) T.b_sum (by decide +kernel) (pad_cons (pd_lc (own := [("near", 2), ("far", 3)]) rfl sc_pool_for.nd (pid_zip (by rfl) T.b_zip (pad_cons (pd_var 0) (pad_cons (pd_sl (pd_var 0) (pod_some pd_int) pod_none) pad_nil))) (blkOk_by (N := N_pool_for) (sc := defScope s_pool_for) (by decide +kernel)) (fun _ _ _ _ _ => (pgd_tup rfl (pgds_cons (pgd_name 2 sc_pool_for.nd) (pgds_cons (pgd_name 3 sc_pool_for.nd) pgds_nil)))) (fun _ _ _ _ _ => ptsd_nil) (fun _ _ _ _ _ => (pd_bin od_sub (pd_var 1) (pd_bin od_div (pd_bin od_mul (pd_var 1) (pd_var 2)) (pd_var 3))))) pad_nil))))))
abbrev N_pools_for : List Str := ["parts", "budget", "part"]
theorem sc_pools_for : FnScope N_pools_for ["parts", "budget"] (defScope s_pools_for) := ⟨rfl, rfl, rfl, by decide +kernel, rfl, by decide +kernel, by decide +kernel⟩
def g_pools_for : DG := (retG (callF tupleD (consF (asL (compF (seqI (gv 0)) (bdName 2) [2] yesB (callF F_pool_for (consF (gv 2) (consF (gv 1) nilF))))) nilF)))
def F_pools_for : List PyData → Option PyData := defD 2 3 g_pools_for
theorem has_pools_for (T : Txt K mg) (G_pool_for : Has P w K mg base 2 "pool_for" (spD K F_pool_for)) : Has P w K mg base 3 "pools_for" (spD K F_pools_for) := by
  refine has_pure (g := g_pools_for) T.d_pools_for sc_pools_for (fun _ _ _ _ _ _ us hl => match us, hl with | [_, _], _ => rfl) fun fa cdv A outer s H E hr => ?_
  unfold g_pools_for
  exact (psd_one (psd_ret (pd_callT cd_tuple (by rfl) T.b_tuple (by decide +kernel) (pad_cons (pd_lc (own := [("part", 2)]) rfl sc_pools_for.nd (pid_seq (pd_var 0)) (blkOk_by (N := N_pools_for) (sc := defScope s_pools_for) (by decide +kernel)) (fun _ _ _ _ _ => (pgd_name 2 sc_pools_for.nd)) (fun _ _ _ _ _ => ptsd_nil) (fun _ _ _ _ _ => (pd_call G_pool_for hr (by rfl) (pad_cons (pd_var 2) (pad_cons (pd_var 1) pad_nil))))) pad_nil))))
abbrev N_total_for : List Str := ["chain", "parts", "budget"]
theorem sc_total_for : FnScope N_total_for ["chain", "parts", "budget"] (defScope s_total_for) := ⟨rfl, rfl, rfl, by decide +kernel, rfl, by decide +kernel, by decide +kernel⟩
def g_total_for : DG := (seqG (dropG (callF F_check_square (consF (gv 0) (consF (gv 2) nilF))))
  (retG (callF sumD (consF (callF F_pools_for (consF (gv 1) (consF (gv 2) nilF))) nilF))))
def F_total_for : List PyData → Option PyData := defD 3 3 g_total_for
theorem has_total_for (T : Txt K mg) (G_check_square : Has P w K mg base 1 "check_square" (spD K F_check_square)) (G_pools_for : Has P w K mg base 3 "pools_for" (spD K F_pools_for)) : Has P w K mg base 4 "total_for" (spD K F_total_for) := by
  refine has_pure (g := g_total_for) T.d_total_for sc_total_for (fun _ _ _ _ _ _ us hl => match us, hl with | [_, _, _], _ => rfl) fun fa cdv A outer s H E hr => ?_
  unfold g_total_for
  exact (psd_cons (psd_expr (pd_call G_check_square hr (by rfl) (pad_cons (pd_var 0) (pad_cons (pd_var 2) pad_nil))))
      (psd_one (psd_ret (pd_callB (cd_sum rfl) (by rfl) T.b_sum (by decide +kernel) (pad_cons (pd_call G_pools_for hr (by rfl) (pad_cons (pd_var 1) (pad_cons (pd_var 2) pad_nil))) pad_nil)))))
abbrev N_ratios : List Str := ["chain", "near", "far"]
theorem sc_ratios : FnScope N_ratios ["chain"] (defScope s_ratios) := ⟨rfl, rfl, rfl, by decide +kernel, rfl, by decide +kernel, by decide +kernel⟩
def g_ratios : DG := (retG (callF tupleD (consF (asL (compF (zipI (consF (gv 0) (consF (slF (gv 0) (someO (fun _ => some (.int 1))) noneO) nilF))) (bdTup 2 (bdsCons (bdName 1) (bdsCons (bdName 2) bdsNil))) [1, 2] yesB (bin2 (gv 2) (gv 1) divD))) nilF)))
def F_ratios : List PyData → Option PyData := defD 1 3 g_ratios
theorem has_ratios (T : Txt K mg) : Has P w K mg base 1 "ratios" (spD K F_ratios) := by
  refine has_pure (g := g_ratios) T.d_ratios sc_ratios (fun _ _ _ _ _ _ us hl => match us, hl with | [_], _ => rfl) fun fa cdv A outer s H E hr => ?_
  unfold g_ratios
  exact (psd_one (psd_ret (pd_callT cd_tuple (by rfl) T.b_tuple (by decide +kernel) (pad_cons (pd_lc (own := [("near", 1), ("far", 2)]) rfl sc_ratios.nd (pid_zip (by rfl) T.b_zip (pad_cons (pd_var 0) (pad_cons (pd_sl (pd_var 0) (pod_some pd_int) pod_none) pad_nil))) (blkOk_by (N := N_ratios) (sc := defScope s_ratios) (by decide +kernel)) (fun _ _ _ _ _ => (pgd_tup rfl (pgds_cons (pgd_name 1 sc_ratios.nd) (pgds_cons (pgd_name 2 sc_ratios.nd) pgds_nil)))) (fun _ _ _ _ _ => ptsd_nil) (fun _ _ _ _ _ => (pd_bin od_div (pd_var 2) (pd_var 1)))) pad_nil))))
abbrev N_common_part : List Str := ["one", "other"]
theorem sc_common_part : FnScope N_common_part ["one", "other"] (defScope s_common_part) := ⟨rfl, rfl, rfl, by decide +kernel, rfl, by decide +kernel, by decide +kernel⟩
def g_common_part : DG := (seqG (whileD (btest (bin2 (gv 1) (fun _ => some (.int 0)) neD)) (parG 0 1 (consF (gv 1) (consF (bin2 (gv 0) (gv 1) modD) nilF))) 100)
  (retG (callF absD (consF (gv 0) nilF))))
def F_common_part : List PyData → Option PyData := defD 2 2 g_common_part
theorem has_common_part (T : Txt K mg) : Has P w K mg base 1 "common_part" (spD K F_common_part) := by
  refine has_pure (g := g_common_part) T.d_common_part sc_common_part (fun _ _ _ _ _ _ us hl => match us, hl with | [_, _], _ => rfl) fun fa cdv A outer s H E hr => ?_
  unfold g_common_part
  exact (psd_cons (psd_while 100 PassesOwn.never (ptd_cmp (od_ne hr.units) (pd_var 1) pd_int) (psd_one (psd_par 0 1 rfl sc_common_part.nd (pad_cons (pd_var 1) (pad_cons (pd_bin od_mod (pd_var 0) (pd_var 1)) pad_nil)))))
      (psd_one (psd_ret (pd_callB cd_abs (by rfl) T.b_abs (by decide +kernel) (pad_cons (pd_var 0) pad_nil)))))
abbrev N_unit : List Str := ["chain", "found", "ratio"]
theorem sc_unit : FnScope N_unit ["chain"] (defScope s_unit) := ⟨rfl, rfl, rfl, by decide +kernel, rfl, by decide +kernel, by decide +kernel⟩
def g_unit : DG := (seqG (setG 1 (fun _ => some (.int 1)))
  (seqG (forG (seqI (callF F_ratios (consF (gv 0) nilF))) (bdName 2) (setG 1 (bin2 (bin2 (gv 1) (gv 2) mulD) (callF F_common_part (consF (gv 1) (consF (gv 2) nilF))) divD)))
  (retG (bin2 (gv 1) (bin2 (gv 0) (negF (fun _ => some (.int 1))) ixD) mulD))))
def F_unit : List PyData → Option PyData := defD 1 3 g_unit
theorem has_unit (T : Txt K mg) (G_common_part : Has P w K mg base 1 "common_part" (spD K F_common_part)) (G_ratios : Has P w K mg base 1 "ratios" (spD K F_ratios)) : Has P w K mg base 2 "unit" (spD K F_unit) := by
  refine has_pure (g := g_unit) T.d_unit sc_unit (fun _ _ _ _ _ _ us hl => match us, hl with | [_], _ => rfl) fun fa cdv A outer s H E hr => ?_
  unfold g_unit
  exact (psd_cons (psd_set 1 sc_unit.nd pd_int)
      (psd_cons (psd_for PassesOwn.never rfl (pid_seq (pd_call G_ratios hr (by rfl) (pad_cons (pd_var 0) pad_nil))) (pgd_name 2 sc_unit.nd) (psd_one (psd_set 1 sc_unit.nd (pd_bin od_div (pd_bin od_mul (pd_var 1) (pd_var 2)) (pd_call G_common_part hr (by rfl) (pad_cons (pd_var 1) (pad_cons (pd_var 2) pad_nil)))))))
      (psd_one (psd_ret (pd_bin od_mul (pd_var 1) (pd_ix (pd_var 0) (pd_neg pd_int)))))))
abbrev N_is_even : List Str := ["chain", "budget"]
theorem sc_is_even : FnScope N_is_even ["chain", "budget"] (defScope s_is_even) := ⟨rfl, rfl, rfl, by decide +kernel, rfl, by decide +kernel, by decide +kernel⟩
def g_is_even : DG := (retG (bin2 (bin2 (gv 1) (callF F_unit (consF (gv 0) nilF)) modD) (fun _ => some (.int 0)) eqD))
def F_is_even : List PyData → Option PyData := defD 2 2 g_is_even
theorem has_is_even (T : Txt K mg) (G_unit : Has P w K mg base 2 "unit" (spD K F_unit)) : Has P w K mg base 3 "is_even" (spD K F_is_even) := by
  refine has_pure (g := g_is_even) T.d_is_even sc_is_even (fun _ _ _ _ _ _ us hl => match us, hl with | [_, _], _ => rfl) fun fa cdv A outer s H E hr => ?_
  unfold g_is_even
  exact (psd_one (psd_ret (pd_cmp (od_eq hr.units) (pd_bin od_mod (pd_var 1) (pd_call G_unit hr (by rfl) (pad_cons (pd_var 0) pad_nil))) pd_int)))
abbrev N_check_even : List Str := ["chain", "budget"]
theorem sc_check_even : FnScope N_check_even ["chain", "budget"] (defScope s_check_even) := ⟨rfl, rfl, rfl, by decide +kernel, rfl, by decide +kernel, by decide +kernel⟩
def g_check_even : DG := (ifG (notB (btest (callF F_is_even (consF (gv 0) (consF (gv 1) nilF))))) neverG skipG)
def F_check_even : List PyData → Option PyData := defD 2 2 g_check_even
theorem has_check_even (T : Txt K mg) (G_is_even : Has P w K mg base 3 "is_even" (spD K F_is_even)) : Has P w K mg base 4 "check_even" (spD K F_check_even) := by
  refine has_pure (g := g_check_even) T.d_check_even sc_check_even (fun _ _ _ _ _ _ us hl => match us, hl with | [_, _], _ => rfl) fun fa cdv A outer s H E hr => ?_
  unfold g_check_even
  exact (psd_one (psd_if (ptd_not (ptd_val (pd_call G_is_even hr (by rfl) (pad_cons (pd_var 0) (pad_cons (pd_var 1) pad_nil))))) (psd_one psd_never) psd_nil))
abbrev N_raised : List Str := ["number", "size"]
theorem sc_raised : FnScope N_raised ["number", "size"] (defScope s_raised) := ⟨rfl, rfl, rfl, by decide +kernel, rfl, by decide +kernel, by decide +kernel⟩
def g_raised : DG := (retG (bin2 (bin2 (bin2 (bin2 (gv 0) (gv 1) addD) (fun _ => some (.int 1)) subD) (gv 1) divD) (gv 1) mulD))
def F_raised : List PyData → Option PyData := defD 2 2 g_raised
theorem has_raised (T : Txt K mg) : Has P w K mg base 1 "raised" (spD K F_raised) := by
  refine has_pure (g := g_raised) T.d_raised sc_raised (fun _ _ _ _ _ _ us hl => match us, hl with | [_, _], _ => rfl) fun fa cdv A outer s H E hr => ?_
  unfold g_raised
  exact (psd_one (psd_ret (pd_bin od_mul (pd_bin od_div (pd_bin od_sub (pd_bin od_add (pd_var 0) (pd_var 1)) pd_int) (pd_var 1)) (pd_var 1))))
abbrev N_first_free : List Str := ["stand", "size", "place", "first", "wide"]
theorem sc_first_free : FnScope N_first_free ["stand", "size"] (defScope s_first_free) := ⟨rfl, rfl, rfl, by decide +kernel, rfl, by decide +kernel, by decide +kernel⟩
def g_first_free : DG := (seqG (setG 2 (fun _ => some (.int 0)))
  (seqG (forG (seqI (gv 0)) (bdTup 2 (bdsCons (bdName 3) (bdsCons (bdName 4) bdsNil))) (seqG (ifG (btest (bin2 (bin2 (gv 2) (gv 1) addD) (gv 3) leD)) (retG (gv 2)) skipG)
  (setG 2 (callF maxD (consF (gv 2) (consF (callF F_raised (consF (bin2 (gv 3) (gv 4) addD) (consF (gv 1) nilF))) nilF))))))
  (retG (gv 2))))
def F_first_free : List PyData → Option PyData := defD 2 5 g_first_free
theorem has_first_free (T : Txt K mg) (G_raised : Has P w K mg base 1 "raised" (spD K F_raised)) : Has P w K mg base 2 "first_free" (spD K F_first_free) := by
  refine has_pure (g := g_first_free) T.d_first_free sc_first_free (fun _ _ _ _ _ _ us hl => match us, hl with | [_, _], _ => rfl) fun fa cdv A outer s H E hr => ?_
  unfold g_first_free
  exact (psd_cons (psd_set 2 sc_first_free.nd pd_int)
      (psd_cons (psd_for PassesOwn.never rfl (pid_seq (pd_var 0)) (pgd_tup rfl (pgds_cons (pgd_name 3 sc_first_free.nd) (pgds_cons (pgd_name 4 sc_first_free.nd) pgds_nil))) (psd_cons (psd_if (ptd_cmp od_le (pd_bin od_add (pd_var 2) (pd_var 1)) (pd_var 3)) (psd_one (psd_ret (pd_var 2))) psd_nil)
      (psd_one (psd_set 2 sc_first_free.nd (pd_callB (cd_max rfl) (by rfl) T.b_max (by decide +kernel) (pad_cons (pd_var 2) (pad_cons (pd_call G_raised hr (by rfl) (pad_cons (pd_bin od_add (pd_var 3) (pd_var 4)) (pad_cons (pd_var 1) pad_nil))) pad_nil)))))))
      (psd_one (psd_ret (pd_var 2)))))
abbrev N_first_place : List Str := ["pool", "stand", "size", "place"]
theorem sc_first_place : FnScope N_first_place ["pool", "stand", "size"] (defScope s_first_place) := ⟨rfl, rfl, rfl, by decide +kernel, rfl, by decide +kernel, by decide +kernel⟩
def g_first_place : DG := (seqG (setG 3 (callF F_first_free (consF (gv 1) (consF (gv 2) nilF))))
  (retG (ifD (btest (bin2 (bin2 (gv 3) (gv 2) addD) (gv 0) leD)) (gv 3) (fun _ => some .none))))
def F_first_place : List PyData → Option PyData := defD 3 4 g_first_place
theorem has_first_place (T : Txt K mg) (G_first_free : Has P w K mg base 2 "first_free" (spD K F_first_free)) : Has P w K mg base 3 "first_place" (spD K F_first_place) := by
  refine has_pure (g := g_first_place) T.d_first_place sc_first_place (fun _ _ _ _ _ _ us hl => match us, hl with | [_, _, _], _ => rfl) fun fa cdv A outer s H E hr => ?_
  unfold g_first_place
  exact (psd_cons (psd_set 3 sc_first_place.nd (pd_call G_first_free hr (by rfl) (pad_cons (pd_var 1) (pad_cons (pd_var 2) pad_nil))))
      (psd_one (psd_ret (pd_if (ptd_cmp od_le (pd_bin od_add (pd_var 3) (pd_var 2)) (pd_var 0)) (pd_var 3) pd_non))))
abbrev N_asks_of : List Str := ["row", "word", "number"]
theorem sc_asks_of : FnScope N_asks_of ["row"] (defScope s_asks_of) := ⟨rfl, rfl, rfl, by decide +kernel, rfl, by decide +kernel, by decide +kernel⟩
def g_asks_of : DG := (retG (callF tupleD (consF (asL (compF (seqI (gv 0)) (bdTup 2 (bdsCons (bdName 1) (bdsCons (bdName 2) bdsNil))) [1, 2] (btest (bin2 (gv 1) (fun _ => some (.str "ask")) eqD)) (gv 2))) nilF)))
def F_asks_of : List PyData → Option PyData := defD 1 3 g_asks_of
theorem has_asks_of (T : Txt K mg) : Has P w K mg base 1 "asks_of" (spD K F_asks_of) := by
  refine has_pure (g := g_asks_of) T.d_asks_of sc_asks_of (fun _ _ _ _ _ _ us hl => match us, hl with | [_], _ => rfl) fun fa cdv A outer s H E hr => ?_
  unfold g_asks_of
  exact (psd_one (psd_ret (pd_callT cd_tuple (by rfl) T.b_tuple (by decide +kernel) (pad_cons (pd_lc (own := [("word", 1), ("number", 2)]) rfl sc_asks_of.nd (pid_seq (pd_var 0)) (blkOk_by (N := N_asks_of) (sc := defScope s_asks_of) (by decide +kernel)) (fun _ _ _ _ _ => (pgd_tup rfl (pgds_cons (pgd_name 1 sc_asks_of.nd) (pgds_cons (pgd_name 2 sc_asks_of.nd) pgds_nil)))) (fun _ _ _ _ _ => (ptsd_one (ptd_cmp (od_eq hr.units) (pd_var 1) (pd_gstr (by rfl) T.c_ASK_rows)))) (fun _ _ _ _ _ => (pd_var 2))) pad_nil))))
abbrev N_is_clear : List Str := ["blocks", "first", "size", "near", "many"]
theorem sc_is_clear : FnScope N_is_clear ["blocks", "first", "size"] (defScope s_is_clear) := ⟨rfl, rfl, rfl, by decide +kernel, rfl, by decide +kernel, by decide +kernel⟩
def g_is_clear : DG := (retG (callF allD (consF (asL (compF (seqI (gv 0)) (bdTup 2 (bdsCons (bdName 3) (bdsCons (bdName 4) bdsNil))) [3, 4] yesB (orV (bin2 (bin2 (gv 1) (gv 2) addD) (gv 3) leD) (bin2 (bin2 (gv 3) (gv 4) addD) (gv 1) leD)))) nilF)))
def F_is_clear : List PyData → Option PyData := defD 3 5 g_is_clear
theorem has_is_clear (T : Txt K mg) : Has P w K mg base 1 "is_clear" (spD K F_is_clear) := by
  refine has_pure (g := g_is_clear) T.d_is_clear sc_is_clear (fun _ _ _ _ _ _ us hl => match us, hl with | [_, _, _], _ => rfl) fun fa cdv A outer s H E hr => ?_
  unfold g_is_clear
  exact (psd_one (psd_ret (pd_callB (cd_all rfl) (by rfl) T.b_all (by decide +kernel) (pad_cons (pd_lc (own := [("near", 3), ("many", 4)]) rfl sc_is_clear.nd (pid_seq (pd_var 0)) (blkOk_by (N := N_is_clear) (sc := defScope s_is_clear) (by decide +kernel)) (fun _ _ _ _ _ => (pgd_tup rfl (pgds_cons (pgd_name 3 sc_is_clear.nd) (pgds_cons (pgd_name 4 sc_is_clear.nd) pgds_nil)))) (fun _ _ _ _ _ => ptsd_nil) (fun _ _ _ _ _ => (pd_or (pd_cmp od_le (pd_bin od_add (pd_var 1) (pd_var 2)) (pd_var 3)) (pd_one (pd_cmp od_le (pd_bin od_add (pd_var 3) (pd_var 4)) (pd_var 1)))))) pad_nil))))
abbrev N_is_answer : List Str := ["pool", "blocks", "size", "thing"]
theorem sc_is_answer : FnScope N_is_answer ["pool", "blocks", "size", "thing"] (defScope s_is_answer) := ⟨rfl, rfl, rfl, by decide +kernel, rfl, by decide +kernel, by decide +kernel⟩
def g_is_answer : DG := (seqG (ifG (orB (notB (btest (callF F_is_count (consF (gv 3) nilF)))) (orB (btest (bin2 (bin2 (gv 3) (gv 2) modD) (fun _ => some (.int 0)) neD)) (andB (btest (bin2 (gv 0) (fun _ => some .none) isnotD)) (btest (bin2 (bin2 (gv 3) (gv 2) addD) (gv 0) gtD))))) (retG (fun _ => some (.bool false))) skipG)
  (retG (callF F_is_clear (consF (gv 1) (consF (gv 3) (consF (gv 2) nilF))))))
def F_is_answer : List PyData → Option PyData := defD 4 4 g_is_answer
theorem has_is_answer (T : Txt K mg) (G_is_clear : Has P w K mg base 1 "is_clear" (spD K F_is_clear)) (G_is_count : Has P w K mg base 2 "is_count" (spD K F_is_count)) : Has P w K mg base 3 "is_answer" (spD K F_is_answer) := by
  refine has_pure (g := g_is_answer) T.d_is_answer sc_is_answer (fun _ _ _ _ _ _ us hl => match us, hl with | [_, _, _, _], _ => rfl) fun fa cdv A outer s H E hr => ?_
  unfold g_is_answer
  exact (psd_cons (psd_if (ptd_w (pwd_or (ptd_not (ptd_val (pd_call G_is_count hr (by rfl) (pad_cons (pd_var 3) pad_nil)))) (pwd_or (ptd_cmp (od_ne hr.units) (pd_bin od_mod (pd_var 3) (pd_var 2)) pd_int) (pwd_or1 (ptd_w (pwd_and (ptd_cmp od_isnot (pd_var 0) pd_non) (pwd_and1 (ptd_cmp od_gt (pd_bin od_add (pd_var 3) (pd_var 2)) (pd_var 0))))))))) (psd_one (psd_ret pd_bl)) psd_nil)
      (psd_one (psd_ret (pd_call G_is_clear hr (by rfl) (pad_cons (pd_var 1) (pad_cons (pd_var 3) (pad_cons (pd_var 2) pad_nil)))))))
abbrev N_check_budget : List Str := ["chain", "budget"]
theorem sc_check_budget : FnScope N_check_budget ["chain", "budget"] (defScope s_check_budget) := ⟨rfl, rfl, rfl, by decide +kernel, rfl, by decide +kernel, by decide +kernel⟩
def g_check_budget : DG := (ifG (notB (btest (callF F_is_even (consF (gv 0) (consF (gv 1) nilF))))) neverG skipG)
def F_check_budget : List PyData → Option PyData := defD 2 2 g_check_budget
theorem has_check_budget (T : Txt K mg) (G_is_even : Has P w K mg base 3 "is_even" (spD K F_is_even)) : Has P w K mg base 4 "check_budget" (spD K F_check_budget) := by
  refine has_pure (g := g_check_budget) T.d_check_budget sc_check_budget (fun _ _ _ _ _ _ us hl => match us, hl with | [_, _], _ => rfl) fun fa cdv A outer s H E hr => ?_
  unfold g_check_budget
  exact (psd_one (psd_if (ptd_not (ptd_val (pd_call G_is_even hr (by rfl) (pad_cons (pd_var 0) (pad_cons (pd_var 1) pad_nil))))) (psd_one psd_never) psd_nil))
abbrev N_law_need : List Str := ["_law_sizes_so", "_law_budget_so", "_law_found", "_law_k"]
theorem sc_law_need : FnScope N_law_need ["_law_sizes_so", "_law_budget_so"] (defScope s_law_need) := ⟨rfl, rfl, rfl, by decide +kernel, rfl, by decide +kernel, by decide +kernel⟩
def g_law_need : DG := (seqG (setG 2 (gv 1))
  (seqG (forG (rangeI (consF (bin2 (callF lenD (consF (gv 0) nilF)) (fun _ => some (.int 1)) subD) nilF)) (bdName 3) (setG 2 (bin2 (bin2 (gv 2) (gv 1) addD) (bin2 (bin2 (gv 1) (bin2 (gv 0) (gv 3) ixD) mulD) (bin2 (gv 0) (bin2 (gv 3) (fun _ => some (.int 1)) addD) ixD) divD) subD)))
  (retG (gv 2))))
def F_law_need : List PyData → Option PyData := defD 2 4 g_law_need
theorem has_law_need (T : Txt K mg) : Has P w K mg base 1 "_law_need" (spD K F_law_need) := by
  refine has_pure (g := g_law_need) T.d_law_need sc_law_need (fun _ _ _ _ _ _ us hl => match us, hl with | [_, _], _ => rfl) fun fa cdv A outer s H E hr => ?_
  unfold g_law_need
  exact (psd_cons (psd_set 2 sc_law_need.nd (pd_var 1))
      (psd_cons (psd_for PassesOwn.never rfl (pid_range (by rfl) T.b_range (pad_cons (pd_bin od_sub (pd_callB cd_len (by rfl) T.b_len (by decide +kernel) (pad_cons (pd_var 0) pad_nil)) pd_int) pad_nil)) (pgd_name 3 sc_law_need.nd) (psd_one (psd_set 2 sc_law_need.nd (pd_bin od_sub (pd_bin od_add (pd_var 2) (pd_var 1)) (pd_bin od_div (pd_bin od_mul (pd_var 1) (pd_ix (pd_var 0) (pd_var 3))) (pd_ix (pd_var 0) (pd_bin od_add (pd_var 3) pd_int)))))))
      (psd_one (psd_ret (pd_var 2)))))
abbrev N_law_scaled : List Str := ["_law_row_here", "_law_least_so", "_law_word_so", "_law_what_so"]
theorem sc_law_scaled : FnScope N_law_scaled ["_law_row_here", "_law_least_so"] (defScope s_law_scaled) := ⟨rfl, rfl, rfl, by decide +kernel, rfl, by decide +kernel, by decide +kernel⟩
def g_law_scaled : DG := (retG (callF tupleD (consF (asL (compF (seqI (gv 0)) (bdTup 2 (bdsCons (bdName 2) (bdsCons (bdName 3) bdsNil))) [2, 3] yesB (tupF (consF (gv 2) (consF (ifD (btest (bin2 (gv 2) (fun _ => some (.str "ask")) eqD)) (bin2 (gv 3) (gv 1) divD) (gv 3)) nilF))))) nilF)))
def F_law_scaled : List PyData → Option PyData := defD 2 4 g_law_scaled
theorem has_law_scaled (T : Txt K mg) : Has P w K mg base 1 "_law_scaled" (spD K F_law_scaled) := by
  refine has_pure (g := g_law_scaled) T.d_law_scaled sc_law_scaled (fun _ _ _ _ _ _ us hl => match us, hl with | [_, _], _ => rfl) fun fa cdv A outer s H E hr => ?_
  unfold g_law_scaled
  exact (psd_one (psd_ret (pd_callT cd_tuple (by rfl) T.b_tuple (by decide +kernel) (pad_cons (pd_lc (own := [("_law_word_so", 2), ("_law_what_so", 3)]) rfl sc_law_scaled.nd (pid_seq (pd_var 0)) (blkOk_by (N := N_law_scaled) (sc := defScope s_law_scaled) (by decide +kernel)) (fun _ _ _ _ _ => (pgd_tup rfl (pgds_cons (pgd_name 2 sc_law_scaled.nd) (pgds_cons (pgd_name 3 sc_law_scaled.nd) pgds_nil)))) (fun _ _ _ _ _ => ptsd_nil) (fun _ _ _ _ _ => (pd_tup (pad_cons (pd_var 2) (pad_cons (pd_if (ptd_cmp (od_eq hr.units) (pd_var 2) pd_str) (pd_bin od_div (pd_var 3) (pd_var 1)) (pd_var 3)) pad_nil))))) pad_nil))))
abbrev N_fitting : List Str := ["chain", "budget", "most", "own"]
theorem sc_fitting : FnScope N_fitting ["chain", "budget", "most"] (defScope s_fitting) := ⟨rfl, rfl, rfl, by decide +kernel, rfl, by decide +kernel, by decide +kernel⟩
def g_fitting : DG := (seqG (dropG (callF F_check_square (consF (gv 0) (consF (gv 1) nilF))))
  (retG (asL (compF (seqI (callF F_all_partings (consF (gv 0) nilF))) (bdName 3) [3] (btest (bin2 (callF maxD (consF (callF F_pools_for (consF (gv 3) (consF (gv 1) nilF))) nilF)) (gv 2) leD)) (gv 3)))))
def F_fitting : List PyData → Option PyData := defD 3 4 g_fitting
theorem has_fitting (T : Txt K mg) (G_all_partings : Has P w K mg base 1 "all_partings" (spD K F_all_partings)) (G_check_square : Has P w K mg base 1 "check_square" (spD K F_check_square)) (G_pools_for : Has P w K mg base 3 "pools_for" (spD K F_pools_for)) : Has P w K mg base 4 "fitting" (spD K F_fitting) := by
  refine has_pure (g := g_fitting) T.d_fitting sc_fitting (fun _ _ _ _ _ _ us hl => match us, hl with | [_, _, _], _ => rfl) fun fa cdv A outer s H E hr => ?_
  unfold g_fitting
  exact (psd_cons (psd_expr (pd_call G_check_square hr (by rfl) (pad_cons (pd_var 0) (pad_cons (pd_var 1) pad_nil))))
      (psd_one (psd_ret (pd_lc (own := [("own", 3)]) rfl sc_fitting.nd (pid_seq (pd_call G_all_partings hr (by rfl) (pad_cons (pd_var 0) pad_nil))) (blkOk_by (N := N_fitting) (sc := defScope s_fitting) (by decide +kernel)) (fun _ _ _ _ _ => (pgd_name 3 sc_fitting.nd)) (fun _ _ _ _ _ => (ptsd_one (ptd_cmp od_le (pd_callB (cd_max rfl) (by rfl) T.b_max (by decide +kernel) (pad_cons (pd_call G_pools_for hr (by rfl) (pad_cons (pd_var 3) (pad_cons (pd_var 1) pad_nil))) pad_nil)) (pd_var 2)))) (fun _ _ _ _ _ => (pd_var 3))))))
abbrev N_best_parting : List Str := ["chain", "budget", "most", "found", "own"]
theorem sc_best_parting : FnScope N_best_parting ["chain", "budget", "most"] (defScope s_best_parting) := ⟨rfl, rfl, rfl, by decide +kernel, rfl, by decide +kernel, by decide +kernel⟩
def g_best_parting : DG := (seqG (setG 3 (callF sortedD (consF (asL (compF (seqI (callF F_fitting (consF (gv 0) (consF (gv 1) (consF (gv 2) nilF))))) (bdName 4) [4] yesB (tupF (consF (callF F_total_for (consF (gv 0) (consF (gv 4) (consF (gv 1) nilF)))) (consF (gv 4) nilF))))) nilF)))
  (retG (ifD (btest (bin2 (callF lenD (consF (gv 3) nilF)) (fun _ => some (.int 0)) gtD)) (bin2 (bin2 (gv 3) (fun _ => some (.int 0)) ixD) (fun _ => some (.int 1)) ixD) (fun _ => some .none))))
def F_best_parting : List PyData → Option PyData := defD 3 5 g_best_parting
theorem has_best_parting (T : Txt K mg) (G_fitting : Has P w K mg base 4 "fitting" (spD K F_fitting)) (G_total_for : Has P w K mg base 4 "total_for" (spD K F_total_for)) : Has P w K mg base 5 "best_parting" (spD K F_best_parting) := by
  refine has_pure (g := g_best_parting) T.d_best_parting sc_best_parting (fun _ _ _ _ _ _ us hl => match us, hl with | [_, _, _], _ => rfl) fun fa cdv A outer s H E hr => ?_
  unfold g_best_parting
  exact (psd_cons (psd_set 3 sc_best_parting.nd (pd_callB (cd_sorted hr.units) (by rfl) T.b_sorted (by decide +kernel) (pad_cons (pd_lc (own := [("own", 4)]) rfl sc_best_parting.nd (pid_seq (pd_call G_fitting hr (by rfl) (pad_cons (pd_var 0) (pad_cons (pd_var 1) (pad_cons (pd_var 2) pad_nil))))) (blkOk_by (N := N_best_parting) (sc := defScope s_best_parting) (by decide +kernel)) (fun _ _ _ _ _ => (pgd_name 4 sc_best_parting.nd)) (fun _ _ _ _ _ => ptsd_nil) (fun _ _ _ _ _ => (pd_tup (pad_cons (pd_call G_total_for hr (by rfl) (pad_cons (pd_var 0) (pad_cons (pd_var 4) (pad_cons (pd_var 1) pad_nil)))) (pad_cons (pd_var 4) pad_nil))))) pad_nil)))
      (psd_one (psd_ret (pd_if (ptd_cmp od_gt (pd_callB cd_len (by rfl) T.b_len (by decide +kernel) (pad_cons (pd_var 3) pad_nil)) pd_int) (pd_ix (pd_ix (pd_var 3) pd_int) pd_int) pd_non))))
abbrev N_is_parting : List Str := ["chain", "thing", "part", "size"]
theorem sc_is_parting : FnScope N_is_parting ["chain", "thing"] (defScope s_is_parting) := ⟨rfl, rfl, rfl, by decide +kernel, rfl, by decide +kernel, by decide +kernel⟩
def g_is_parting : DG := (seqG (ifG (orB (notB (btest (isiF "tuple" (gv 1)))) (notB (btest (callF allD (consF (asL (compF (seqI (gv 1)) (bdName 2) [2] yesB (isiF "tuple" (gv 2)))) nilF))))) (retG (fun _ => some (.bool false))) skipG)
  (seqG (ifG (notB (btest (callF allD (consF (asL (comp2F (seqI (gv 1)) (gv 2) (bdName 2) (bdName 3) [2, 3] [3] (callF F_is_number (consF (gv 3) nilF)))) nilF)))) (retG (fun _ => some (.bool false))) skipG)
  (retG (bin2 (gv 1) (callF F_all_partings (consF (callF tupleD (consF (gv 0) nilF)) nilF)) inD))))
def F_is_parting : List PyData → Option PyData := defD 2 4 g_is_parting
theorem has_is_parting (T : Txt K mg) (G_all_partings : Has P w K mg base 1 "all_partings" (spD K F_all_partings)) (G_is_number : Has P w K mg base 1 "is_number" (spD K F_is_number)) : Has P w K mg base 2 "is_parting" (spD K F_is_parting) := by
  refine has_pure (g := g_is_parting) T.d_is_parting sc_is_parting (fun _ _ _ _ _ _ us hl => match us, hl with | [_, _], _ => rfl) fun fa cdv A outer s H E hr => ?_
  unfold g_is_parting
  exact (psd_cons (psd_if (ptd_w (pwd_or (ptd_not (ptd_val (pd_isi (c := "tuple") (by rfl) T.b_isinstance (by rfl) T.b_tuple (by decide +kernel) (by decide) (pd_var 1)))) (pwd_or1 (ptd_not (ptd_val (pd_callB (cd_all rfl) (by rfl) T.b_all (by decide +kernel) (pad_cons (pd_lc (own := [("part", 2)]) rfl sc_is_parting.nd (pid_seq (pd_var 1)) (blkOk_by (N := N_is_parting) (sc := defScope s_is_parting) (by decide +kernel)) (fun _ _ _ _ _ => (pgd_name 2 sc_is_parting.nd)) (fun _ _ _ _ _ => ptsd_nil) (fun _ _ _ _ _ => (pd_isi (c := "tuple") (by rfl) T.b_isinstance (by rfl) T.b_tuple (by decide +kernel) (by decide) (pd_var 2)))) pad_nil))))))) (psd_one (psd_ret pd_bl)) psd_nil)
      (psd_cons (psd_if (ptd_not (ptd_val (pd_callB (cd_all rfl) (by rfl) T.b_all (by decide +kernel) (pad_cons (pd_lc2 (own := [("part", 2), ("size", 3)]) (vs1 := [3]) rfl sc_is_parting.nd (pid_seq (pd_var 1)) (blkOk_by (N := N_is_parting) (sc := defScope s_is_parting) (by decide +kernel)) (by decide) (fun _ _ _ _ _ => (pgd_name 2 sc_is_parting.nd)) (fun _ _ _ _ _ => (pd_var 2)) (fun _ _ _ _ _ => (pgd_name 3 sc_is_parting.nd)) (fun _ _ _ _ _ => (pd_call G_is_number hr (by rfl) (pad_cons (pd_var 3) pad_nil)))) pad_nil)))) (psd_one (psd_ret pd_bl)) psd_nil)
      (psd_one (psd_ret (pd_cmp (od_in hr.u65) (pd_var 1) (pd_call G_all_partings hr (by rfl) (pad_cons (pd_callT cd_tuple (by rfl) T.b_tuple (by decide +kernel) (pad_cons (pd_var 0) pad_nil)) pad_nil)))))))
abbrev N_is_best_parting : List Str := ["chain", "budget", "most", "thing", "best"]
theorem sc_is_best_parting : FnScope N_is_best_parting ["chain", "budget", "most", "thing"] (defScope s_is_best_parting) := ⟨rfl, rfl, rfl, by decide +kernel, rfl, by decide +kernel, by decide +kernel⟩
def g_is_best_parting : DG := (seqG (setG 4 (callF F_best_parting (consF (gv 0) (consF (gv 1) (consF (gv 2) nilF)))))
  (seqG (ifG (orB (btest (bin2 (gv 4) (fun _ => some .none) isD)) (orB (notB (btest (callF F_is_parting (consF (gv 0) (consF (gv 3) nilF))))) (btest (bin2 (gv 3) (callF F_fitting (consF (gv 0) (consF (gv 1) (consF (gv 2) nilF)))) notInD)))) (retG (fun _ => some (.bool false))) skipG)
  (retG (bin2 (callF F_total_for (consF (gv 0) (consF (gv 3) (consF (gv 1) nilF)))) (callF F_total_for (consF (gv 0) (consF (gv 4) (consF (gv 1) nilF)))) eqD))))
def F_is_best_parting : List PyData → Option PyData := defD 4 5 g_is_best_parting
theorem has_is_best_parting (T : Txt K mg) (G_best_parting : Has P w K mg base 5 "best_parting" (spD K F_best_parting)) (G_fitting : Has P w K mg base 4 "fitting" (spD K F_fitting)) (G_is_parting : Has P w K mg base 2 "is_parting" (spD K F_is_parting)) (G_total_for : Has P w K mg base 4 "total_for" (spD K F_total_for)) : Has P w K mg base 6 "is_best_parting" (spD K F_is_best_parting) := by
  refine has_pure (g := g_is_best_parting) T.d_is_best_parting sc_is_best_parting (fun _ _ _ _ _ _ us hl => match us, hl with | [_, _, _, _], _ => rfl) fun fa cdv A outer s H E hr => ?_
  unfold g_is_best_parting
  exact (psd_cons (psd_set 4 sc_is_best_parting.nd (pd_call G_best_parting hr (by rfl) (pad_cons (pd_var 0) (pad_cons (pd_var 1) (pad_cons (pd_var 2) pad_nil)))))
      (psd_cons (psd_if (ptd_w (pwd_or (ptd_cmp od_is (pd_var 4) pd_non) (pwd_or (ptd_not (ptd_val (pd_call G_is_parting hr (by rfl) (pad_cons (pd_var 0) (pad_cons (pd_var 3) pad_nil))))) (pwd_or1 (ptd_cmp (od_notIn hr.u65) (pd_var 3) (pd_call G_fitting hr (by rfl) (pad_cons (pd_var 0) (pad_cons (pd_var 1) (pad_cons (pd_var 2) pad_nil))))))))) (psd_one (psd_ret pd_bl)) psd_nil)
      (psd_one (psd_ret (pd_cmp (od_eq hr.units) (pd_call G_total_for hr (by rfl) (pad_cons (pd_var 0) (pad_cons (pd_var 3) (pad_cons (pd_var 1) pad_nil)))) (pd_call G_total_for hr (by rfl) (pad_cons (pd_var 0) (pad_cons (pd_var 4) (pad_cons (pd_var 1) pad_nil)))))))))
abbrev N_tupled : List Str := ["value", "part"]
theorem sc_tupled : FnScope N_tupled ["value"] (defScope s_tupled) := ⟨rfl, rfl, rfl, by decide +kernel, rfl, by decide +kernel, by decide +kernel⟩
def g_tupled0 : DG := (retG (ifD (btest (isiF2 "list" "tuple" (gv 0))) (callF tupleD (consF (asL (compF (seqI (gv 0)) (bdName 1) [1] yesB (fun _ => none))) nilF)) (gv 0)))
def F_tupled0 : List PyData → Option PyData := defD 1 2 g_tupled0
theorem has_tupled0 (T : Txt K mg) : Has P w K mg base 1 "tupled" (spD K F_tupled0) := by
  refine has_pure (g := g_tupled0) T.d_tupled sc_tupled (fun _ _ _ _ _ _ us hl => match us, hl with | [_], _ => rfl) fun fa cdv A outer s H E hr => ?_
  unfold g_tupled0
  exact (psd_one (psd_ret (pd_if (ptd_val (pd_isi2 (c1 := "list") (c2 := "tuple") (by rfl) T.b_isinstance (by rfl) T.b_list (by decide +kernel) (by decide) (by rfl) T.b_tuple (by decide +kernel) (by decide) (pd_var 0))) (pd_callT cd_tuple (by rfl) T.b_tuple (by decide +kernel) (pad_cons (pd_lc (own := [("part", 1)]) rfl sc_tupled.nd (pid_seq (pd_var 0)) (blkOk_by (N := N_tupled) (sc := defScope s_tupled) (by decide +kernel)) (fun _ _ _ _ _ => (pgd_name 1 sc_tupled.nd)) (fun _ _ _ _ _ => ptsd_nil) (fun _ _ _ _ _ => pd_never)) pad_nil)) (pd_var 0))))
def g_tupled : DG := (retG (ifD (btest (isiF2 "list" "tuple" (gv 0))) (callF tupleD (consF (asL (compF (seqI (gv 0)) (bdName 1) [1] yesB (callF F_tupled0 (consF (gv 1) nilF)))) nilF)) (gv 0)))
def F_tupled : List PyData → Option PyData := defD 1 2 g_tupled
theorem has_tupled (T : Txt K mg) (G_tupled0 : Has P w K mg base 1 "tupled" (spD K F_tupled0)) : Has P w K mg base 2 "tupled" (spD K F_tupled) := by
  refine has_pure (g := g_tupled) T.d_tupled sc_tupled (fun _ _ _ _ _ _ us hl => match us, hl with | [_], _ => rfl) fun fa cdv A outer s H E hr => ?_
  unfold g_tupled
  exact (psd_one (psd_ret (pd_if (ptd_val (pd_isi2 (c1 := "list") (c2 := "tuple") (by rfl) T.b_isinstance (by rfl) T.b_list (by decide +kernel) (by decide) (by rfl) T.b_tuple (by decide +kernel) (by decide) (pd_var 0))) (pd_callT cd_tuple (by rfl) T.b_tuple (by decide +kernel) (pad_cons (pd_lc (own := [("part", 1)]) rfl sc_tupled.nd (pid_seq (pd_var 0)) (blkOk_by (N := N_tupled) (sc := defScope s_tupled) (by decide +kernel)) (fun _ _ _ _ _ => (pgd_name 1 sc_tupled.nd)) (fun _ _ _ _ _ => ptsd_nil) (fun _ _ _ _ _ => (pd_call G_tupled0 hr (by rfl) (pad_cons (pd_var 1) pad_nil)))) pad_nil)) (pd_var 0))))
abbrev N_law_same : List Str := ["_law_got", "_law_due", "_law_a_so", "_law_b_so"]
theorem sc_law_same : FnScope N_law_same ["_law_got", "_law_due"] (defScope s_law_same) := ⟨rfl, rfl, rfl, by decide +kernel, rfl, by decide +kernel, by decide +kernel⟩
def g_law_same0 : DG := (seqG (ifG (btest (isiF2 "list" "tuple" (gv 1))) (seqG (ifG (btest (bin2 (isiF "list" (gv 0)) (isiF "list" (gv 1)) neD)) (retG (fun _ => some (.bool false))) skipG)
  (seqG (ifG (btest (bin2 (isiF "tuple" (gv 0)) (isiF "tuple" (gv 1)) neD)) (retG (fun _ => some (.bool false))) skipG)
  (retG (andV (bin2 (callF lenD (consF (gv 0) nilF)) (callF lenD (consF (gv 1) nilF)) eqD) (callF allD (consF (asL (compF (zipI (consF (gv 0) (consF (gv 1) nilF))) (bdTup 2 (bdsCons (bdName 2) (bdsCons (bdName 3) bdsNil))) [2, 3] yesB (fun _ => none))) nilF)))))) skipG)
  (seqG (ifG (orB (btest (bin2 (gv 1) (fun _ => some .none) isD)) (btest (isiF2 "bool" "str" (gv 1)))) (retG (andV (bin2 (gv 0) (gv 1) eqD) (andV (bin2 (isiF "bool" (gv 0)) (isiF "bool" (gv 1)) eqD) (bin2 (bin2 (gv 0) (fun _ => some .none) isD) (bin2 (gv 1) (fun _ => some .none) isD) eqD)))) skipG)
  (retG (andV (isiF "int" (gv 0)) (andV (notV (isiF "bool" (gv 0))) (bin2 (gv 0) (gv 1) eqD))))))
def F_law_same0 : List PyData → Option PyData := defD 2 4 g_law_same0
theorem has_law_same0 (T : Txt K mg) : Has P w K mg base 1 "_law_same" (spD K F_law_same0) := by
  refine has_pure (g := g_law_same0) T.d_law_same sc_law_same (fun _ _ _ _ _ _ us hl => match us, hl with | [_, _], _ => rfl) fun fa cdv A outer s H E hr => ?_
  unfold g_law_same0
  exact (psd_cons (psd_if (ptd_val (pd_isi2 (c1 := "list") (c2 := "tuple") (by rfl) T.b_isinstance (by rfl) T.b_list (by decide +kernel) (by decide) (by rfl) T.b_tuple (by decide +kernel) (by decide) (pd_var 1))) (psd_cons (psd_if (ptd_cmp (od_ne hr.units) (pd_isi (c := "list") (by rfl) T.b_isinstance (by rfl) T.b_list (by decide +kernel) (by decide) (pd_var 0)) (pd_isi (c := "list") (by rfl) T.b_isinstance (by rfl) T.b_list (by decide +kernel) (by decide) (pd_var 1))) (psd_one (psd_ret pd_bl)) psd_nil)
      (psd_cons (psd_if (ptd_cmp (od_ne hr.units) (pd_isi (c := "tuple") (by rfl) T.b_isinstance (by rfl) T.b_tuple (by decide +kernel) (by decide) (pd_var 0)) (pd_isi (c := "tuple") (by rfl) T.b_isinstance (by rfl) T.b_tuple (by decide +kernel) (by decide) (pd_var 1))) (psd_one (psd_ret pd_bl)) psd_nil)
      (psd_one (psd_ret (pd_and (pd_cmp (od_eq hr.units) (pd_callB cd_len (by rfl) T.b_len (by decide +kernel) (pad_cons (pd_var 0) pad_nil)) (pd_callB cd_len (by rfl) T.b_len (by decide +kernel) (pad_cons (pd_var 1) pad_nil))) (pd_one (pd_callB (cd_all rfl) (by rfl) T.b_all (by decide +kernel) (pad_cons (pd_lc (own := [("_law_a_so", 2), ("_law_b_so", 3)]) rfl sc_law_same.nd (pid_zip (by rfl) T.b_zip (pad_cons (pd_var 0) (pad_cons (pd_var 1) pad_nil))) (blkOk_by (N := N_law_same) (sc := defScope s_law_same) (by decide +kernel)) (fun _ _ _ _ _ => (pgd_tup rfl (pgds_cons (pgd_name 2 sc_law_same.nd) (pgds_cons (pgd_name 3 sc_law_same.nd) pgds_nil)))) (fun _ _ _ _ _ => ptsd_nil) (fun _ _ _ _ _ => pd_never)) pad_nil)))))))) psd_nil)
      (psd_cons (psd_if (ptd_w (pwd_or (ptd_cmp od_is (pd_var 1) pd_non) (pwd_or1 (ptd_val (pd_isi2 (c1 := "bool") (c2 := "str") (by rfl) T.b_isinstance (by rfl) T.b_bool (by decide +kernel) (by decide) (by rfl) T.b_str (by decide +kernel) (by decide) (pd_var 1)))))) (psd_one (psd_ret (pd_and (pd_cmp (od_eq hr.units) (pd_var 0) (pd_var 1)) (pd_and (pd_cmp (od_eq hr.units) (pd_isi (c := "bool") (by rfl) T.b_isinstance (by rfl) T.b_bool (by decide +kernel) (by decide) (pd_var 0)) (pd_isi (c := "bool") (by rfl) T.b_isinstance (by rfl) T.b_bool (by decide +kernel) (by decide) (pd_var 1))) (pd_one (pd_cmp (od_eq hr.units) (pd_cmp od_is (pd_var 0) pd_non) (pd_cmp od_is (pd_var 1) pd_non))))))) psd_nil)
      (psd_one (psd_ret (pd_and (pd_isi (c := "int") (by rfl) T.b_isinstance (by rfl) T.b_int (by decide +kernel) (by decide) (pd_var 0)) (pd_and (pd_not (pd_isi (c := "bool") (by rfl) T.b_isinstance (by rfl) T.b_bool (by decide +kernel) (by decide) (pd_var 0))) (pd_one (pd_cmp (od_eq hr.units) (pd_var 0) (pd_var 1)))))))))
def g_law_same : DG := (seqG (ifG (btest (isiF2 "list" "tuple" (gv 1))) (seqG (ifG (btest (bin2 (isiF "list" (gv 0)) (isiF "list" (gv 1)) neD)) (retG (fun _ => some (.bool false))) skipG)
  (seqG (ifG (btest (bin2 (isiF "tuple" (gv 0)) (isiF "tuple" (gv 1)) neD)) (retG (fun _ => some (.bool false))) skipG)
  (retG (andV (bin2 (callF lenD (consF (gv 0) nilF)) (callF lenD (consF (gv 1) nilF)) eqD) (callF allD (consF (asL (compF (zipI (consF (gv 0) (consF (gv 1) nilF))) (bdTup 2 (bdsCons (bdName 2) (bdsCons (bdName 3) bdsNil))) [2, 3] yesB (callF F_law_same0 (consF (gv 2) (consF (gv 3) nilF))))) nilF)))))) skipG)
  (seqG (ifG (orB (btest (bin2 (gv 1) (fun _ => some .none) isD)) (btest (isiF2 "bool" "str" (gv 1)))) (retG (andV (bin2 (gv 0) (gv 1) eqD) (andV (bin2 (isiF "bool" (gv 0)) (isiF "bool" (gv 1)) eqD) (bin2 (bin2 (gv 0) (fun _ => some .none) isD) (bin2 (gv 1) (fun _ => some .none) isD) eqD)))) skipG)
  (retG (andV (isiF "int" (gv 0)) (andV (notV (isiF "bool" (gv 0))) (bin2 (gv 0) (gv 1) eqD))))))
def F_law_same : List PyData → Option PyData := defD 2 4 g_law_same
theorem has_law_same (T : Txt K mg) (G_law_same0 : Has P w K mg base 1 "_law_same" (spD K F_law_same0)) : Has P w K mg base 2 "_law_same" (spD K F_law_same) := by
  refine has_pure (g := g_law_same) T.d_law_same sc_law_same (fun _ _ _ _ _ _ us hl => match us, hl with | [_, _], _ => rfl) fun fa cdv A outer s H E hr => ?_
  unfold g_law_same
  exact (psd_cons (psd_if (ptd_val (pd_isi2 (c1 := "list") (c2 := "tuple") (by rfl) T.b_isinstance (by rfl) T.b_list (by decide +kernel) (by decide) (by rfl) T.b_tuple (by decide +kernel) (by decide) (pd_var 1))) (psd_cons (psd_if (ptd_cmp (od_ne hr.units) (pd_isi (c := "list") (by rfl) T.b_isinstance (by rfl) T.b_list (by decide +kernel) (by decide) (pd_var 0)) (pd_isi (c := "list") (by rfl) T.b_isinstance (by rfl) T.b_list (by decide +kernel) (by decide) (pd_var 1))) (psd_one (psd_ret pd_bl)) psd_nil)
      (psd_cons (psd_if (ptd_cmp (od_ne hr.units) (pd_isi (c := "tuple") (by rfl) T.b_isinstance (by rfl) T.b_tuple (by decide +kernel) (by decide) (pd_var 0)) (pd_isi (c := "tuple") (by rfl) T.b_isinstance (by rfl) T.b_tuple (by decide +kernel) (by decide) (pd_var 1))) (psd_one (psd_ret pd_bl)) psd_nil)
      (psd_one (psd_ret (pd_and (pd_cmp (od_eq hr.units) (pd_callB cd_len (by rfl) T.b_len (by decide +kernel) (pad_cons (pd_var 0) pad_nil)) (pd_callB cd_len (by rfl) T.b_len (by decide +kernel) (pad_cons (pd_var 1) pad_nil))) (pd_one (pd_callB (cd_all rfl) (by rfl) T.b_all (by decide +kernel) (pad_cons (pd_lc (own := [("_law_a_so", 2), ("_law_b_so", 3)]) rfl sc_law_same.nd (pid_zip (by rfl) T.b_zip (pad_cons (pd_var 0) (pad_cons (pd_var 1) pad_nil))) (blkOk_by (N := N_law_same) (sc := defScope s_law_same) (by decide +kernel)) (fun _ _ _ _ _ => (pgd_tup rfl (pgds_cons (pgd_name 2 sc_law_same.nd) (pgds_cons (pgd_name 3 sc_law_same.nd) pgds_nil)))) (fun _ _ _ _ _ => ptsd_nil) (fun _ _ _ _ _ => (pd_call G_law_same0 hr (by rfl) (pad_cons (pd_var 2) (pad_cons (pd_var 3) pad_nil))))) pad_nil)))))))) psd_nil)
      (psd_cons (psd_if (ptd_w (pwd_or (ptd_cmp od_is (pd_var 1) pd_non) (pwd_or1 (ptd_val (pd_isi2 (c1 := "bool") (c2 := "str") (by rfl) T.b_isinstance (by rfl) T.b_bool (by decide +kernel) (by decide) (by rfl) T.b_str (by decide +kernel) (by decide) (pd_var 1)))))) (psd_one (psd_ret (pd_and (pd_cmp (od_eq hr.units) (pd_var 0) (pd_var 1)) (pd_and (pd_cmp (od_eq hr.units) (pd_isi (c := "bool") (by rfl) T.b_isinstance (by rfl) T.b_bool (by decide +kernel) (by decide) (pd_var 0)) (pd_isi (c := "bool") (by rfl) T.b_isinstance (by rfl) T.b_bool (by decide +kernel) (by decide) (pd_var 1))) (pd_one (pd_cmp (od_eq hr.units) (pd_cmp od_is (pd_var 0) pd_non) (pd_cmp od_is (pd_var 1) pd_non))))))) psd_nil)
      (psd_one (psd_ret (pd_and (pd_isi (c := "int") (by rfl) T.b_isinstance (by rfl) T.b_int (by decide +kernel) (by decide) (pd_var 0)) (pd_and (pd_not (pd_isi (c := "bool") (by rfl) T.b_isinstance (by rfl) T.b_bool (by decide +kernel) (by decide) (pd_var 0))) (pd_one (pd_cmp (od_eq hr.units) (pd_var 0) (pd_var 1)))))))))
end
end Lb
end
section
set_option Elab.async false
set_option linter.all false
set_option maxRecDepth 100000
set_option maxHeartbeats 4000000
namespace Lb
open PySem PySem.Spec PyProof.Rows L2 StX RZ
section
variable {P : Program} {w : World} {K : PySem.W.Frag} {mg : Str → Option Value} {base : Heap}
/-! ### lines -/
abbrev N_lines : List Str := ["chain", "budget", "found", "ratio"]
theorem sc_lines : FnScope N_lines ["chain", "budget"] (defScope s_lines) := ⟨rfl, rfl, rfl, by decide +kernel, rfl, by decide +kernel, by decide +kernel⟩
def lineGo (b : Int) : List Int → Int → Option (List Int)
  | [], _ => some []
  | r :: rs, x => if 0 < r ∧ r < 1073741824 then (lineGo b rs (x + b - b / r)).map (fun ys => (x + b - b / r) :: ys) else none
def lineR : DG := fun e => match gv 1 e with
  | some (.int b) => (tupI (callF F_ratios (consF (gv 0) nilF)) e).bind fun ds => (intsOf ds).bind fun rs => if rs.length ≤ 1000 ∧ e.length = 4 then (lineGo b rs b).map fun ys => .rt (.tuple ((b :: ys).map .int)) else none
  | _ => none
def g_lines : DG := seqG (dropG (callF F_check_even (consF (gv 0) (consF (gv 1) nilF)))) lineR
def F_lines : List PyData → Option PyData := defD 2 4 g_lines
theorem lineGo_len {b : Int} : ∀ {rs : List Int} {x : Int} {ys : List Int}, lineGo b rs x = some ys → ys.length = rs.length
  | [], _, _, h => by cases h; rfl
  | r :: rs, x, ys, h => by
    unfold lineGo at h
    split at h
    · obtain ⟨zs, h1, rfl⟩ := Option.map_eq_some_iff.mp h
      rw [List.length_cons, List.length_cons, lineGo_len h1]
    · cases h
theorem has_lines (T : Txt K mg) (G_check_even : Has P w K mg base 4 "check_even" (spD K F_check_even)) (G_ratios : Has P w K mg base 1 "ratios" (spD K F_ratios)) : Has P w K mg base 5 "lines" (spD K F_lines) := by
  refine has_pure (g := g_lines) T.d_lines sc_lines (fun _ _ _ _ _ _ us hl => match us, hl with | [_, _], _ => rfl) fun fa cdv A outer s H E hr => ?_
  unfold g_lines
  refine psd_cons (psd_expr (pd_call G_check_even hr (by rfl) (pad_cons (pd_var 0) (pad_cons (pd_var 1) pad_nil)))) ?rest
  refine PSs.imp (pss_cons (ps_set (i := 2) sc_lines.nd rfl (.inl rfl) (pe_lst (pa_cons (pv 1) pa_nil)))
    (pss_cons (ps_for PassesOwn.never rfl (pi_tup (pd_call G_ratios hr (by rfl) (pad_cons (pd_var 0) pad_nil))) (pg_name (i := 3) sc_lines.nd rfl (.inl rfl))
      (pss_one (ps_expr (pe_bm PySem.F.plainAttrs_list PySem.F.slot_list_append PySem.F.type_list_append mt_append (pv 2) (pa_cons (pe_op op_sub (pe_op op_add (pe_ix ix_list (pv 2) (pe_un un_neg pe_int) (fun _ _ => rfl)) (pv 1)) (pe_op op_fdiv (pv 1) (pv 3))) pa_nil)))))
    (pss_one (ps_ret (pe_callTy call_tuple_of (by rfl) T.b_tuple (by decide +kernel) (pa_cons (pv 2) pa_nil)))))) fun D σ H ⟨e, o, hs, he, k⟩ => ?_
  unfold lineR at he
  split at he
  rotate_left
  · cases he
  rename_i b hb
  obtain ⟨ds, hds, he⟩ := Option.bind_eq_some_iff.mp he
  obtain ⟨rs, hrs, he⟩ := Option.bind_eq_some_iff.mp he
  split at he
  rotate_left
  · cases he
  rename_i hz
  obtain ⟨ys, hys, rfl⟩ := Option.map_eq_some_iff.mp he
  obtain ⟨vb, hvb, hdb⟩ := hs.2 1 _ hb
  cases hdb.int_inv
  have hσ : σ.length = 4 := hs.1.trans hz.2
  cases intsOf_inv hrs
  obtain ⟨d, hd, h2⟩ := Option.bind_eq_some_iff.mp hds
  split at h2
  rotate_left
  · cases h2
  cases h2
  refine ⟨.int b, hvb, by show 1 ≤ sizeLine; decide, fun L hL => ?_⟩
  have s1 := same_new (o := .lst [V.int b]) hL
  refine ⟨e.set 2 none, .tuple (rs.map PyData.int), (hs.same s1).unset 2 _, ?_, fun v H2 s2 d2 => ?_⟩
  · have g0 : gv 0 (e.set 2 none) = gv 0 e := by rw [gv_set (by omega), if_neg (by decide)]
    unfold callF consF at hd ⊢
    rw [g0]
    exact hd
  obtain ⟨a, xs, rfl, hxs, hall⟩ := d2.tup_inv
  cases hall.ints
  have hL2 : H2 L = some (.lst [V.int b]) := s2 L _ upd_same
  have sH2 := s1.trans s2
  refine ⟨a, rfl, ⟨_, hxs⟩, for_it walk_tup (fun i σ' H' => σ'.length = 4 ∧ σ'[1]? = some (some (.int b)) ∧ σ'[2]? = some (some (.ref L)) ∧ Same H H' ∧ SqT K H' a (rs.map V.int) ∧ ∃ ns x zs, H' L = some (.lst ((ns ++ [x]).map V.int)) ∧ lineGo b (rs.drop i) x = some zs ∧ b :: ys = ns ++ x :: zs)
    ⟨by rw [List.length_set]; exact hσ, by rw [List.getElem?_set_ne (by decide)]; exact hvb, List.getElem?_set_self (by omega), sH2, hxs, [], b, ys, hL2, hys, rfl⟩ (fun i σ' H' _ p => p.2.2.2.2.1) ?turn ?done⟩
  case done =>
    rintro σ' H' ⟨p0, p1, p2, p3, p4, ns, x, zs, p5, p6, p7⟩
    rw [List.length_map, List.drop_length] at p6
    cases p6
    refine ⟨.ref L, p2, L, _, rfl, .inl ⟨.inl (.inl p5), fun l hl => ?_⟩⟩
    refine k _ _ (p3.trans (same_new hl)) (.tup (.inl (.inl upd_same)) ?_)
    rw [p7]
    exact DpAll.of_ints _
  case turn =>
    rintro i y σ' H' H2' hi ⟨p0, p1, p2, p3, p4, ns, x, zs, p5, p6, p7⟩ ⟨rfl, hy⟩
    rw [List.length_map] at hi
    rw [List.getElem?_map, List.getElem?_eq_getElem hi] at hy
    cases hy
    rw [drop_get hi] at p6
    unfold lineGo at p6
    split at p6
    rotate_left
    · cases p6
    rename_i hc
    obtain ⟨zs', h1, rfl⟩ := Option.map_eq_some_iff.mp p6
    refine ⟨.ref L, by rw [List.getElem?_set_ne (by decide)]; exact p2, .inl ⟨rfl, _, SqL.of p5⟩, .ref L, by rw [List.getElem?_set_ne (by decide)]; exact p2, 1, rfl, L, _, -1, .int x, rfl, rfl, SqL.of p5, ?_, .int b, by rw [List.getElem?_set_ne (by decide)]; exact p1, x, b, rfl, rfl, .int b, by rw [List.getElem?_set_ne (by decide)]; exact p1, .int rs[i], List.getElem?_set_self (by omega), b, rs[i], rfl, rfl, hc, x + b, b / rs[i], rfl, rfl, L, _, .int (x + b - b / rs[i]), rfl, rfl, p5, ?_, ?_⟩
    · rw [List.map_append]; exact atI_last _ _
    · have e1 := congrArg List.length p7
      have e2 := lineGo_len h1
      have e3 := lineGo_len hys
      have := hz.1
      rw [List.length_map, List.length_append]
      simp only [List.length_cons, List.length_append, List.length_drop] at e1 e2 ⊢
      rw [sizeLine_eq]
      simp
      omega
    · refine ⟨by rw [List.length_set]; exact p0, by rw [List.getElem?_set_ne (by decide)]; exact p1, by rw [List.getElem?_set_ne (by decide)]; exact p2, same_mut p3 hL, ?_, ns ++ [x], x + b - b / rs[i], zs', by rw [upd_same]; simp, h1, by rw [p7]; simp⟩
      rcases p4 with p4 | p4
      · exact .inl (TSame.lst p5 _ _ p4)
      · exact .inr p4
end
end Lb
end
section
set_option Elab.async false
set_option linter.all false
set_option maxRecDepth 100000
set_option maxHeartbeats 4000000
/-! M1: what the data functions give on rows and stands of plain numbers. -/
namespace Lb
open PySem PySem.Spec PyProof.Rows L2
abbrev Deed := Bool × Int
abbrev Blk := Int × Int
def encP (p : Blk) : PyData := .tuple [.int p.1, .int p.2]
def wd (b : Bool) : Str := if b then "ask" else "back"
def encD (d : Deed) : PyData := .tuple [.str (wd d.1), .int d.2]
def raisedI (x n : Int) : Int := (x + n - 1) / n * n
def max2 (i j : Int) : Int := if j > i then j else i
def ffGo (n : Int) : Int → List Blk → Int
  | pl, [] => pl
  | pl, (f, wd) :: r => if pl + n ≤ f then pl else ffGo n (max2 pl (raisedI (f + wd) n)) r
def asksL : List Deed → List Int
  | [] => []
  | (true, n) :: r => n :: asksL r
  | (false, _) :: r => asksL r
theorem F_raised_eq {x n : Int} (h0 : 0 < n) (h1 : n < 1073741824) : F_raised [.int x, .int n] = some (.int (raisedI x n)) := by
  have c1 : 0 < n ∧ n < 1073741824 := ⟨h0, h1⟩
  have c2 : (-(2 ^ 64) < (x + n - 1) / n ∧ (x + n - 1) / n < 2 ^ 64) ∨ (-(2 ^ 64) < n ∧ n < 2 ^ 64) := .inr ⟨by omega, by omega⟩
  simp [F_raised, defD, startE, g_raised, retG, bin2, gv, addD, subD, divD, mulD, c1, raisedI]
  omega
def ffBd : Bd := bdTup 2 (bdsCons (bdName 3) (bdsCons (bdName 4) bdsNil))
def ffBody : DG := seqG (ifG (btest (bin2 (bin2 (gv 2) (gv 1) addD) (gv 3) leD)) (retG (gv 2)) skipG)
  (setG 2 (callF maxD (consF (gv 2) (consF (callF F_raised (consF (bin2 (gv 3) (gv 4) addD) (consF (gv 1) nilF))) nilF))))
theorem ff_loop {n : Int} {st : Option PyData} (h0 : 0 < n) (h1 : n < 1073741824) : ∀ (bs : List Blk) (pl : Int) (x3 x4 : Option PyData),
    forD ffBd ffBody (bs.map encP) [st, some (.int n), some (.int pl), x3, x4] = some (.rt (.int (ffGo n pl bs))) ∨
      ∃ y3 y4, forD ffBd ffBody (bs.map encP) [st, some (.int n), some (.int pl), x3, x4] = some (.nx [st, some (.int n), some (.int (ffGo n pl bs)), y3, y4])
  | [], pl, x3, x4 => .inr ⟨x3, x4, rfl⟩
  | (f, wd) :: r, pl, x3, x4 => by
    rw [List.map_cons]
    unfold forD
    have hb : ffBd (encP (f, wd)) [st, some (.int n), some (.int pl), x3, x4] = some [st, some (.int n), some (.int pl), some (.int f), some (.int wd)] := by
      simp [ffBd, encP, bdTup, bdsCons, bdName, bdsNil]
    rw [hb]
    by_cases hc : pl + n ≤ f
    · refine .inl ?_
      have : ffBody [st, some (.int n), some (.int pl), some (.int f), some (.int wd)] = some (.rt (.int pl)) := by
        simp [ffBody, seqG, ifG, btest, bin2, gv, addD, leD, asB, hc, retG]
      simp only [Option.bind_some, this, ffGo, hc, if_true]
    · have hr := F_raised_eq (x := f + wd) h0 h1
      have : ffBody [st, some (.int n), some (.int pl), some (.int f), some (.int wd)] = some (.nx [st, some (.int n), some (.int (max2 pl (raisedI (f + wd) n))), some (.int f), some (.int wd)]) := by
        simp [ffBody, seqG, ifG, btest, bin2, gv, addD, leD, asB, hc, skipG, setG, callF, consF, nilF, hr, maxD, max2]
      rcases ff_loop h0 h1 r (max2 pl (raisedI (f + wd) n)) (some (.int f)) (some (.int wd)) with q | ⟨y3, y4, q⟩
      · refine .inl ?_
        simp only [Option.bind_some, this, ffGo, hc, if_false]
        exact q
      · refine .inr ⟨y3, y4, ?_⟩
        simp only [Option.bind_some, this, ffGo, hc, if_false]
        exact q
theorem F_first_free_eq {n : Int} {bs : List Blk} {d : PyData} (h0 : 0 < n) (h1 : n < 1073741824) (hd : seqD d = some (bs.map encP)) : F_first_free [d, .int n] = some (.int (ffGo n 0 bs)) := by
  have e : g_first_free = seqG (setG 2 (fun _ => some (.int 0))) (seqG (forG (seqI (gv 0)) ffBd ffBody) (retG (gv 2))) := rfl
  unfold F_first_free defD
  rw [e]
  simp only [startE, List.length_cons, List.length_nil, List.map_cons, List.map_nil, List.cons_append, List.nil_append]
  simp only [seqG, setG, Option.map_some, Option.bind_some, forG, seqI, gv]
  simp [hd]
  rcases ff_loop (st := some d) h0 h1 bs 0 none none with q | ⟨y3, y4, q⟩
  · rw [q]
    rfl
  · rw [q]
    rfl
theorem wd_ask (b : Bool) : decide (wd b = ("ask" : Str)) = b := by
  cases b <;> decide
theorem asks_comp : ∀ (row : List Deed) (e0 : DEnv), e0.length = 3 → compD (bdTup 2 (bdsCons (bdName 1) (bdsCons (bdName 2) bdsNil))) (btest (bin2 (gv 1) (fun _ => some (.str "ask")) eqD)) (gv 2) e0 (row.map encD) = some ((asksL row).map .int)
  | [], _, _ => rfl
  | (b, n) :: r, [x0, x1, x2], h => by
    rw [List.map_cons]
    unfold compD
    have ih := asks_comp r [x0, x1, x2] h
    have hw := wd_ask b
    cases b <;> simp [encD, bdTup, bdsCons, bdName, bdsNil, btest, bin2, gv, eqD, eqvD, hw, asB, nl, ih, asksL]
theorem asksL_len : ∀ row : List Deed, (asksL row).length ≤ row.length
  | [] => Nat.le_refl _
  | (true, n) :: r => by simp [asksL, asksL_len r]
  | (false, n) :: r => by simp [asksL]; have := asksL_len r; omega
theorem F_asks_eq {row : List Deed} (h : row.length ≤ 1000) : F_asks_of [.tuple (row.map encD)] = some (.tuple ((asksL row).map .int)) := by
  have hs : small (row.map encD).length = true := by simp [small]; omega
  have hc := asks_comp row (wipeE [some (.tuple (row.map encD)), none, none] [1, 2]) (by simp [wipeE])
  simp [F_asks_of, defD, startE, g_asks_of, retG, callF, consF, nilF, asL, compF, seqI, gv, seqD, hs, tupleD]
  simp [small] at hs
  simp [small, show row.length ≤ 1000000 by omega, hc, tupleD, seqD]
/-! ### pairs sorted -/
def leP (a b : Blk) : Bool := decide (a.1 < b.1) || (decide (a.1 = b.1) && decide (a.2 ≤ b.2))
theorem toks_P (a : Blk) : PySem.W.keyToks (encP a) = [.inl 1, .inl a.1, .inl 1, .inl a.2, .inl 0] := by
  simp [encP, PySem.W.keyToks, PySem.W.keyToksAll]
theorem ord_pair (a b : Blk) : ordD (encP a) (encP b) = leP a b := by
  have e : ordD (encP a) (encP b) = !PyProof.Rows.lexLt PyProof.Rows.itemOrd (PySem.W.keyToks (encP b)) (PySem.W.keyToks (encP a)) := rfl
  rw [e, toks_P, toks_P]
  simp only [PyProof.Rows.lexLt, PyProof.Rows.itemLt, leP]
  rw [Bool.eq_iff_iff]
  simp
  omega
def isP (h : List Blk) : List Blk := isortD leP h
theorem insD_map {α β : Type} {r : α → α → Bool} {s : β → β → Bool} (f : α → β) (h : ∀ a b, s (f a) (f b) = r a b) (x : α) : ∀ ys : List α, insD s (f x) (ys.map f) = (insD r x ys).map f
  | [] => rfl
  | y :: ys => by
    rw [List.map_cons]
    unfold insD
    rw [h]
    split
    · rfl
    · rw [insD_map f h x ys]; rfl
theorem isortD_map {α β : Type} {r : α → α → Bool} {s : β → β → Bool} (f : α → β) (h : ∀ a b, s (f a) (f b) = r a b) : ∀ ys : List α, isortD s (ys.map f) = (isortD r ys).map f
  | [] => rfl
  | y :: ys => by
    rw [List.map_cons]
    unfold isortD
    rw [isortD_map f h ys, insD_map f h]
theorem nlAll_P : ∀ h : List Blk, nlAll (h.map encP) = true
  | [] => rfl
  | p :: h => by rw [List.map_cons, nlAll, nlAll_P h]; rfl
theorem okSort_P {h : List Blk} (hl : h.length ≤ 1000) : okSort (h.map encP) = true := by
  unfold okSort
  rw [nlAll_P]
  simp [small, alikeB, sortableB]
  refine ⟨⟨⟨by omega, fun a b _ c d _ => ?_⟩, .inl fun a b _ => rfl⟩, fun a b _ => ?_⟩
  · simp [encP, PySem.W.alike, PySem.W.alikeAll]
  · simp [encP, PyData.depth, PyData.depthAll]
theorem sorted_P {h : List Blk} {d : PyData} (hl : h.length ≤ 1000) (hd : d = .list (h.map encP)) : sortedDL [d] = some ((isP h).map encP) := by
  subst hd
  simp [sortedDL, okSort_P hl, sortL, isP, isortD_map encP ord_pair]
end Lb
end
section
set_option Elab.async false
set_option linter.all false
set_option maxRecDepth 100000
set_option maxHeartbeats 4000000
namespace Lb
open PySem PySem.Spec PyProof.Rows L2 StX RZ
/-! ### played -/
theorem eqv_P (a b : Blk) : PyData.eqv (encP a) (encP b) = decide (a = b) := by
  obtain ⟨a1, a2⟩ := a
  obtain ⟨b1, b2⟩ := b
  simp only [encP, PyData.eqv, PyData.eqvAll, Prod.mk.injEq]
  rw [Bool.eq_iff_iff]
  simp
theorem shaped_P (a : Blk) : SeqAt.shaped (encP a) = true := by
  simp [encP, SeqAt.shaped, PyData.canLay0, PyData.canLayAll0, PyData.depth, PyData.depthAll]
theorem ne_P (a b : Blk) : neD (encP a) (encP b) = some (.bool (!decide (a = b))) := by
  have e : eqvD (encP a) (encP b) = some (PyData.eqv (encP a) (encP b)) := by
    show (if SeqAt.shaped (encP a) = true ∧ SeqAt.shaped (encP b) = true then some (PyData.eqv (encP a) (encP b)) else none) = _
    rw [if_pos ⟨shaped_P a, shaped_P b⟩]
  unfold neD
  rw [e, eqv_P]
  rfl
def plGo (szs : List Int) : List Deed → List Int → List Blk → Option (List Int)
  | [], ps, _ => some ps
  | (true, n) :: r, ps, h => if 0 < n ∧ n < 1073741824 then plGo szs r (ps ++ [ffGo n 0 h]) (isP (h ++ [(ffGo n 0 h, n)])) else none
  | (false, k) :: r, ps, h => (atI ps k).bind fun p => (atI szs k).bind fun s => plGo szs r ps (h.filter fun q => !decide (q = (p, s)))
def playedL (row : List Deed) : Option (List Int) := if row.length ≤ 900 then plGo (asksL row) row [] [] else none
theorem atI_map {α β : Type} (f : α → β) (xs : List α) (k : Int) : atI (xs.map f) k = (atI xs k).map f := by
  unfold atI
  rw [List.length_map]
  cases ixN xs.length k with
  | none => rfl
  | some j => simp
def plComp : DFs := compF (seqI (gv 3)) (bdName 7) [7] (btest (bin2 (gv 7) (tupF (consF (bin2 (gv 1) (gv 6) ixD) (consF (bin2 (gv 4) (gv 6) ixD) nilF))) neD)) (gv 7)
theorem plComp_eq {ps szs : List Int} {h : List Blk} {k p s : Int} {x0 x2 x5 x7 : Option PyData} (h1 : atI ps k = some p) (h2 : atI szs k = some s) (hl : h.length ≤ 1000) :
    plComp [x0, some (.list (ps.map .int)), x2, some (.list (h.map encP)), some (.tuple (szs.map .int)), x5, some (.int k), x7] = some ((h.filter fun q => !decide (q = (p, s))).map encP) := by
  have e1 : atI (ps.map PyData.int) k = some (.int p) := by rw [atI_map, h1]; rfl
  have e2 : atI (szs.map PyData.int) k = some (.int s) := by rw [atI_map, h2]; rfl
  have hs : small h.length = true := by simp [small]; omega
  simp [plComp, compF, seqI, gv, seqD, hs, wipeE]
  have key : ∀ bs : List Blk, compD (bdName 7) (btest (bin2 (gv 7) (tupF (consF (bin2 (gv 1) (gv 6) ixD) (consF (bin2 (gv 4) (gv 6) ixD) nilF))) neD)) (gv 7) [x0, some (.list (ps.map .int)), x2, some (.list (h.map encP)), some (.tuple (szs.map .int)), x5, some (.int k), none] (bs.map encP) = some ((bs.filter fun q => !decide (q = (p, s))).map encP) := by
    intro bs
    induction bs with
    | nil => rfl
    | cons b r ih =>
      rw [List.map_cons]
      unfold compD
      have n1 : neD (encP b) (.tuple [.int p, .int s]) = some (.bool (!decide (b = (p, s)))) := ne_P b (p, s)
      have n2 : nl (encP b) = true := rfl
      by_cases hb : b = (p, s)
      · subst hb
        have n1' : neD (encP (p, s)) (.tuple [.int p, .int s]) = some (.bool false) := by rw [n1]; simp
        simp [bdName, btest, bin2, gv, tupF, consF, nilF, ixD, seqD, e1, e2, small, n1', asB, ih]
      · have n1' : neD (encP b) (.tuple [.int p, .int s]) = some (.bool true) := by rw [n1]; simp [hb]
        simp [bdName, btest, bin2, gv, tupF, consF, nilF, ixD, seqD, e1, e2, small, n1', asB, ih, n2, hb]
  exact key h
def plSort : DFs := consF (lstF (starF (gv 3) (consF (tupF (consF (bin2 (gv 1) (negF (fun _ => some (.int 1))) ixD) (consF (gv 6) nilF))) nilF))) nilF
theorem plSort_eq {ps : List Int} {h : List Blk} {p n : Int} {x0 x2 x4 x5 x7 : Option PyData} (hl : h.length ≤ 900) :
    callLF sortedDL plSort [x0, some (.list ((ps ++ [p]).map .int)), x2, some (.list (h.map encP)), x4, x5, some (.int n), x7] = some ((isP (h ++ [(p, n)])).map encP) := by
  have e1 : atI ((ps ++ [p]).map PyData.int) (-1) = some (.int p) := by rw [atI_map, atI_last]; rfl
  have hs : small (h.length + 1) = true := by simp [small]; omega
  have e : plSort [x0, some (.list ((ps ++ [p]).map .int)), x2, some (.list (h.map encP)), x4, x5, some (.int n), x7] = some [.list ((h ++ [(p, n)]).map encP)] := by
    simp only [plSort, consF, lstF, starF, gv, tupF, bin2, negF, nilF, ixD, seqD]
    simp only [List.map_append, List.map_cons, List.map_nil] at e1
    simp [e1, small, encP, seqD]
    rw [if_pos (show h.length ≤ 999999 by omega)]
    rfl
  unfold callLF
  rw [e]
  exact sorted_P (by simp; omega) rfl
theorem nlAll_I : ∀ ns : List Int, nlAll (ns.map PyData.int) = true
  | [] => rfl
  | n :: ns => by rw [List.map_cons, nlAll, nlAll_I ns]; rfl
theorem nl_tupI (ns : List Int) : nl (.tuple (ns.map PyData.int)) = true := by rw [nl]; exact nlAll_I ns
theorem isP_len : ∀ h : List Blk, (isP h).length = h.length
  | [] => rfl
  | b :: h => by
    have key : ∀ (x : Blk) (ys : List Blk), (insD leP x ys).length = ys.length + 1 := by
      intro x ys
      induction ys with
      | nil => rfl
      | cons y ys ih =>
        unfold insD
        split
        · rfl
        · rw [List.length_cons, ih]; rfl
    show (insD leP b (isortD leP h)).length = _
    rw [key]
    exact congrArg (· + 1) (isP_len h)
section
variable {P : Program} {w : World} {K : PySem.W.Frag} {mg : Str → Option Value} {base : Heap}
abbrev N_played : List Str := ["row", "places", "stands", "here", "sizes", "word", "number", "own"]
theorem sc_played : FnScope N_played ["row"] (defScope s_played) := ⟨rfl, rfl, rfl, by decide +kernel, rfl, by decide +kernel, by decide +kernel⟩
def spPlayed (K : PySem.W.Frag) : Sp := fun vs H Q _ => ∃ (row : List Deed) (out : List Int), DpAll K H vs [.tuple (row.map encD)] ∧ playedL row = some out ∧ ∀ (T a : Addr) (x : V) (H' : Hp), Same H H' → H' T = some (.tup [.ref a, x]) → H' a = some (.tup (out.map V.int)) → Q (.ref T) H'
theorem has_played (T : Txt K mg) (G_asks_of : Has P w K mg base 1 "asks_of" (spD K F_asks_of)) (G_first_free : Has P w K mg base 2 "first_free" (spD K F_first_free)) : Has P w K mg base 3 "played" (spPlayed K) := by
  refine has_of T.d_played sc_played (fun _ _ _ _ _ _ us hl => match us, hl with | [_], _ => rfl) (fun vs H Q E ⟨_, _, h, _⟩ => h.length) fun fa cdv A outer s H vs Q E hr ⟨row, out, hd, he, q⟩ => ?_
  obtain ⟨v0, rfl, hd0⟩ := dpAll1 hd
  obtain ⟨a, xs, rfl, hxs, hall⟩ := hd0.tup_inv
  refine ⟨_, pss_cons (ps_asg (pe_tup (pa_cons (pe_lst pa_nil) (pa_cons (pe_lst pa_nil) (pa_cons (pe_lst pa_nil) (pa_cons (pd_call G_asks_of hr (by rfl) (pad_cons (pd_var 0) pad_nil)) pa_nil))))) (pg_tup rfl (pgs_cons (pg_name (i := 1) sc_played.nd rfl (.inr rfl)) (pgs_cons (pg_name (i := 2) sc_played.nd rfl (.inl rfl)) (pgs_cons (pg_name (i := 3) sc_played.nd rfl (.inl rfl)) (pgs_cons (pg_name (i := 4) sc_played.nd rfl (.inr rfl)) pgs_nil))))))
    (pss_cons (ps_for PassesOwn.never rfl (pi_tup (pv 0)) (pg_tup rfl (pgs_cons (pg_name (i := 5) sc_played.nd rfl (.inl rfl)) (pgs_cons (pg_name (i := 6) sc_played.nd rfl (.inr rfl)) pgs_nil)))
      (pss_cons (ps_if (ptd_cmp (od_eq hr.units) (pd_var 5) (pd_gstr (by rfl) T.c_ASK_rows))
          (pss_cons (ps_expr (pe_bm PySem.F.plainAttrs_list PySem.F.slot_list_append PySem.F.type_list_append mt_append (pv 1) (pa_cons (pd_call G_first_free hr (by rfl) (pad_cons (pd_var 3) (pad_cons (pd_var 6) pad_nil))) pa_nil)))
          (pss_one (ps_set (i := 3) sc_played.nd rfl (.inl rfl) (pf_callB (cdf_sorted hr.units) (by rfl) T.b_sorted (by decide +kernel) (pad_cons (pd_lst (pad_star (pd_var 3) (pad_cons (pd_tup (pad_cons (pd_ix (pd_var 1) (pd_neg pd_int)) (pad_cons (pd_var 6) pad_nil))) pad_nil))) pad_nil)))))
          (pss_one (ps_setF 3 (own := [("own", 7)]) rfl sc_played.nd (pid_seq (pd_var 3)) (blkOk_by (N := N_played) (sc := defScope s_played) (by decide +kernel)) (fun _ _ _ _ _ => (pgd_name 7 sc_played.nd)) (fun _ _ _ _ _ => (ptsd_one (ptd_cmp (od_ne hr.units) (pd_var 7) (pd_tup (pad_cons (pd_ix (pd_var 1) (pd_var 6)) (pad_cons (pd_ix (pd_var 4) (pd_var 6)) pad_nil)))))) (fun _ _ _ _ _ => (pd_var 7)))))
      (pss_one (ps_expr (pe_bm PySem.F.plainAttrs_list PySem.F.slot_list_append PySem.F.type_list_append mt_append (pv 2) (pa_cons (pe_callTy call_tuple_of (by rfl) T.b_tuple (by decide +kernel) (pa_cons (pv 3) pa_nil)) pa_nil))))))
    (pss_one (ps_ret (pe_tup (pa_cons (pe_callTy call_tuple_of (by rfl) T.b_tuple (by decide +kernel) (pa_cons (pv 1) pa_nil)) (pa_cons (pv 2) pa_nil)))))), ?_⟩
  have hlen : row.length ≤ 900 := by
    unfold playedL at he
    split at he
    · assumption
    · cases he
  have he' : plGo (asksL row) row [] [] = some out := by
    unfold playedL at he
    rwa [if_pos hlen] at he
  refine ⟨by show 0 ≤ sizeLine; decide, fun pa hpa => ⟨by show 0 ≤ sizeLine; decide, fun pb hpb => ⟨by show 0 ≤ sizeLine; decide, fun pc hpc => ?_⟩⟩⟩
  have n1 : pa ≠ pb := fun z => by rw [← z, upd_same] at hpb; cases hpb
  have n2 : pb ≠ pc := fun z => by rw [← z, upd_same] at hpc; cases hpc
  have n3 : pa ≠ pc := fun z => by rw [← z, upd_ne n1, upd_same] at hpc; cases hpc
  have hpb0 : H pb = none := by rwa [upd_ne (Ne.symm n1)] at hpb
  have hpc0 : H pc = none := by rwa [upd_ne (Ne.symm n2), upd_ne (Ne.symm n3)] at hpc
  have s3 : Same H (upd (upd (upd H pa (.lst [])) pb (.lst [])) pc (.lst [])) := ((same_new hpa).trans (same_new hpb)).trans (same_new hpc)
  refine ⟨[some (.tuple (row.map encD)), none, none, none, none, none, none, none], .tuple ((asksL row).map .int), .consS (Dp.same s3 _ _ hd0) (.consN (.consN (.consN (.consN (.consN (.consN (.consN .nil))))))), ?_, fun pz H1 s4 dz => ⟨by show 4 ≤ sizeLine; decide, fun T1 hT1 => ?_⟩⟩
  · have := F_asks_eq (row := row) (by omega)
    simp [callF, consF, gv, nilF, this]
  have s5 := same_new (o := .tup [V.ref pa, V.ref pb, V.ref pc, pz]) hT1
  refine ⟨T1, _, rfl, .inl (.inl upd_same), rfl, _, _, rfl, _, _, rfl, _, _, rfl, _, _, rfl, rfl, ?_⟩
  have hA : (upd H1 T1 (.tup [V.ref pa, V.ref pb, V.ref pc, pz])) pa = some (.lst []) := s5 _ _ (s4 _ _ (by rw [upd_ne n3, upd_ne n1, upd_same]))
  have hB : (upd H1 T1 (.tup [V.ref pa, V.ref pb, V.ref pc, pz])) pb = some (.lst []) := s5 _ _ (s4 _ _ (by rw [upd_ne n2, upd_same]))
  have hC : (upd H1 T1 (.tup [V.ref pa, V.ref pb, V.ref pc, pz])) pc = some (.lst []) := s5 _ _ (s4 _ _ upd_same)
  have dz' := Dp.same s5 _ _ dz
  have s35 := (s3.trans s4).trans s5
  refine ⟨_, rfl, a, rfl, ⟨xs, sqT_same s35 hxs⟩, for_it walk_tup (fun i σ' H' => ∃ (ps : List Int) (hs : List Blk) (ws hv : List V) (ph : Addr) (y5 y6 y7 : Option V), σ' = [some (.ref a), some (.ref pa), some (.ref pb), some (.ref ph), some pz, y5, y6, y7] ∧ Same H H' ∧ Dp K H' pz (.tuple ((asksL row).map .int)) ∧
      H' pa = some (.lst (ps.map V.int)) ∧ H' pb = some (.lst ws) ∧ H' ph = some (.lst hv) ∧ DpAll K H' hv (hs.map encP) ∧ pa ≠ ph ∧ pb ≠ ph ∧ ps.length ≤ i ∧ ws.length = i ∧ hs.length ≤ i ∧ plGo (asksL row) (row.drop i) ps hs = some out)
    ⟨[], [], [], [], pc, none, none, none, rfl, s35, dz', hA, hB, hC, .nil, n3, n2, by simp, rfl, by simp, he'⟩ (fun i σ' H' _ ⟨_, _, _, _, _, _, _, _, _, q, _⟩ => sqT_same q hxs) ?turn ?done⟩
  case done =>
    rintro σ' H' ⟨ps, hs, ws, hv, ph, y5, y6, y7, rfl, p1, p2, p3, p4, p5, p6, p7, p8, p9, p10, p11, p12⟩
    rw [hall.length, List.length_map, List.drop_length] at p12
    cases p12
    refine ⟨_, rfl, pa, _, rfl, .inl ⟨SqL.of p3, fun l hl => ⟨_, rfl, ?_⟩⟩⟩
    refine ⟨by show 2 ≤ sizeLine; decide, fun T2 hT2 => ?_⟩
    exact q T2 l _ _ (p1.trans ((same_new hl).trans (same_new hT2))) upd_same (same_new hT2 _ _ upd_same)
  case turn =>
    rintro i x σ' H' H2' hi ⟨ps, hs, ws, hv, ph, y5, y6, y7, rfl, p1, p2, p3, p4, p5, p6, p7, p8, p9, p10, p11, p12⟩ ⟨rfl, hx⟩
    have hi' : i < row.length := by rw [hall.length, List.length_map] at hi; exact hi
    obtain ⟨d, hd1, hd2⟩ := hall.getV hx
    rw [List.getElem?_map, List.getElem?_eq_getElem hi'] at hd1
    cases hd1
    rw [drop_get hi'] at p12
    generalize row[i] = rd at p12 hd2
    obtain ⟨b, n⟩ := rd
    obtain ⟨t, us, rfl, hus, hua⟩ := hd2.tup_inv
    obtain ⟨u1, u2, rfl, hu1, hu2⟩ := dpAll2 hua
    cases hu1.str_inv
    cases hu2.int_inv
    refine ⟨t, _, rfl, sqT_same p1 hus, rfl, _, _, rfl, _, _, rfl, rfl, ?_⟩
    refine ⟨[none, none, none, none, none, some (.str (wd b)), none, none], b, .consN (.consN (.consN (.consN (.consN (.consS (.str _) (.consN (.consN .nil))))))), ?_, fun H3 s6 => ?_⟩
    · cases b <;> rfl
    have q1 := p1.trans s6
    have q2 := Dp.same s6 _ _ p2
    have q3 := s6 _ _ p3
    have q4 := s6 _ _ p4
    have q5 := s6 _ _ p5
    have q6 := DpAll.same s6 _ _ p6
    cases b with
    | true =>
      unfold plGo at p12
      split at p12
      rotate_left
      · cases p12
      rename_i hn
      refine ⟨_, rfl, .inl ⟨rfl, _, SqL.of q3⟩, [none, none, none, some (.list (hs.map encP)), none, none, some (.int n), none], .int (ffGo n 0 hs), .consN (.consN (.consN (.consS (.lst (SqL.of q5) q6) (.consN (.consN (.consS (.int n) (.consN .nil))))))), ?_, fun v H4 s7 d7 => ?_⟩
      · have := F_first_free_eq (n := n) (bs := hs) (d := .list (hs.map encP)) hn.1 hn.2 rfl
        simp [callF, consF, gv, nilF, this]
      cases d7.int_inv
      have r1 := q1.trans s7
      have hxz : (ps.map V.int).length < sizeLine := by rw [List.length_map, sizeLine_eq]; omega
      refine ⟨pa, _, _, rfl, rfl, s7 _ _ q3, hxz, ?_⟩
      have ts := TSame.lst (u := .lst (ps.map V.int ++ [V.int (ffGo n 0 hs)])) (s7 _ _ q3)
      have hq4 : (upd H4 pa (.lst (ps.map V.int ++ [V.int (ffGo n 0 hs)]))) pb = some (.lst ws) := by rw [upd_ne (Ne.symm n1)]; exact s7 _ _ q4
      have hq5 : (upd H4 pa (.lst (ps.map V.int ++ [V.int (ffGo n 0 hs)]))) ph = some (.lst hv) := by rw [upd_ne (Ne.symm p7)]; exact s7 _ _ q5
      have hq6 := DpAll.tsame ts _ _ (nlAll_P hs) (DpAll.same s7 _ _ q6)
      have hq2 := Dp.tsame ts _ _ (nl_tupI _) (Dp.same s7 _ _ q2)
      have r2 : Same H (upd H4 pa (.lst (ps.map V.int ++ [V.int (ffGo n 0 hs)]))) := same_mut r1 hpa
      have hq3 : (upd H4 pa (.lst (ps.map V.int ++ [V.int (ffGo n 0 hs)]))) pa = some (.lst ((ps ++ [ffGo n 0 hs]).map V.int)) := by rw [upd_same, List.map_append]; rfl
      refine ⟨[none, some (.list ((ps ++ [ffGo n 0 hs]).map .int)), none, some (.list (hs.map encP)), none, none, some (.int n), none], _, .consN (.consS (.lst (SqL.of hq3) (DpAll.of_ints _)) (.consN (.consS (.lst (SqL.of hq5) hq6) (.consN (.consN (.consS (.int n) (.consN .nil))))))), plSort_eq (p := ffGo n 0 hs) (n := n) (by omega), fun p' vs' H5 hp' s8 hl' hd' => ?_⟩
      refine ⟨_, rfl, .inl ⟨rfl, _, SqL.of (s8 _ _ hq4)⟩, _, rfl, p', _, rfl, .inl ⟨SqL.of hl', fun l hl => ?_⟩⟩
      have s9 := same_new (o := .tup vs') hl
      have g4 := s9 _ _ (s8 _ _ hq4)
      refine ⟨pb, _, _, rfl, rfl, g4, by rw [sizeLine_eq]; omega, ?_⟩
      have t2 := TSame.lst (u := .lst (ws ++ [V.ref l])) g4
      have hpp : p' ≠ pa := fun z => by rw [z, hq3] at hp'; cases hp'
      have hpq : p' ≠ pb := fun z => by rw [z, hq4] at hp'; cases hp'
      refine ⟨_, isP (hs ++ [(ffGo n 0 hs, n)]), _, vs', p', _, _, _, rfl, same_mut ((r2.trans s8).trans s9) hpb0, Dp.tsame t2 _ _ (nl_tupI _) (Dp.same (s8.trans s9) _ _ hq2), by rw [upd_ne n1]; exact s9 _ _ (s8 _ _ hq3), upd_same, by rw [upd_ne hpq]; exact s9 _ _ hl', DpAll.tsame t2 _ _ (nlAll_P _) (DpAll.same s9 _ _ hd'), Ne.symm hpp, Ne.symm hpq, by simp; omega, by simp; omega, by rw [isP_len]; simp; omega, p12⟩
    | false =>
      unfold plGo at p12
      obtain ⟨p, hp, p12⟩ := Option.bind_eq_some_iff.mp p12
      obtain ⟨sz, hsz, p12⟩ := Option.bind_eq_some_iff.mp p12
      refine ⟨[none, some (.list (ps.map .int)), none, some (.list (hs.map encP)), some (.tuple ((asksL row).map .int)), none, some (.int n), none], _, .consN (.consS (.lst (SqL.of q3) (DpAll.of_ints _)) (.consN (.consS (.lst (SqL.of q5) q6) (.consS q2 (.consN (.consS (.int n) (.consN .nil))))))), plComp_eq hp hsz (by omega), fun p' vs' H5 hp' s8 hl' hd' => ?_⟩
      refine ⟨_, rfl, .inl ⟨rfl, _, SqL.of (s8 _ _ q4)⟩, _, rfl, p', _, rfl, .inl ⟨SqL.of hl', fun l hl => ?_⟩⟩
      have s9 := same_new (o := .tup vs') hl
      have g4 := s9 _ _ (s8 _ _ q4)
      refine ⟨pb, _, _, rfl, rfl, g4, by rw [sizeLine_eq]; omega, ?_⟩
      have t2 := TSame.lst (u := .lst (ws ++ [V.ref l])) g4
      have hpp : p' ≠ pa := fun z => by rw [z, q3] at hp'; cases hp'
      have hpq : p' ≠ pb := fun z => by rw [z, q4] at hp'; cases hp'
      refine ⟨ps, _, _, vs', p', _, _, _, rfl, same_mut ((q1.trans s8).trans s9) hpb0, Dp.tsame t2 _ _ (nl_tupI _) (Dp.same (s8.trans s9) _ _ q2), by rw [upd_ne n1]; exact s9 _ _ (s8 _ _ q3), upd_same, by rw [upd_ne hpq]; exact s9 _ _ hl', DpAll.tsame t2 _ _ (nlAll_P _) (DpAll.same s9 _ _ hd'), Ne.symm hpp, Ne.symm hpq, by omega, by simp; omega, Nat.le_succ_of_le (Nat.le_trans (List.length_filter_le _ _) p11), p12⟩
end
end Lb
end
section
set_option Elab.async false
set_option linter.all false
set_option maxRecDepth 100000
set_option maxHeartbeats 4000000
namespace Lb
open PySem PySem.Spec PyProof.Rows L2 StX RZ
section
variable {P : Program} {w : World} {K : PySem.W.Frag} {mg : Str → Option Value} {base : Heap}
def decDeed : PyData → Option Deed
  | .tuple [.str w, .int n] => if w = "ask" then some (true, n) else if w = "back" then some (false, n) else none
  | _ => none
theorem decDeed_inv {d : PyData} {x : Deed} (h : decDeed d = some x) : d = encD x := by
  unfold decDeed at h
  split at h
  · split at h
    · cases h; rename_i z; rw [z]; rfl
    · split at h
      · cases h; rename_i z; rw [z]; rfl
      · cases h
  · cases h
theorem decDeed_enc (x : Deed) : decDeed (encD x) = some x := by
  obtain ⟨b, n⟩ := x
  cases b <;> simp [decDeed, encD, wd] <;> decide
def decDeeds : List PyData → Option (List Deed)
  | [] => some []
  | d :: r => (decDeed d).bind fun x => (decDeeds r).map (x :: ·)
theorem decDeeds_inv : ∀ {ds : List PyData} {r : List Deed}, decDeeds ds = some r → ds = r.map encD
  | [], _, h => by cases h; rfl
  | d :: ds, _, h => by
    obtain ⟨x, h1, h2⟩ := Option.bind_eq_some_iff.mp (show (decDeed d).bind (fun x => (decDeeds ds).map (x :: ·)) = some _ from h)
    obtain ⟨r, h3, rfl⟩ := Option.map_eq_some_iff.mp h2
    rw [List.map_cons, ← decDeed_inv h1, ← decDeeds_inv h3]
theorem decDeeds_enc : ∀ r : List Deed, decDeeds (r.map encD) = some r
  | [] => rfl
  | x :: r => by
    show (decDeed (encD x)).bind (fun x => (decDeeds (r.map encD)).map (x :: ·)) = _
    rw [decDeed_enc, decDeeds_enc r]; rfl
def F_played0 : List PyData → Option PyData
  | [.tuple ds] => (decDeeds ds).bind fun r => (playedL r).map fun o => .tuple (o.map .int)
  | _ => none
theorem pd_played0 {X : Cx} {a : Expr} {es : List Expr} {fs : DFs} {k j : Nat} {p pos pos2 pos3 : Pos} {x1 : Nat} (G : Has X.prog X.w X.K X.mg X.base k "played" (spPlayed X.K)) (hr : Room j X.A) (hg : Gl X "played") (ha : PAD X (a :: es) fs) (hk : k ≤ j := by decide)
    (he : starEach (a :: es) X.env = (false, eval a X.env) :: starEach es X.env := by rfl) (hpl : (backTo pos (starEach es X.env)).any (·.1) = false := by rfl) : PD X (.Subscript (.Call (.Name "played" p) (a :: es) [] pos) (.Constant (.int 0) x1 pos3) pos2) (callF F_played0 fs) :=
  PE.imp (pe_ix ix_tup (pe_has G hr hg ha hk (by decide) he hpl) pe_int (fun _ _ => rfl)) fun σ H Q ⟨e, r, hs, he, k⟩ => by
    obtain ⟨ds, hds, he⟩ := Option.bind_eq_some_iff.mp he
    refine ⟨e, ds, hs, hds, fun vs H1 s1 d1 => ?_⟩
    unfold F_played0 at he
    split at he
    rotate_left
    · cases he
    obtain ⟨rw', h1, he⟩ := Option.bind_eq_some_iff.mp he
    obtain ⟨o, h2, rfl⟩ := Option.map_eq_some_iff.mp he
    cases decDeeds_inv h1
    refine ⟨rw', o, d1, h2, fun T b x H2 s2 hT hb => ⟨T, [.ref b, x], 0, .ref b, rfl, rfl, .inl (.inl hT), rfl, k _ _ (s1.trans s2) (.tup (.inl (.inl hb)) (DpAll.of_ints _))⟩⟩
abbrev N_ends_of : List Str := ["row", "place", "size"]
theorem sc_ends_of : FnScope N_ends_of ["row"] (defScope s_ends_of) := ⟨rfl, rfl, rfl, by decide +kernel, rfl, by decide +kernel, by decide +kernel⟩
def g_ends_of : DG := (retG (asL (compF (zipI (consF (callF F_played0 (consF (gv 0) nilF)) (consF (callF F_asks_of (consF (gv 0) nilF)) nilF))) (bdTup 2 (bdsCons (bdName 1) (bdsCons (bdName 2) bdsNil))) [1, 2] yesB (bin2 (gv 1) (gv 2) addD))))
def F_ends_of : List PyData → Option PyData := defD 1 3 g_ends_of
theorem has_ends_of (T : Txt K mg) (G_asks_of : Has P w K mg base 1 "asks_of" (spD K F_asks_of)) (G_played : Has P w K mg base 3 "played" (spPlayed K)) : Has P w K mg base 4 "ends_of" (spD K F_ends_of) := by
  refine has_pure (g := g_ends_of) T.d_ends_of sc_ends_of (fun _ _ _ _ _ _ us hl => match us, hl with | [_], _ => rfl) fun fa cdv A outer s H E hr => ?_
  unfold g_ends_of
  exact (psd_one (psd_ret (pd_lc (own := [("place", 1), ("size", 2)]) rfl sc_ends_of.nd (pid_zip (by rfl) T.b_zip (pad_cons (pd_played0 G_played hr (by rfl) (pad_cons (pd_var 0) pad_nil)) (pad_cons (pd_call G_asks_of hr (by rfl) (pad_cons (pd_var 0) pad_nil)) pad_nil))) (blkOk_by (N := N_ends_of) (sc := defScope s_ends_of) (by decide +kernel)) (fun _ _ _ _ _ => (pgd_tup rfl (pgds_cons (pgd_name 1 sc_ends_of.nd) (pgds_cons (pgd_name 2 sc_ends_of.nd) pgds_nil)))) (fun _ _ _ _ _ => ptsd_nil) (fun _ _ _ _ _ => (pd_bin od_add (pd_var 1) (pd_var 2))))))
abbrev N_serves_first : List Str := ["chain", "pool", "row"]
theorem sc_serves_first : FnScope N_serves_first ["chain", "pool", "row"] (defScope s_serves_first) := ⟨rfl, rfl, rfl, by decide +kernel, rfl, by decide +kernel, by decide +kernel⟩
def g_serves_first : DG := (retG (bin2 (callF maxD (consF (lstF (consF (fun _ => some (.int 0)) (starF (callF F_ends_of (consF (gv 2) nilF)) nilF))) nilF)) (gv 1) leD))
def F_serves_first : List PyData → Option PyData := defD 3 3 g_serves_first
theorem has_serves_first (T : Txt K mg) (G_ends_of : Has P w K mg base 4 "ends_of" (spD K F_ends_of)) : Has P w K mg base 5 "serves_first" (spD K F_serves_first) := by
  refine has_pure (g := g_serves_first) T.d_serves_first sc_serves_first (fun _ _ _ _ _ _ us hl => match us, hl with | [_, _, _], _ => rfl) fun fa cdv A outer s H E hr => ?_
  unfold g_serves_first
  exact (psd_one (psd_ret (pd_cmp od_le (pd_callB (cd_max rfl) (by rfl) T.b_max (by decide +kernel) (pad_cons (pd_lst (pad_cons pd_int (pad_star (pd_call G_ends_of hr (by rfl) (pad_cons (pd_var 2) pad_nil)) pad_nil))) pad_nil)) (pd_var 1))))
abbrev N_first_pool : List Str := ["chain", "row"]
theorem sc_first_pool : FnScope N_first_pool ["chain", "row"] (defScope s_first_pool) := ⟨rfl, rfl, rfl, by decide +kernel, rfl, by decide +kernel, by decide +kernel⟩
def g_first_pool : DG := (retG (callF F_raised (consF (callF maxD (consF (lstF (consF (fun _ => some (.int 0)) (starF (callF F_ends_of (consF (gv 1) nilF)) nilF))) nilF)) (consF (bin2 (callF F_tupled (consF (gv 0) nilF)) (negF (fun _ => some (.int 1))) ixD) nilF))))
def F_first_pool : List PyData → Option PyData := defD 2 2 g_first_pool
theorem has_first_pool (T : Txt K mg) (G_ends_of : Has P w K mg base 4 "ends_of" (spD K F_ends_of)) (G_raised : Has P w K mg base 1 "raised" (spD K F_raised)) (G_tupled : Has P w K mg base 2 "tupled" (spD K F_tupled)) : Has P w K mg base 5 "first_pool" (spD K F_first_pool) := by
  refine has_pure (g := g_first_pool) T.d_first_pool sc_first_pool (fun _ _ _ _ _ _ us hl => match us, hl with | [_, _], _ => rfl) fun fa cdv A outer s H E hr => ?_
  unfold g_first_pool
  exact (psd_one (psd_ret (pd_call G_raised hr (by rfl) (pad_cons (pd_callB (cd_max rfl) (by rfl) T.b_max (by decide +kernel) (pad_cons (pd_lst (pad_cons pd_int (pad_star (pd_call G_ends_of hr (by rfl) (pad_cons (pd_var 1) pad_nil)) pad_nil))) pad_nil)) (pad_cons (pd_ix (pd_call G_tupled hr (by rfl) (pad_cons (pd_var 0) pad_nil)) (pd_neg pd_int)) pad_nil)))))
abbrev N_least_pool : List Str := ["chain", "budget"]
theorem sc_least_pool : FnScope N_least_pool ["chain", "budget"] (defScope s_least_pool) := ⟨rfl, rfl, rfl, by decide +kernel, rfl, by decide +kernel, by decide +kernel⟩
def g_least_pool : DG := (retG (bin2 (callF F_lines (consF (gv 0) (consF (gv 1) nilF))) (negF (fun _ => some (.int 1))) ixD))
def F_least_pool : List PyData → Option PyData := defD 2 2 g_least_pool
theorem has_least_pool (T : Txt K mg) (G_lines : Has P w K mg base 5 "lines" (spD K F_lines)) : Has P w K mg base 6 "least_pool" (spD K F_least_pool) := by
  refine has_pure (g := g_least_pool) T.d_least_pool sc_least_pool (fun _ _ _ _ _ _ us hl => match us, hl with | [_, _], _ => rfl) fun fa cdv A outer s H E hr => ?_
  unfold g_least_pool
  exact (psd_one (psd_ret (pd_ix (pd_call G_lines hr (by rfl) (pad_cons (pd_var 0) (pad_cons (pd_var 1) pad_nil))) (pd_neg pd_int))))
end
end Lb
end
section
set_option Elab.async false
set_option linter.all false
set_option maxRecDepth 100000
set_option maxHeartbeats 4000000
/-! C1: captured cells held while others run; what a function in hand does. -/
namespace L2
open PySem PySem.Spec PyProof.Rows StX RZ NdefX LamX
def CellT (c : Addr) (o : Obj) : HO := .ext fun h => h.get? c = some o
def hold (cs : List (Addr × Obj)) (H : Hp) : Hp := fun b => match cs.lookup b with
  | some o => some (CellT b o)
  | none => H b
def dropC (cs : List (Addr × Obj)) (H : Hp) : Hp := fun b => match cs.lookup b with
  | some _ => none
  | none => H b
section
variable {cs : List (Addr × Obj)} {H H2 : Hp} {b : Addr} {o : Obj} {x : HO} {P : Program} {w : World} {h h2 : Heap} {fs : List Addr}
theorem hold_in (e : cs.lookup b = some o) : hold cs H b = some (CellT b o) := by unfold hold; rw [e]
theorem hold_out (e : cs.lookup b = none) : hold cs H b = H b := by unfold hold; rw [e]
theorem drop_in (e : cs.lookup b = some o) : dropC cs H b = none := by unfold dropC; rw [e]
theorem drop_out (e : cs.lookup b = none) : dropC cs H b = H b := by unfold dropC; rw [e]
/-- cs stands in the heap h, unknown to H -/
def Unheld (cs : List (Addr × Obj)) (H : Hp) (h : Heap) : Prop := ∀ b o, cs.lookup b = some o → H b = none ∧ h.get? b = some o
def HeldC (cs : List (Addr × Obj)) (H : Hp) : Prop := ∀ b o, cs.lookup b = some o → H b = some (CellT b o)
theorem HeldC.hold : HeldC cs (hold cs H) := fun b o e => hold_in e
theorem cellT_own {a : Addr} (h : CellT b o = .own a) : False := by cases h
theorem cellT_tup {xs : List V} (h : CellT b o = .tup xs) : False := by cases h
theorem Unheld.out (u : Unheld cs H h) (e : H b = some x) : cs.lookup b = none := by
  cases q : cs.lookup b with
  | none => rfl
  | some o => rw [(u b o q).1] at e; cases e
theorem hok_hold (u : Unheld cs H h) (k : HOk P w H h) : HOk P w (hold cs H) h := fun b x e => by
  cases q : cs.lookup b with
  | some o =>
    rw [hold_in q] at e
    cases e
    exact ⟨(u b o q).2, ⟨o, (u b o q).2⟩, fun h1 h2 z st => st _ z⟩
  | none =>
    rw [hold_out q] at e
    exact (k b x e).stay (fun _ _ _ z => z) (fun d z => by rw [hold_out (u.out z)]; exact z) fun d xs z => by rw [hold_out (u.out z)]; exact z
theorem HeldC.out (u : HeldC cs H) (e : H b = some x) (n : ∀ o, x ≠ CellT b o) : cs.lookup b = none := by
  cases q : cs.lookup b with
  | none => rfl
  | some o => rw [u b o q] at e; cases e; exact absurd rfl (n o)
theorem hok_drop (u : HeldC cs H) (k : HOk P w H h) : HOk P w (dropC cs H) h := fun b x e => by
  cases q : cs.lookup b with
  | some o =>
    rw [drop_in q] at e
    cases e
  | none =>
    rw [drop_out q] at e
    exact (k b x e).stay (fun _ _ _ z => z) (fun d z => by rw [drop_out (u.out z fun o y => cellT_own y.symm)]; exact z) fun d xs z => by rw [drop_out (u.out z fun o y => cellT_tup y.symm)]; exact z
theorem HeldC.unheld (u : HeldC cs H) (k : HOk P w H h) : Unheld cs (dropC cs H) h := fun b o e => ⟨drop_in e, (k b _ (u b o e)).1⟩
theorem un_down (u : Unheld cs H h) (u2 : HeldC cs H2) (k2 : HOk P w H2 h2) (n : Un fs [] (hold cs H) H2 h h2) : Un fs [] H (dropC cs H2) h h2 where
  keep := fun b o e n0 n1 n2 => by
    cases q : cs.lookup b with
    | some o' =>
      have e1 := (u b o' q).2
      rw [e] at e1
      cases e1
      exact (k2 b _ (u2 b o q)).1
    | none => exact n.keep b o e (by rw [hold_out q]; exact n0) n1 n2
  slot := fun b o e n0 n1 n2 => by
    cases q : cs.lookup b with
    | some o' =>
      have e1 := (u b o' q).2
      rw [e] at e1
      cases e1
      exact ⟨o.slots, (k2 b _ (u2 b o q)).1⟩
    | none => exact n.slot b o e (by rw [hold_out q]; exact n0) n1 n2
  free := fun b o e n0 n2 => by
    cases q : cs.lookup b with
    | some o' => exact drop_in q
    | none => rw [drop_out q]; exact n.free b o e (by rw [hold_out q]; exact n0) n2
  there := n.there
  tups := fun b xs e => by
    have q := u.out e
    rw [drop_out q]
    exact n.tups b xs (by rw [hold_out q]; exact e)
  frzs := fun b o y e => by
    have q := u.out e
    rw [drop_out q]
    exact n.frzs b o y (by rw [hold_out q]; exact e)
  tbls := fun b ps e => by
    have q := u.out e
    rw [drop_out q]
    exact n.tbls b ps (by rw [hold_out q]; exact e)
theorem un_up (u : HeldC cs H) (k : HOk P w H h) (hf : ∀ b ∈ fs, H b = none) (n : Un fs [] (dropC cs H) H2 h h2) : Unheld cs H2 h2 ∧ Un fs [] H (hold cs H2) h h2 := by
  have u2 : Unheld cs H2 h2 := fun b o e => by
    have z := (k b _ (u b o e)).1
    refine ⟨n.free b o z (drop_in e) (by simp), n.keep b o z (drop_in e) (fun y => ?_) (by simp)⟩
    have := hf b y
    rw [u b o e] at this
    cases this
  refine ⟨u2, ?_⟩
  have nx : ∀ {b o'}, H b = none → cs.lookup b = some o' → False := fun {b o'} n0 q => by
    rw [u b o' q] at n0
    cases n0
  exact
  { keep := fun b o e n0 n1 n2 => by
      cases q : cs.lookup b with
      | some o' => exact (nx n0 q).elim
      | none => exact n.keep b o e (by rw [drop_out q]; exact n0) n1 n2
    slot := fun b o e n0 n1 n2 => by
      cases q : cs.lookup b with
      | some o' => exact (nx n0 q).elim
      | none => exact n.slot b o e (by rw [drop_out q]; exact n0) n1 n2
    free := fun b o e n0 n2 => by
      cases q : cs.lookup b with
      | some o' => exact (nx n0 q).elim
      | none => rw [hold_out q]; exact n.free b o e (by rw [drop_out q]; exact n0) n2
    there := n.there
    tups := fun b xs e => by
      have q := u.out e fun o y => cellT_tup y.symm
      have z := n.tups b xs (by rw [drop_out q]; exact e)
      rw [hold_out q]; exact z
    frzs := fun b o y e => by
      have q := u.out e fun o' y => by cases y
      have z := n.frzs b o y (by rw [drop_out q]; exact e)
      rw [hold_out q]; exact z
    tbls := fun b ps e => by
      have q := u.out e fun o' y => by cases y
      obtain ⟨m, z⟩ := n.tbls b ps (by rw [drop_out q]; exact e)
      exact ⟨m, by rw [hold_out q]; exact z⟩ }
end
section
variable {P : Program} {w : World} {K : PySem.W.Frag} {mg : Str → Option Value} {base : Heap} {A : Around} {outer : List Env} {s : Shared} {H H' : Hp} {cs : List (Addr × Obj)}
theorem Env0.drop (e : Env0 P w K mg base A outer s H) (u : HeldC cs H) : Env0 P w K mg base A outer s (dropC cs H) :=
  have nn : ∀ b, H b = none → dropC cs H b = none := fun b n => by
    cases q : cs.lookup b with
    | some o => exact drop_in q
    | none => rw [drop_out q]; exact n
  ⟨e.frames, e.mod, fun b o z => ⟨(e.bs b o z).1, nn b (e.bs b o z).2⟩, e.bsz, e.funs, fun b z => nn b (e.frf b z), hok_drop u e.hok, e.bare⟩
theorem Env0.hold (e : Env0 P w K mg base A outer s H) (u : Unheld cs H s.heap) (hb : ∀ b o, cs.lookup b = some o → base.get? b = none ∧ b ∉ frs outer) : Env0 P w K mg base A outer s (hold cs H) :=
  have nn : ∀ b, H b = none → cs.lookup b = none → L2.hold cs H b = none := fun b n q => by rw [hold_out q]; exact n
  ⟨e.frames, e.mod, fun b o z => ⟨(e.bs b o z).1, nn b (e.bs b o z).2 (by
    cases q : cs.lookup b with
    | none => rfl
    | some o' => rw [(hb b o' q).1] at z; cases z)⟩, e.bsz, e.funs, fun b z => nn b (e.frf b z) (by
    cases q : cs.lookup b with
    | none => rfl
    | some o' => exact absurd z (hb b o' q).2), hok_hold u e.hok, e.bare⟩
end
/-! ### data stands when all but the named kinds stay -/
def ExtD (H H' : Hp) : Prop := ∀ b o, H b = some o → (∀ φ, o ≠ .ext φ) → (∀ ps, o ≠ .tbl ps) → H' b = some o
theorem ExtD.of {H H' : Hp} (e : ExtN H H') : ExtD H H' := fun b o h _ n => e b o h n
theorem extN_same {H H' : Hp} (e : Same H H') : ExtN H H' := fun b o h _ => e b o h
theorem ExtD.seqL {K : PySem.W.Frag} {H H' : Hp} {a : Addr} {xs : List V} (e : ExtD H H') (h : SqL K H a xs) : SqL K H' a xs := by
  rcases h with (h | ⟨o, h⟩) | h
  · exact .inl (.inl (e _ _ h (fun _ z => by cases z) (fun _ z => by cases z)))
  · exact .inl (.inr ⟨o, e _ _ h (fun _ z => by cases z) (fun _ z => by cases z)⟩)
  · exact .inr h
theorem ExtD.seqT {K : PySem.W.Frag} {H H' : Hp} {a : Addr} {xs : List V} (e : ExtD H H') (h : SqT K H a xs) : SqT K H' a xs := by
  rcases h with (h | ⟨o, h⟩) | h
  · exact .inl (.inl (e _ _ h (fun _ z => by cases z) (fun _ z => by cases z)))
  · exact .inl (.inr ⟨o, e _ _ h (fun _ z => by cases z) (fun _ z => by cases z)⟩)
  · exact .inr h
mutual
theorem Dp.extD {K : PySem.W.Frag} {H H' : Hp} (e : ExtD H H') : ∀ (d : PyData) (v : V), Dp K H v d → Dp K H' v d
  | .none, _, h => by cases h; exact .non
  | .bool _, _, h => by cases h; exact .bl _
  | .int _, _, h => by cases h; exact .int _
  | .str _, _, h => by cases h; exact .str _
  | .list ds, _, h => by
    cases h with
    | lst h1 h2 => exact .lst (e.seqL h1) (DpAll.extD e ds _ h2)
  | .tuple ds, _, h => by
    cases h with
    | tup h1 h2 => exact .tup (e.seqT h1) (DpAll.extD e ds _ h2)
  | .dict _, _, h => nomatch h
theorem DpAll.extD {K : PySem.W.Frag} {H H' : Hp} (e : ExtD H H') : ∀ (ds : List PyData) (vs : List V), DpAll K H vs ds → DpAll K H' vs ds
  | [], _, h => by cases h; exact .nil
  | d :: ds, _, h => by
    cases h with
    | cons h1 h2 => exact .cons (Dp.extD e d _ h1) (DpAll.extD e ds _ h2)
end
theorem SD.extD {K : PySem.W.Frag} {H H' : Hp} {σ : L2.St} {e : DEnv} (h : SD K H σ e) (x : ExtD H H') : SD K H' σ e := ⟨h.1, fun i d q => by
  obtain ⟨v, h1, h2⟩ := h.2 i d q
  exact ⟨v, h1, h2.extD x⟩⟩
theorem extD_drop {cs : List (Addr × Obj)} {H : Hp} (u : HeldC cs H) : ExtD H (dropC cs H) := fun b o e n _ => by
  rw [drop_out (u.out e fun o' z => n _ z)]; exact e
theorem extD_hold {cs : List (Addr × Obj)} {H : Hp} {h : Heap} (u : Unheld cs H h) : ExtD H (hold cs H) := fun b o e _ _ => by
  rw [hold_out (u.out e)]; exact e
theorem same_hold {cs : List (Addr × Obj)} {H : Hp} {h : Heap} (u : Unheld cs H h) : Same H (hold cs H) := fun b o e => by
  rw [hold_out (u.out e)]; exact e
/-! ### what a function in hand does -/
structure Acts (P : Program) (w : World) (K : PySem.W.Frag) (mg : Str → Option Value) (base : Heap) (k : Nat) (f : Addr) (G : List PyData → Option PyData) (H : Hp) : Prop where
  fnat : ∃ φ : Heap → Prop, H f = some (.ext φ) ∧ ∀ h, φ h → PySem.W.FnAt f h
  run : ∀ (A : Around) (outer : List Env) (s : Shared) (H' : Hp) (us : List Value) (vs : List V) (Q : VK), Room k A → Env0 P w K mg base A outer s H' → ExtN H H' → Vals vs us → spD K G vs H' Q C8.E0 → codeAny (model P w) A (.call (.ref f) ⟨us, []⟩) (CR C8.CX0 outer P w H' s Q C8.E0) s
section
variable {P : Program} {w : World} {K : PySem.W.Frag} {mg : Str → Option Value} {base : Heap} {k : Nat} {f : Addr} {G : List PyData → Option PyData} {H H' : Hp}
theorem Acts.ext (a : Acts P w K mg base k f G H) (e : ExtN H H') : Acts P w K mg base k f G H' := by
  obtain ⟨φ, h1, h2⟩ := a.fnat
  exact ⟨⟨φ, e _ _ h1 (fun _ z => by cases z), h2⟩, fun A outer s H2 us vs Q hr e0 e1 => a.run A outer s H2 us vs Q hr e0 (e.trans e1)⟩
theorem Acts.mono {j : Nat} (a : Acts P w K mg base j f G H) (h : j ≤ k) : Acts P w K mg base k f G H := ⟨a.fnat, fun A outer s H2 us vs Q hr => a.run A outer s H2 us vs Q (hr.mono h)⟩
/-- shown in the heap without the cells that it holds -/
theorem acts_of {cs : List (Addr × Obj)} (hc : HeldC cs H) (fnat : ∃ φ : Heap → Prop, H f = some (.ext φ) ∧ ∀ h, φ h → PySem.W.FnAt f h)
    (run : ∀ (A : Around) (outer : List Env) (s : Shared) (H2 : Hp) (us : List Value) (vs : List V) (ds : List PyData) (d : PyData), Room k A → Env0 P w K mg base A outer s (dropC cs H2) → HeldC cs H2 → ExtN H H2 → (∀ b o, cs.lookup b = some o → s.heap.get? b = some o) → Vals vs us → DpAll K (dropC cs H2) vs ds → G ds = some d →
      codeAny (model P w) A (.call (.ref f) ⟨us, []⟩) (CR C8.CX0 outer P w (dropC cs H2) s (fun v H3 => Same (dropC cs H2) H3 ∧ Dp K H3 v d) C8.E0) s) : Acts P w K mg base k f G H := by
  refine ⟨fnat, fun A outer s H2 us vs Q hr e0 e rv ⟨ds, d, hd, hg, q⟩ => ?_⟩
  have h2 : HeldC cs H2 := fun b o z => e _ _ (hc b o z) (fun _ y => by cases y)
  refine codeAny_mono (run A outer s H2 us vs ds d hr (e0.drop h2) h2 e (fun b o z => (e0.hok b _ (h2 b o z)).1) rv (hd.extD (extD_drop h2)) hg) fun r s' hq => ?_
  cases r with
  | error x => exact hq
  | ok fl =>
    cases fl with
    | ret u =>
      obtain ⟨v, H3, os, bare, un, hok, r, s3, d3⟩ := hq
      obtain ⟨u3, un'⟩ := un_up h2 e0.hok e0.frf un
      refine ⟨v, hold cs H3, os, bare, un', hok_hold u3 hok, r, q v _ (fun b o z => ?_) (d3.extD (extD_hold u3))⟩
      cases y : cs.lookup b with
      | none =>
        rw [hold_out y]
        exact s3 b o (by rw [drop_out y]; exact z)
      | some o' =>
        rw [h2 b o' y] at z
        rw [hold_in y]; exact z
    | next => exact hq
    | brk => exact hq
    | cont => exact hq
end
/-- x(..), x a name that holds a function in hand -/
def tActs (X : Cx) (k i : Nat) (G : List PyData → Option PyData) (fs : DFs) : TE := fun σ H Q => ∃ f, σ[i]? = some (some (.ref f)) ∧ Acts X.prog X.w X.K X.mg X.base k f G H ∧ ∃ e ds d, SD X.K H σ e ∧ fs e = some ds ∧ G ds = some d ∧ ∀ v H', Same H H' → Dp X.K H' v d → Q v H'
theorem pe_acts {X : Cx} {x : Str} {e : Expr} {es : List Expr} {fs : DFs} {G : List PyData → Option PyData} {i j k : Nat} {p pos : Pos} (hr : Room j X.A) (hk : k ≤ j) (hN : X.N[i]? = some x) (hv : Vis X.env.scope x) (ha : PAD X (e :: es) fs)
    (hd : (x == ("__debug__" : Str)) = false := by decide) (hcd : (x == ("__classdict__" : Str)) = false := by decide)
    (he : starEach (e :: es) X.env = (false, eval e X.env) :: starEach es X.env := by rfl) (hpl : (backTo pos (starEach es X.env)).any (·.1) = false := by rfl) :
    PE X (.Call (.Name x p) (e :: es) [] pos) (tActs X k i G fs) := by
  refine ⟨fun pins s σ H Q I h => ?_⟩
  obtain ⟨f, hs, ac, en, ds, d, hsd, hfs, hg, q⟩ := h
  refine wpAny_Call_Name_kw (thn ((pe_var (pos := p) hN hv hd hcd).run pins s σ H (fun v H1 => v = .ref f ∧ H1 = H) I ⟨.ref f, hs, rfl, rfl⟩) fun u s1 ⟨v, H1, I1, r1, q1⟩ => ?_)
  obtain ⟨ev, eH⟩ := q1
  subst ev
  rw [eH] at I1
  obtain rfl : u = Value.ref f := r1
  have fat : ∀ {pins s σ H1}, Inv X pins σ H1 s → Same H H1 → PySem.W.FnAt f s.heap := fun {pins s σ H1} I e => by
    obtain ⟨φ, h1, h2⟩ := ac.fnat
    exact h2 _ (I.hok f _ (e _ _ h1)).1
  refine PySem.W.callWith_F (first := []) (fat I1 (Same.refl H)) (thn (ha.run pos pins s1 σ H (fun vs H1 => Same H H1 ∧ DpAll X.K H1 vs ds) I1 ⟨en, ds, hsd, hfs, fun vs H1 s1 d1 => ⟨s1, d1⟩⟩) fun us s2 ⟨vs, H2, I2, r, sa, da⟩ => ⟨fat I2 sa, ?_⟩) he hpl
  show wpAny _ _ (call (.ref f) us) _ _ _
  refine wpAny_call (codeAny_mono (ac.run X.A X.stack s2 H2 us vs Q (hr.mono hk) I2.env0 (extN_same sa) r ⟨ds, d, da, hg, fun v H3 s3 d3 => q v H3 (sa.trans s3) d3⟩) fun r s' hq => ?_)
  cases r with
  | error e => exact hq.elim
  | ok fl =>
    cases fl with
    | ret u => exact I2.after hq
    | next => exact False.elim hq
    | brk => exact False.elim hq
    | cont => exact False.elim hq
end L2
end
section
set_option Elab.async false
set_option linter.all false
set_option maxRecDepth 100000
set_option maxHeartbeats 4000000
/-! C2: choose, the function that asker makes. -/
namespace Lb
open PySem PySem.Spec PyProof.Rows L2 StX RZ NdefX LamX
abbrev s_choose : Stmt := (C8.fnBody s_asker).getD 0 (.Pass ⟨0, 0, 0, 0⟩)
abbrev mkChoose (cells : List (Str × Addr)) : Addr → NF := NF.of s_choose "choose" "asker.<locals>.choose" (cloFrom cells (C8.fnScope s_choose).names [])
abbrev N_choose : List Str := ["stand", "size", "pool", "place", "found"]
theorem ns_choose : NScope N_choose ["stand", "size"] ["pool", "place"] (C8.fnScope s_choose) := nscope_by (by decide +kernel)
def g_choose : DG := (seqG (ifG (andB (btest (bin2 (gv 4) (fun _ => some .none) isnotD)) (notB (btest (callF F_is_answer (consF (gv 2) (consF (gv 0) (consF (gv 1) (consF (gv 4) nilF)))))))) neverG skipG)
  (retG (gv 4)))
/-- what choose gives: what place gives, an answer */ -/
def chooseG (n : Int) (G : List PyData → Option PyData) : List PyData → Option PyData
  | [st, sz] => (G [st, sz]).bind fun d => (g_choose [some st, some sz, some (.int n), none, some d]).bind fun o => match o with
    | .rt r => some r
    | .nx _ => none
  | _ => none
section
variable {P : Program} {w : World} {K : PySem.W.Frag} {mg : Str → Option Value} {base : Heap}
def spChoose (P : Program) (w : World) (K : PySem.W.Frag) (mg : Str → Option Value) (base : Heap) (k : Nat) : List (Option V) → Sp := fun ws vs H Q _ => ∃ (n : Int) (fpl : Addr) (G : List PyData → Option PyData) (st sz d : PyData), ws = [some (.int n), some (.ref fpl)] ∧ Acts P w K mg base k fpl G H ∧ DpAll K H vs [st, sz] ∧ chooseG n G [st, sz] = some d ∧ ∀ v H', Same H H' → Dp K H' v d → Q v H'
theorem nok_choose (T : Txt K mg) (G_is_answer : Has P w K mg base 3 "is_answer" (spD K F_is_answer)) (cells : List (Str × Addr)) (f c' : Addr) : NOk P w K mg base C8.CX0 5 f (mkChoose cells c') ["stand", "size"] ["pool", "place"] (spChoose P w K mg base 4) := by
  refine nok_of ns_choose (fun _ _ _ us hl => match us, hl with | [_, _], _ => rfl) (fun ws vs H Q E ⟨_, _, _, _, _, _, _, _, h, _⟩ => h.length) fun A outer s H vs ws Q E hr _ _ _ ⟨n, fpl, G, st, sz, d, hws, ac, hd, hg, q⟩ => ?_
  obtain ⟨v0, v1, rfl, hd0, hd1⟩ := dpAll2 hd
  subst hws
  refine ⟨_, pss_cons (ps_set (i := 4) ns_choose.nd rfl (.inl rfl) (pe_acts (i := 3) (k := 4) (G := G) hr (by decide) rfl (.inr (.inr rfl)) (pad_cons (pd_var 0) (pad_cons (pd_var 1) pad_nil)))) (psd_cons (psd_if (ptd_w (pwd_and (ptd_cmp od_isnot (pd_var 4) pd_non) (pwd_and1 (ptd_not (ptd_val (pd_call G_is_answer hr (by rfl) (pad_cons (pd_var 2) (pad_cons (pd_var 0) (pad_cons (pd_var 1) (pad_cons (pd_var 4) pad_nil)))))))))) (psd_one psd_never) psd_nil)
      (psd_one (psd_ret (pd_var 4)))), ?_⟩
  obtain ⟨d0, h1, hg⟩ := Option.bind_eq_some_iff.mp hg
  obtain ⟨o, h2, hg⟩ := Option.bind_eq_some_iff.mp hg
  refine ⟨fpl, rfl, ac, [some st, some sz, some (.int n), none, none], [st, sz], d0, .consS hd0 (.consS hd1 (.consS (.int n) (.consN (.consN .nil)))), rfl, h1, fun v H1 s1 dv => ?_⟩
  refine ⟨[some st, some sz, some (.int n), none, some d0], o, .consS (Dp.same s1 _ _ hd0) (.consS (Dp.same s1 _ _ hd1) (.consS (.int n) (.consN (.consS dv .nil)))), h2, ?_⟩
  cases o with
  | nx e => cases hg
  | rt r =>
    cases hg
    exact fun v2 H2 s2 d2 => q v2 H2 (s1.trans s2) d2
end
end Lb
end
section
set_option Elab.async false
set_option linter.all false
set_option maxRecDepth 100000
set_option maxHeartbeats 4000000
/-! C3: the cells that a function captured, as a list; asker. -/
namespace L2
open PySem PySem.Spec PyProof.Rows StX RZ NdefX LamX
def cellsOf (cl : List (Str × Addr)) (fr : List Str) (h : Heap) : List (Addr × Obj) := fr.filterMap fun y => (cl.lookup y).bind fun c => (h.get? c).map fun o => (c, o)
/-- cs are the captured cells, wherever they stand as here */ -/
structure Backs (cs : List (Addr × Obj)) (cl : List (Str × Addr)) (fr : List Str) (ws : List (Option V)) (H : Hp) : Prop where
  free : ∀ b o, cs.lookup b = some o → H b = none
  cell : ∀ b o, cs.lookup b = some o → ∃ y, y ∈ fr ∧ cl.lookup y = some b
  back : ∀ (h2 : Heap) (H2 : Hp), Unheld cs H2 h2 → CellsAt cl fr ws h2 H2
theorem mem_lookA {l : List (Addr × Obj)} {b : Addr} {o : Obj} (e : l.lookup b = some o) : (b, o) ∈ l := by
  induction l with
  | nil => cases e
  | cons p l ih =>
    obtain ⟨b', o'⟩ := p
    simp only [List.lookup] at e
    split at e
    · rename_i q
      have : b = b' := by simpa using q
      cases e
      rw [this]
      exact List.mem_cons_self
    · exact List.mem_cons_of_mem _ (ih e)
theorem cellsOf_mem {cl : List (Str × Addr)} {fr : List Str} {h : Heap} {b : Addr} {o : Obj} (e : (cellsOf cl fr h).lookup b = some o) : h.get? b = some o ∧ ∃ y, y ∈ fr ∧ cl.lookup y = some b := by
  have m : (b, o) ∈ cellsOf cl fr h := mem_lookA e
  unfold cellsOf at m
  obtain ⟨y, hy, hz⟩ := List.mem_filterMap.mp m
  obtain ⟨c, hc, hz⟩ := Option.bind_eq_some_iff.mp hz
  obtain ⟨o', ho, hz⟩ := Option.map_eq_some_iff.mp hz
  cases hz
  exact ⟨ho, y, hy, hc⟩
theorem lookup_mem {l : List (Addr × Obj)} {b : Addr} {o : Obj} (m : (b, o) ∈ l) : ∃ o', l.lookup b = some o' := by
  induction l with
  | nil => cases m
  | cons p l ih =>
    obtain ⟨b', o'⟩ := p
    by_cases hb : b = b'
    · exact ⟨o', by rw [hb]; simp [List.lookup]⟩
    · have m' : (b, o) ∈ l := by
        rcases List.mem_cons.mp m with z | z
        · cases z; exact absurd rfl hb
        · exact z
      obtain ⟨o2, h2⟩ := ih m'
      refine ⟨o2, ?_⟩
      have : (b == b') = false := by simp [hb]
      simp [List.lookup, this, h2]
theorem cellsOf_has {cl : List (Str × Addr)} {fr : List Str} {h : Heap} {y : Str} {c : Addr} {o : Obj} (hy : y ∈ fr) (hc : cl.lookup y = some c) (ho : h.get? c = some o) : (cellsOf cl fr h).lookup c = some o := by
  have m : (c, o) ∈ cellsOf cl fr h := List.mem_filterMap.mpr ⟨y, hy, by rw [hc]; simp [ho]⟩
  obtain ⟨o', h'⟩ := lookup_mem m
  have := (cellsOf_mem h').1
  rw [ho] at this
  cases this
  exact h'
theorem backs_of {cl : List (Str × Addr)} {fr : List Str} {ws : List (Option V)} {h : Heap} {H : Hp} (C : CellsAt cl fr ws h H) (hfr : ∀ y c, cl.lookup y = some c → y ∈ fr) : Unheld (cellsOf cl fr h) H h ∧ Backs (cellsOf cl fr h) cl fr ws H := by
  have fre : ∀ b o, (cellsOf cl fr h).lookup b = some o → H b = none := fun b o e => by
    obtain ⟨_, y, _, hc⟩ := cellsOf_mem e
    exact (C.all y b hc).1
  refine ⟨fun b o e => ⟨fre b o e, (cellsOf_mem e).1⟩, fre, fun b o e => (cellsOf_mem e).2, fun h2 H2 u => ⟨C.len, fun y c e => ?_, C.inj, fun i y e => ?_⟩⟩
  · obtain ⟨_, v, o, ho, hd⟩ := C.all y c e
    obtain ⟨u1, u2⟩ := u c o (cellsOf_has (hfr y c e) e ho)
    exact ⟨u1, v, o, u2, hd⟩
  · obtain ⟨c, hc, hv⟩ := C.has i y e
    refine ⟨c, hc, fun v ev => ?_⟩
    obtain ⟨x, r, o, ho, hd⟩ := hv v ev
    exact ⟨x, r, o, (u c o (cellsOf_has (hfr y c hc) hc ho)).2, hd⟩
/-- the closure's names are the captured ones -/
theorem clo_fr {N ps fr : List Str} {sc : Scope} {cells : List (Str × Addr)} (S : NScope N ps fr sc) {y : Str} {c : Addr} (e : (cloFrom cells sc.names []).lookup y = some c) : y ∈ fr := by
  rcases cloFrom_mem (PySem.mem_of_lookup e) with hm | ⟨h1, h2⟩
  · cases hm
  · exact S.free _ h1 rfl
/-- the def x stands in the written part; its code object is at c -/
structure DefC (K : PySem.W.Frag) (mg : Str → Option Value) (x : Str) (st : Stmt) (c : Addr) : Prop where
  ex : ∃ (fa : Addr) (oc : Value) (od : Option Addr) (kV doc pm : Value) (an : Option Addr) (ct : Value) (osl : Array (Option Value)),
    K.lookup fa = some ⟨oc, od, .func (PySem.W.fnOf x x (defArgs st) (defBody st) (defScope st) .none kV doc pm an (.ref c) ct), osl⟩ ∧ PySem.W.codeIn K (.ref c) x = true ∧ PySem.W.keepIn K (.ref fa) = true ∧ mg x = some (.ref fa)
/-- a def by its body, its end told of the very state -/
theorem fnOk_end {P : Program} {w : World} {K : PySem.W.Frag} {mg : Str → Option Value} {base : Heap} {k : Nat} {f : Addr} {name qual : Str} {params : Arguments} {body : List Stmt} {scope : Scope} {dV kV doc pm cdv ct oc : Value} {an od : Option Addr} {osl : Array (Option Value)} {N ps : List Str} {sp : Sp}
    (lk : K.lookup f = some ⟨oc, od, .func (PySem.W.fnOf name qual params body scope dV kV doc pm an cdv ct), osl⟩) (hcd : PySem.W.codeIn K cdv qual = true) (S : FnScope N ps scope) (len : ∀ vs H Q E, sp vs H Q E → vs.length = ps.length)
    (hbody : ∀ (A : Around) (outer : List Env) (s s1 : Shared) (H : Hp) (vs : List V) (Q : VK) (E : XK), Room k (A.deeper (envOfC qual scope s.heap.objs.size f cdv)) → sp vs H Q E → Env0 P w K mg base A outer s H → Inv (cxOf C8.CX0 P w K mg base N qual scope f cdv A outer s H C8.E0) [] (L2.start N vs) H s1 →
      wpAny (model P w) (cxOf C8.CX0 P w K mg base N qual scope f cdv A outer s H C8.E0).A (execs body (cxOf C8.CX0 P w K mg base N qual scope f cdv A outer s H C8.E0).env) (fun fl s' => match fl with
        | .ret u => CE outer P w H s Q u s'
        | _ => False) (cxOf C8.CX0 P w K mg base N qual scope f cdv A outer s H C8.E0).xe s1) :
    FnOk P w K mg base C8.CX0 (k + 1) f (PySem.W.fnOf name qual params body scope dV kV doc pm an cdv ct) ps sp := by
  refine ⟨len, fun A outer s H args us vs Q E hr e0 hb r hsp => ?_⟩
  have hl := len _ _ _ _ hsp
  have KX : K.In s.heap := e0.mod.kin.keeps fun b o e => (e0.bs b o e).1
  have lim : s.heap.NoLimit := e0.mod.nolimit.keeps fun b o e => (e0.bs b o e).1
  have hkind : ∀ y ∈ ps.zip us, scope.names.lookup y.1 = some .local ∨ (scope.names.lookup y.1 = some .cell ∧ ((cellsFrom (s.heap.objs.size + 1) scope.names []).lookup y.1).isSome = true) := fun ⟨n, v⟩ hy => by
    rcases S.par n (List.of_mem_zip hy).1 with q | q
    · exact .inl q
    · exact .inr ⟨q, PySem.W.cellsFrom_some _ _ _ (.inl q)⟩
  refine codeAny_call_function hr.depth (KX _ _ lk) rfl S.co S.gen rfl (PySem.W.codeRec_of KX hcd) (hb _ _ _ _ ?_)
  refine wpAny_newFunctionEnv_cells S.kind hkind fun env he s1 x => ?_
  subst he
  refine ⟨lim.keeps x.toInCall.keep, codeAny_func ?_⟩
  have I : Inv (cxOf C8.CX0 P w K mg base N qual scope f cdv A outer s H C8.E0) [] (L2.start N vs) H s1 := inv_start S hr.hd e0 hl r x
  refine wpAny_mono (hbody A outer s s1 H vs Q E (hr.deeper _) hsp e0 I) (fun fl s' hs => ?_) fun e s' hs => hs
  cases fl with
  | ret u => exact hs
  | next => exact hs.elim
  | brk => exact hs.elim
  | cont => exact hs.elim
end L2
namespace Lb
open PySem PySem.Spec PyProof.Rows L2 StX RZ NdefX LamX
abbrev N_asker : List Str := ["pool", "place", "choose"]
theorem sc_asker : FnScope N_asker ["pool", "place"] (defScope s_asker) := ⟨rfl, rfl, rfl, by decide +kernel, rfl, by decide +kernel, by decide +kernel⟩
abbrev q_choose : Str := "asker.<locals>.choose"
theorem s_choose_eq : s_choose = .FunctionDef "choose" (C8.fnArgs s_choose) (C8.fnBody s_choose) [] none [] (C8.fnScope s_choose) none "choose" ⟨159, 4, 163, 20⟩ := rfl
section
variable {P : Program} {w : World} {K : PySem.W.Frag} {mg : Str → Option Value} {base : Heap}
def spAsker (P : Program) (w : World) (K : PySem.W.Frag) (mg : Str → Option Value) (base : Heap) (Ts : List NTab) : Sp := fun vs H Q _ => ∃ (n : Int) (fpl : Addr) (G : List PyData → Option PyData), vs = [.int n, .ref fpl] ∧ Acts P w K mg base 4 fpl G H ∧ TabsN Ts H ∧
  ∀ f H', ExtN H H' → TabsN Ts H' → Acts P w K mg base 5 f (chooseG n G) H' → Q (.ref f) H'
theorem has_asker {c Pa : Addr} {Ts : List NTab} (D : DefC K mg "asker" s_asker c) (TB : TabB base mg c Pa) (hm : (Pa, fun _ _ => q_choose) ∈ Ts) (hu : ∀ p ∈ Ts, p.1 = Pa → p.2 = fun _ _ => q_choose)
    (NC : ∀ (cells : List (Str × Addr)) (f c' : Addr), NOk P w K mg base C8.CX0 5 f (mkChoose cells c') ["stand", "size"] ["pool", "place"] (spChoose P w K mg base 4)) : Has P w K mg base 1 "asker" (spAsker P w K mg base Ts) := by
  obtain ⟨fa, oc, od, kV, doc, pm, an, ct, osl, lk, hcd, kp, hmg⟩ := D.ex
  refine ⟨fa, _, ["pool", "place"], fnOk_end (N := N_asker) lk hcd sc_asker (fun vs H Q E ⟨_, _, _, h, _⟩ => by rw [h]; rfl) (fun A outer s s1 H vs Q E hr ⟨n, fpl, G, hvs, ac, hT, q⟩ e0 I => ?_), hmg, kp, .all fun us hl => match us, hl with | [_, _], _ => rfl⟩
  subst hvs
  have hfree : ∀ y ∈ (C8.fnScope s_choose).names, y.2 = .free → (defScope s_asker).names.lookup y.1 = some .cell ∨ (defScope s_asker).names.lookup y.1 = some .free := ndef_free (fr := ["pool", "place"]) (by decide +kernel)
  have hqq : ((cxOf C8.CX0 P w K mg base N_asker "asker" (defScope s_asker) fa (.ref c) A outer s H C8.E0).env.qual ++ ("choose" : Str)) = q_choose := by
    show (("asker" : Str) ++ ".<locals>.") ++ "choose" = q_choose
    decide +kernel
  have hps := ps_ndefMS (X := cxOf C8.CX0 P w K mg base N_asker "asker" (defScope s_asker) fa (.ref c) A outer s H C8.E0) (T := Ts) (nm := fun _ _ => q_choose) (c := c) (P := Pa) (i := 2) s_choose_eq TB rfl hm hqq.symm hu hfree rfl rfl rfl sc_asker.nd rfl (.inl rfl) (.inl rfl)
  rw [hqq] at hps
  refine wpAny_execs_cons (thn (hps.run [] s1 _ H { nx := fun σ' H' => ∃ f c', σ' = [some (.int n), some (.ref fpl), some (.ref f)] ∧ ExtN H H' ∧ (∀ b, H' b = none → H b = none) ∧ TabsN Ts H' ∧ H' f = some (FnO f (mkChoose (cxOf C8.CX0 P w K mg base N_asker "asker" (defScope s_asker) fa (.ref c) A outer s H C8.E0).env.cells c')) ∧ H' c' = some (CodeO c' q_choose), rt := fun _ _ => False } I ⟨hT, fun f c' H1 eN nn T1 f0 f1 c1 => ⟨f, c', rfl, eN, nn, T1, f1, c1⟩⟩) fun fl s2 hs => ?_)
  cases fl with
  | ret u =>
    obtain ⟨_, _, _, _, _, z⟩ := hs
    exact z.elim
  | brk =>
    obtain ⟨_, _, _, z⟩ := hs
    exact z.elim
  | cont =>
    obtain ⟨_, _, _, z⟩ := hs
    exact z.elim
  | next =>
    obtain ⟨σ', H', J, f, c', rfl, eN, nn, T1, f1, c1⟩ := hs
    refine wpAny_execs_cons (wpAny_Return_some (thn ((pv 2).run [] s2 _ H' (fun v H1 => v = .ref f ∧ H1 = H') J ⟨_, rfl, rfl, rfl⟩) fun u s3 ⟨v, H1, J3, rv, hv, hH⟩ => ?_))
    subst hv hH
    have cp := Caps.made (fr := ["pool", "place"]) (js := [0, 1]) J3.ok hfree (ndef_fr (sc := defScope s_asker) (by decide +kernel)) rfl
    have C := cells_of J3 cp
    obtain ⟨U, B⟩ := backs_of C (fun y c e => clo_fr ns_choose e)
    generalize cellsOf _ ["pool", "place"] s3.heap = cs at U B
    have hx := same_hold (cs := cs) U
    have un0 : Un (frs outer) [] H H1 s.heap s3.heap := J3.base
    have nin : ∀ b o, s.heap.get? b = some o → cs.lookup b = none := fun b o e => by
      cases z : cs.lookup b with
      | none => rfl
      | some o' =>
        obtain ⟨y, hy, hc⟩ := B.cell b o' z
        have h1 : s.heap.objs.size ≤ b := J3.ok.cab y b rfl (cp.sub y b hc)
        exact absurd (Heap.lt_size e) (Nat.not_lt.mpr h1)
    have un : Un (frs outer) [] H (hold cs H1) s.heap s3.heap := ⟨un0.keep, un0.slot, fun b o e n0 n2 => by rw [hold_out (nin b o e)]; exact un0.free b o e n0 n2, un0.there, fun b xs e => hx _ _ (un0.tups b xs e), fun b o y e => hx _ _ (un0.frzs b o y e), fun b ps e => by
      obtain ⟨m, z⟩ := un0.tbls b ps e
      exact ⟨m, hx _ _ z⟩⟩
    refine ⟨.ref f, hold cs H1, J3.os, J3.bare, un, hok_hold U J3.hok, rv, q f _ (eN.trans (extN_same hx)) (T1.ext hx) ?_⟩
    refine acts_of HeldC.hold ⟨_, hx _ _ f1, fun h ⟨od, sl, doc, pm, ctv, z⟩ => ⟨_, od, _, sl, z⟩⟩ fun A2 outer2 s4 H2 us vs ds d hr4 e4 h2 eN2 hg4 r4 d4 g4 => ?_
    have C4 := B.back s4.heap (dropC cs H2) (fun b o e => ⟨drop_in e, hg4 b o e⟩)
    have xD : ∀ b o, H1 b = some o → (∀ ps, o ≠ .tbl ps) → dropC cs H2 b = some o := fun b o e n => by
      rw [drop_out (U.out e)]
      exact eN2 b o (hx b o e) n
    have hd2 : ∃ st sz, ds = [st, sz] := by
      unfold chooseG at g4
      split at g4
      · exact ⟨_, _, rfl⟩
      · cases g4
    obtain ⟨st, sz, rfl⟩ := hd2
    exact (NC _ f c').run A2 outer2 s4 (dropC cs H2) us vs _ _ C8.E0 hr4 e4 (xD _ _ f1 fun ps => fnO_ne ps) (xD _ _ c1 fun ps => codeO_ne ps) C4 r4 ⟨n, fpl, G, st, sz, d, rfl, ac.ext (eN.trans xD), d4, g4, fun v H3 s3 d3 => ⟨s3, d3⟩⟩
end
end Lb
end
section
set_option Elab.async false
set_option linter.all false
set_option maxRecDepth 100000
set_option maxHeartbeats 4000000
/-! C4: a lambda with parameters: made, held, called. -/
namespace L2
open PySem PySem.Spec PyProof.Rows StX RZ NdefX LamX
def LamO (f : Addr) (F : NF) (e : Expr) : HO := .ext fun h => ∃ (pm ctv : Value), h.get? f = some (PySem.W.kla_obj F.name F.qual F.params e F.scope F.cl pm F.c ctv)
theorem lamO_ne {f : Addr} {F : NF} {e : Expr} (ps : Array Value) : LamO f F e ≠ .tbl ps := fun z => by
  unfold LamO at z
  cases z
section
variable {X : Cx} {pins : List (Addr × Obj)} {σ : L2.St} {H : Hp} {s : Shared}
theorem inv_lam {F : NF} {e : Expr} {o : Obj} {t' : Nat} {pm ctv : Value} (I : Inv X pins σ H s) (ho : o = PySem.W.kla_obj F.name F.qual F.params e F.scope F.cl pm F.c ctv) :
    Inv X pins σ (upd H s.heap.objs.size (LamO s.heap.objs.size F e)) { s with heap := s.heap.push o, toks := t' } := by
  subst ho
  refine I.laid (a := s.heap.objs.size) (fun b u e => Heap.get?_push_of_some _ e) (Nat.le_refl _) ?_
  have e1 : (s.heap.push (PySem.W.kla_obj F.name F.qual F.params e F.scope F.cl pm F.c ctv)).get? s.heap.objs.size = some (PySem.W.kla_obj F.name F.qual F.params e F.scope F.cl pm F.c ctv) := Heap.get?_push_size _ rfl
  exact ⟨⟨pm, ctv, e1⟩, ⟨_, e1⟩, fun h1 h2 ⟨p, t, z⟩ st => ⟨p, t, st _ z⟩⟩
/-- the lambda is made: its code object is new, or found in the table -/
theorem lam_make3 {T : List NTab} {nm : Nat → Nat → Str} {c P : Addr} {params : Arguments} {body : Expr} {scope : Scope} {pos : Pos} {E : Value → Shared → Prop} {Q : Value → Shared → Prop} (I : Inv X pins σ H s) (TB : TabB X.base X.mg c P) (hcode : X.env.code = .ref c)
    (hm : (P, nm) ∈ T) (hn : nm pos.line pos.col = X.env.qual ++ "<lambda>") (hu : ∀ p ∈ T, p.1 = P → p.2 = nm) (hT : TabsN T H) (hdef : defaultsOf params X.env = ([], [])) (hfree : ∀ y ∈ scope.names, y.2 = .free → ∃ c, X.env.cells.lookup y.1 = some c)
    (h : ∀ (f c' : Addr) (H1 : Hp) (s' : Shared), Inv X pins σ H1 s' → ExtN H H1 → TabsN T H1 → H f = none → H1 f = some (LamO f ⟨"<lambda>", X.env.qual ++ "<lambda>", params, [], scope, cloFrom X.env.cells scope.names [], c'⟩ body) → H1 c' = some (CodeO c' (X.env.qual ++ "<lambda>")) → Q (.ref f) s') :
    wpAny (model X.prog X.w) X.A (eval (.Lambda params body scope pos) X.env) Q E s := by
  obtain ⟨ps, hP, ht, ha⟩ := (show TabN H P nm from hT _ hm)
  refine PySem.W.kla_eval hdef ?_
  have bP : s.heap.BuiltinsAt X.mg P := TB.bm.keeps I.bk
  have hP' : s.heap.get? P = some { cls := .none, data := .fields ps } := I.hok P _ hP
  cases hc : codeAmong pos ps.toList with
  | none =>
    refine PySem.W.kla_makeFunction (mg := X.mg) (c := c) (P := P) (ps := ps) (closure_ok hfree) I.ok.glob (I.mod.glob.keeps I.bk) hcode (TB.code.keeps I.bk) hP' ht hc TB.gP bP fun c' ctv h' tk hx hge hlt hrec htb => ?_
    obtain ⟨c2, oc, vs, t, e2, hoc, hd, hv⟩ := hrec
    cases e2
    have nC : H c' = none := I.hok.fresh hge
    have I1 := inv_table (t' := tk) (more := #[rawInt pos.line, rawInt pos.col, .ref c']) (h' := h') I hP (fun b o hb e => hx b o hb e) htb hge ⟨oc, vs, t, hoc, hd, hv⟩
    have hE : ExtN H (upd (upd H P (.tbl (ps ++ #[rawInt pos.line, rawInt pos.col, .ref c']))) c' (CodeO c' (X.env.qual ++ "<lambda>"))) := fun b o e n => by
      rw [upd_ne (ne_of_none e nC), upd_ne (fun z => n ps (Option.some.inj (e.symm.trans (by rw [z]; exact hP))))]
      exact e
    have eL : (ps ++ #[rawInt pos.line, rawInt pos.col, .ref c']).toList = ps.toList ++ [rawInt pos.line, rawInt pos.col, .ref c'] := by simp
    have T1 : TabsN T (upd (upd H P (.tbl (ps ++ #[rawInt pos.line, rawInt pos.col, .ref c']))) c' (CodeO c' (X.env.qual ++ "<lambda>"))) := fun p hp => by
      by_cases hb : p.1 = P
      · rw [hu p hp hb, hb]
        refine ⟨_, by rw [upd_ne (ne_of_none hP nC), upd_same], by rw [eL]; exact PySem.TriplesOk_snoc _ _ _ _ ht, fun p' cv hcv => ?_⟩
        rw [eL] at hcv
        rcases among_app2 _ ht hcv with z | ⟨z, z1, z2⟩
        · obtain ⟨c0, e1, e2⟩ := ha p' cv z
          exact ⟨c0, e1, hE _ _ e2 codeO_ne⟩
        · refine ⟨c', z, ?_⟩
          rw [← z1, ← z2, hn]
          exact upd_same
      · obtain ⟨ps', a1, a2, a3⟩ := hT p hp
        refine ⟨ps', by rw [upd_ne (ne_of_none a1 nC), upd_ne hb]; exact a1, a2, fun p' cv hcv => ?_⟩
        obtain ⟨c0, e1, e2⟩ := a3 p' cv hcv
        exact ⟨c0, e1, hE _ _ e2 codeO_ne⟩
    have nF := I1.hok.fresh (Nat.le_refl _)
    have I2 := inv_lam (F := ⟨"<lambda>", X.env.qual ++ "<lambda>", params, [], scope, cloFrom X.env.cells scope.names [], c'⟩) (e := body) (t' := tk) (pm := (X.mg "__name__").getD .none) (ctv := ctv) I1 rfl
    refine h h'.objs.size c' _ _ I2 (fun b o e n => ?_) (T1.ext fun b o e => ?_) (I.hok.fresh (Nat.le_trans hge (Nat.le_of_lt hlt))) upd_same ?_
    · have e1 := hE b o e n
      exact (upd_ne (ne_of_none e1 nF)).trans e1
    · exact (upd_ne (ne_of_none e nF)).trans e
    · exact (upd_ne (Nat.ne_of_lt hlt)).trans upd_same
  | some cv =>
    obtain ⟨c', e, hco⟩ := ha pos cv hc
    subst e
    rw [hn] at hco
    refine PySem.W.kla_makeFunctionHit (mg := X.mg) (c := c) (P := P) (ps := ps) (closure_ok hfree) I.ok.glob (I.mod.glob.keeps I.bk) hcode (TB.code.keeps I.bk) hP' ht hc bP fun ctv h' tk hx hsz => ?_
    have I1 : Inv X pins σ H { s with heap := h', toks := tk } := I.kept hx
    have nF : H h'.objs.size = none := I1.hok.fresh (Nat.le_refl _)
    have I2 := inv_lam (F := ⟨"<lambda>", X.env.qual ++ "<lambda>", params, [], scope, cloFrom X.env.cells scope.names [], c'⟩) (e := body) (t' := tk) (pm := (X.mg "__name__").getD .none) (ctv := ctv) I1 rfl
    refine h h'.objs.size c' _ _ I2 (fun b o e n => ?_) (hT.ext fun b o e => ?_) nF upd_same ?_
    · exact (upd_ne (ne_of_none e nF)).trans e
    · exact (upd_ne (ne_of_none e nF)).trans e
    · exact (upd_ne (ne_of_none hco nF)).trans hco
end
/-- the reading of a lambda -/
def tLamO (T : List NTab) (mk : Addr → NF) (body : Expr) : TE := fun _ H Q => TabsN T H ∧ ∀ (f c' : Addr) (H1 : Hp), ExtN H H1 → TabsN T H1 → H f = none → H1 f = some (LamO f (mk c') body) → H1 c' = some (CodeO c' (mk c').qual) → Q (.ref f) H1
theorem pe_lam {X : Cx} {T : List NTab} {nm : Nat → Nat → Str} {c P : Addr} {params : Arguments} {body : Expr} {scope : Scope} {pos : Pos} (TB : TabB X.base X.mg c P) (hcode : X.env.code = .ref c)
    (hm : (P, nm) ∈ T) (hn : nm pos.line pos.col = X.env.qual ++ "<lambda>") (hu : ∀ p ∈ T, p.1 = P → p.2 = nm) (hdef : defaultsOf params X.env = ([], []))
    (hfree : ∀ y ∈ scope.names, y.2 = .free → X.env.scope.names.lookup y.1 = some .cell ∨ X.env.scope.names.lookup y.1 = some .free) :
    PE X (.Lambda params body scope pos) (tLamO T (fun c' => ⟨"<lambda>", X.env.qual ++ "<lambda>", params, [], scope, cloFrom X.env.cells scope.names [], c'⟩) body) := by
  refine ⟨fun pins s σ H Q I ⟨hT, h⟩ => ?_⟩
  have hfr : ∀ y ∈ scope.names, y.2 = .free → ∃ c, X.env.cells.lookup y.1 = some c := fun y hy e => (hfree y hy e).elim (fun z => I.ok.has _ (.inl z)) fun z => I.ok.has _ (.inr z)
  exact lam_make3 I TB hcode hm hn hu hT hdef hfr fun f c' H1 s' I1 eN T1 f0 f1 c1 => ⟨.ref f, H1, I1, rfl, h f c' H1 eN T1 f0 f1 c1⟩
/-- the lambda's run -/
theorem lam_run {P : Program} {w : World} {K : PySem.W.Frag} {mg : Str → Option Value} {base : Heap} {N ps fr : List Str} {F : NF} {body : Expr} {f : Addr} {A : Around} {outer : List Env} {s : Shared} {H : Hp} {us : List Value} {vs : List V} {ws : List (Option V)} {Q : VK} {k : Nat} (S : NScope N ps fr F.scope)
    (hb : ∀ (pm ctv : Value) (us : List Value), us.length = ps.length → bindArgs (PySem.W.kla_fn F.name F.qual F.params body F.scope F.cl pm (.ref F.c) ctv) ⟨us, []⟩ = pure (ps.zip us)) (hr : Room (k + 1) A) (e0 : Env0 P w K mg base A outer s H) (hf : H f = some (LamO f F body)) (hc : H F.c = some (CodeO F.c F.qual))
    (C : CellsAt F.cl fr ws s.heap H) (r : Vals vs us) (hl : vs.length = ps.length) (hbody : Room k (A.deeper (envF F f s.heap.objs.size)) → ∃ t, PE (ncx C8.CX0 P w K mg base N F f A outer s H C8.E0) body t ∧ t (startF N vs ws) H Q) :
    codeAny (model P w) A (.call (.ref f) ⟨us, []⟩) (CR C8.CX0 outer P w H s Q C8.E0) s := by
  have lim : s.heap.NoLimit := e0.mod.nolimit.keeps fun b o e => (e0.bs b o e).1
  obtain ⟨⟨pm, ctv, ho⟩, _, _⟩ := e0.hok f _ hf
  refine PySem.W.kla_callFunE hr.depth ho rfl S.co S.gen rfl (codeO_at e0.hok hc) ?_
  rw [hb pm ctv us (by rw [← r.length]; exact hl)]
  refine wpAny_pure (wpAny_newFunctionEnv S.nocell (fun ⟨n, _⟩ hy => S.par n (List.of_mem_zip hy).1) (fun h₁ hns hsb => ⟨lim.fresh _ hsb, ?_⟩) S.kind)
  show codeAny _ _ (.expr body (envF F f s.heap.objs.size)) _ _
  have kp : ∀ b o, s.heap.get? b = some o → h₁.get? b = some o := fun b o e => hsb.extBut b o (Nat.ne_of_lt (Heap.lt_size e)) (Heap.get?_push_of_some _ e)
  have I : Inv (ncx C8.CX0 P w K mg base N F f A outer s H C8.E0) [] (startF N vs ws) H { s with heap := h₁, toks := s.toks + (ps.zip us).length } := inv_startN S hr.hd e0 hl r C hns kp
  obtain ⟨t, ht, hq⟩ := hbody (hr.deeper _)
  refine PySem.W.kla_codeExpr (wpAny_mono (ht.run [] _ _ H Q I hq) (fun v s' hq => ?_) fun e s' hq => hq)
  obtain ⟨w', H', J', rv, q⟩ := hq
  exact ⟨w', H', J'.os, J'.bare, J'.base, J'.hok, rv, q⟩
/-! ### a def of the module, called while captured cells of the running frame are held -/
theorem pe_hold {X : Cx} {k j : Nat} {x : Str} {sp : Sp} {p pos : Pos} {t : TA} {a : Expr} {es : List Expr} {cl : List (Str × Addr)} {fr : List Str} {js : List Nat} (G : Has X.prog X.w X.K X.mg X.base k x sp) (hr : Room j X.A) (hg : Gl X x) (ha : PA X (a :: es) t) (cp : X.Ok → Caps X cl fr js)
    (hfr : ∀ y c, cl.lookup y = some c → y ∈ fr) (hfn : ∀ x, X.fn x = true) (hk : k ≤ j := by decide)
    (hd : (x == ("__debug__" : Str)) = false := by decide) (he : starEach (a :: es) X.env = (false, eval a X.env) :: starEach es X.env := by rfl) (hpl : (backTo pos (starEach es X.env)).any (·.1) = false := by rfl) :
    PE X (.Call (.Name x p) (a :: es) [] pos) (fun σ H Q => t σ H fun vs H1 => ∀ cs, Backs cs cl fr (js.map (slotAt σ)) H1 → Same H1 (hold cs H1) → sp vs (hold cs H1) (fun r H3 => HeldC cs H3 ∧ ((∀ c q, H3 c = some (CodeO c q) → cs.lookup c = none) → Q r (dropC cs H3))) C8.E0) := by
  obtain ⟨fa, fd, ps, G, hm, hkp, hb⟩ := G.ex
  refine ⟨fun pins s σ H Q I h => ?_⟩
  refine wpAny_Call_Name_kw (ld_glob I hg hm ?_ hd)
  refine PySem.W.callWith_K (h₀ := X.base) I.ok.mod.kin hkp (thn (ha.run pos pins s σ H _ I h) fun us s1 ⟨vs, H1, I1, r, q⟩ => ⟨I1.kIn, ?_⟩) he hpl
  have CA := cells_of I1 (cp I1.ok)
  obtain ⟨U, B⟩ := backs_of CA hfr
  generalize cellsOf cl fr s1.heap = cs at U B
  have q := q cs B (same_hold U)
  have e1 : Env0 X.prog X.w X.K X.mg X.base X.A X.stack s1 (hold cs H1) := I1.env0.hold U fun b o z => by
    obtain ⟨y, hy, hc⟩ := B.cell b o z
    have hc' := (cp I1.ok).sub y b hc
    have h1 : X.s_0.heap.objs.size ≤ b := I1.ok.cab y b (hfn y) hc'
    refine ⟨?_, fun m => ?_⟩
    · cases z' : X.base.get? b with
      | none => rfl
      | some o' => exact absurd (Heap.lt_size (I1.ok.bs b o' z').1) (Nat.not_lt.mpr h1)
    · rcases List.mem_cons.mp (I1.stkSub _ m) with e | e
      · obtain ⟨m', hn, _⟩ := I1.loc
        obtain ⟨o2, es, ep, e2, d2, _⟩ := hn
        obtain ⟨v2, o3, e3, d3⟩ := I1.cell y b hc'
        rw [← e, e3] at e2
        cases e2
        rw [d3] at d2
        cases d2
      · have := I1.ok.funs.mem e
        obtain ⟨_, o2, e2, _⟩ := this
        exact absurd (Heap.lt_size e2) (Nat.not_lt.mpr h1)
  have len := G.len _ _ _ _ q
  refine wpAny_call (codeAny_mono (G.run X.A X.stack s1 (hold cs H1) ⟨us, []⟩ us vs _ C8.E0 (hr.mono hk) e1 (by
    have := hb s1 us I1.kIn (by rw [List.append_nil, ← r.length]; exact len)
    rw [List.append_nil] at this
    exact this) r q) fun rr s' hq => ?_)
  cases rr with
  | error e => exact hq.elim
  | ok fl =>
    cases fl with
    | ret u =>
      obtain ⟨v, H3, os, bare, un, hok, rv, h3, q3⟩ := hq
      refine I1.after ⟨v, dropC cs H3, os, bare, un_down U h3 hok un, hok_drop h3 hok, rv, q3 fun c' q' e => ?_⟩
      cases z : cs.lookup c' with
      | none => rfl
      | some o =>
        obtain ⟨⟨oc, vs', t', g1, g2, _⟩, _, _⟩ := hok c' _ e
        have g3 : s'.heap.get? c' = some o := (hok c' _ (h3 c' o z)).1
        obtain ⟨y, _, hy⟩ := B.cell c' o z
        obtain ⟨_, v2, o2, g4, g5⟩ := CA.all y c' hy
        rw [(U c' o z).2] at g4
        cases g4
        rw [g1] at g3
        cases g3
        rw [g2] at g5
        cases g5
    | next => exact False.elim hq
    | brk => exact False.elim hq
    | cont => exact False.elim hq
end L2
end
section
set_option Elab.async false
set_option linter.all false
set_option maxRecDepth 100000
set_option maxHeartbeats 4000000
/-! E7: dicts with int keys over data. -/
namespace L2
open PySem PySem.Spec PyProof.Rows StX RZ NdefX LamX
/-! ### what is read of lists and tuples stands -/
def seqB : HO → Prop
  | .lst _ => True
  | .tup _ => True
  | .frz _ (.lst _) => True
  | .frz _ (.tup _) => True
  | _ => False
def ExtS (H H' : Hp) : Prop := ∀ b o, H b = some o → seqB o → H' b = some o
theorem ExtS.refl (H : Hp) : ExtS H H := fun _ _ h _ => h
theorem ExtS.trans {H H1 H2 : Hp} (a : ExtS H H1) (b : ExtS H1 H2) : ExtS H H2 := fun c o h n => b c o (a c o h n) n
theorem ExtS.of {H H' : Hp} (e : Same H H') : ExtS H H' := fun b o h _ => e b o h
theorem ExtS.upd {H : Hp} {p : Addr} {u : HO} (h : ∀ o, H p = some o → ¬ seqB o) : ExtS H (upd H p u) := fun b o e s => by
  by_cases hb : b = p
  · rw [hb] at e; exact absurd s (h o e)
  · rw [upd_ne hb]; exact e
theorem ExtS.seqL {K : PySem.W.Frag} {H H' : Hp} {a : Addr} {xs : List V} (e : ExtS H H') (h : SqL K H a xs) : SqL K H' a xs := by
  rcases h with (h | ⟨o, h⟩) | h
  · exact .inl (.inl (e _ _ h trivial))
  · exact .inl (.inr ⟨o, e _ _ h trivial⟩)
  · exact .inr h
theorem ExtS.seqT {K : PySem.W.Frag} {H H' : Hp} {a : Addr} {xs : List V} (e : ExtS H H') (h : SqT K H a xs) : SqT K H' a xs := by
  rcases h with (h | ⟨o, h⟩) | h
  · exact .inl (.inl (e _ _ h trivial))
  · exact .inl (.inr ⟨o, e _ _ h trivial⟩)
  · exact .inr h
mutual
theorem Dp.extS {K : PySem.W.Frag} {H H' : Hp} (e : ExtS H H') : ∀ (d : PyData) (v : V), Dp K H v d → Dp K H' v d
  | .none, _, h => by cases h; exact .non
  | .bool _, _, h => by cases h; exact .bl _
  | .int _, _, h => by cases h; exact .int _
  | .str _, _, h => by cases h; exact .str _
  | .list ds, _, h => by
    cases h with
    | lst h1 h2 => exact .lst (e.seqL h1) (DpAll.extS e ds _ h2)
  | .tuple ds, _, h => by
    cases h with
    | tup h1 h2 => exact .tup (e.seqT h1) (DpAll.extS e ds _ h2)
  | .dict _, _, h => nomatch h
theorem DpAll.extS {K : PySem.W.Frag} {H H' : Hp} (e : ExtS H H') : ∀ (ds : List PyData) (vs : List V), DpAll K H vs ds → DpAll K H' vs ds
  | [], _, h => by cases h; exact .nil
  | d :: ds, _, h => by
    cases h with
    | cons h1 h2 => exact .cons (Dp.extS e d _ h1) (DpAll.extS e ds _ h2)
end
theorem SD.extS {K : PySem.W.Frag} {H H' : Hp} {σ : L2.St} {e : DEnv} (h : SD K H σ e) (x : ExtS H H') : SD K H' σ e := ⟨h.1, fun i d q => by
  obtain ⟨v, h1, h2⟩ := h.2 i d q
  exact ⟨v, h1, Dp.extS x _ _ h2⟩⟩
/-! ### dicts -/
abbrev DkD := List (Int × PyData)
inductive KvD (K : PySem.W.Frag) (H : Hp) : List (Key × V) → DkD → Prop
  | nil : KvD K H [] []
  | cons {i : Int} {v : V} {d : PyData} {r : List (Key × V)} {ds : DkD} (h : Dp K H v d) (t : KvD K H r ds) : KvD K H ((.inl i, v) :: r) ((i, d) :: ds)
def lookD (ds : DkD) (k : Int) : Option PyData := (ds.find? fun p => decide (p.1 = k)).map (·.2)
def putD (ds : DkD) (k : Int) (d : PyData) : DkD := if (ds.any fun p => decide (p.1 = k)) = true then ds.map (fun p => if p.1 = k then (p.1, d) else p) else ds ++ [(k, d)]
def dropD (ds : DkD) (k : Int) : DkD := ds.filter fun p => decide (p.1 ≠ k)
def itemsD (ds : DkD) : List PyData := ds.map fun p => .tuple [.int p.1, p.2]
section
variable {K : PySem.W.Frag} {H H' : Hp}
theorem KvD.length : ∀ {kvs : List (Key × V)} {ds : DkD}, KvD K H kvs ds → kvs.length = ds.length
  | _, _, .nil => rfl
  | _, _, .cons _ t => by rw [List.length_cons, List.length_cons, t.length]
theorem KvD.imp (f : ∀ d v, Dp K H v d → Dp K H' v d) : ∀ {kvs : List (Key × V)} {ds : DkD}, KvD K H kvs ds → KvD K H' kvs ds
  | _, _, .nil => .nil
  | _, _, .cons h t => .cons (f _ _ h) (t.imp f)
theorem KvD.extS {kvs : List (Key × V)} {ds : DkD} (h : KvD K H kvs ds) (e : ExtS H H') : KvD K H' kvs ds := h.imp fun d v => Dp.extS e d v
theorem KvD.tsame (e : TSame H H') : ∀ {kvs : List (Key × V)} {ds : DkD}, (∀ p ∈ ds, nl p.2 = true) → KvD K H kvs ds → KvD K H' kvs ds
  | _, _, _, .nil => .nil
  | _, _, n, .cons h t => .cons (Dp.tsame e _ _ (n _ List.mem_cons_self) h) (t.tsame e fun p hp => n p (List.mem_cons_of_mem _ hp))
theorem KvD.at_ : ∀ {kvs : List (Key × V)} {ds : DkD} {i : Nat} {n : Int} {d : PyData}, KvD K H kvs ds → ds[i]? = some (n, d) → ∃ v, kvs[i]? = some (.inl n, v) ∧ Dp K H v d
  | _, _, _, _, _, .nil, h => by simp at h
  | _, _, 0, _, _, .cons h t, e => by simp at e; obtain ⟨rfl, rfl⟩ := e; exact ⟨_, rfl, h⟩
  | _, _, i + 1, _, _, .cons h t, e => by
    simp at e
    obtain ⟨v, h1, h2⟩ := t.at_ e
    exact ⟨v, by simpa using h1, h2⟩
theorem KvD.val_none {k : Int} : ∀ {kvs : List (Key × V)} {ds : DkD}, KvD K H kvs ds → lookD ds k = none → valV kvs (.inl k) = none
  | _, _, .nil, _ => rfl
  | _, _, .cons (i := i) h t, e => by
    by_cases hi : i = k
    · subst hi; simp [lookD] at e
    · rw [valV_neg (by simpa using hi)]
      refine t.val_none ?_
      simpa [lookD, List.find?_cons, hi] using e
theorem KvD.val_some {k : Int} {d : PyData} : ∀ {kvs : List (Key × V)} {ds : DkD}, KvD K H kvs ds → lookD ds k = some d → ∃ v, valV kvs (.inl k) = some v ∧ Dp K H v d
  | _, _, .nil, e => by simp [lookD] at e
  | _, _, .cons (i := i) h t, e => by
    by_cases hi : i = k
    · subst hi
      simp [lookD] at e
      subst e
      exact ⟨_, valV_pos rfl, h⟩
    · rw [valV_neg (by simpa using hi)]
      refine t.val_some ?_
      simpa [lookD, List.find?_cons, hi] using e
theorem KvD.any {k : Int} : ∀ {kvs : List (Key × V)} {ds : DkD}, KvD K H kvs ds → (kvs.any fun kv => decide (kv.1 = .inl k)) = (ds.any fun p => decide (p.1 = k))
  | _, _, .nil => rfl
  | _, _, .cons h t => by simp [t.any]
theorem KvD.snoc {k : Int} {v : V} {d : PyData} (hd : Dp K H v d) : ∀ {kvs : List (Key × V)} {ds : DkD}, KvD K H kvs ds → KvD K H (kvs ++ [(.inl k, v)]) (ds ++ [(k, d)])
  | _, _, .nil => .cons hd .nil
  | _, _, .cons h t => .cons h (t.snoc hd)
theorem KvD.mapv {k : Int} {v : V} {d : PyData} (hd : Dp K H v d) : ∀ {kvs : List (Key × V)} {ds : DkD}, KvD K H kvs ds → KvD K H (kvs.map fun kv => if kv.1 = .inl k then (kv.1, v) else kv) (ds.map fun p => if p.1 = k then (p.1, d) else p)
  | _, _, .nil => .nil
  | _, _, .cons (i := i) h t => by
    have ih := t.mapv (k := k) hd
    rw [List.map_cons, List.map_cons]
    by_cases hi : i = k
    · subst hi
      simp only [if_true]
      exact .cons hd ih
    · have h2 : ¬ (Sum.inl i : Key) = .inl k := fun z => hi (Sum.inl.inj z)
      simp only [if_neg hi, if_neg h2]
      exact .cons h ih
theorem KvD.put {k : Int} {v : V} {d : PyData} {kvs : List (Key × V)} {ds : DkD} (h : KvD K H kvs ds) (hd : Dp K H v d) : KvD K H (putK kvs (.inl k) v) (putD ds k d) := by
  unfold putK putD
  rw [h.any]
  split
  · exact h.mapv hd
  · exact h.snoc hd
theorem KvD.drop {k : Int} : ∀ {kvs : List (Key × V)} {ds : DkD}, KvD K H kvs ds → KvD K H (dropK kvs (.inl k)) (dropD ds k)
  | _, _, .nil => .nil
  | _, _, .cons (i := i) h t => by
    have ih := t.drop (k := k)
    unfold dropK dropD at ih ⊢
    by_cases hi : i = k
    · subst hi
      simpa using ih
    · have h2 : ¬ (Sum.inl i : Key) = .inl k := fun z => hi (Sum.inl.inj z)
      rw [List.filter_cons_of_pos (by simpa using hi), List.filter_cons_of_pos (by simpa using hi)]
      exact .cons h ih
theorem KvD.vals : ∀ {kvs : List (Key × V)} {ds : DkD}, KvD K H kvs ds → DpAll K H (kvs.map (·.2)) (ds.map (·.2))
  | _, _, .nil => .nil
  | _, _, .cons h t => .cons h t.vals
theorem wd_items {kvs : List (Key × V)} {ds : DkD} {d : Addr} {o : Obj} (hd : H d = some (.frz o (.dK kvs))) (h : KvD K H kvs ds) : WD K (Iti d o kvs) H (itemsD ds) := by
  have hl : (itemsD ds).length = kvs.length := by rw [itemsD, List.length_map, h.length]
  refine ⟨fun i H' s hi => (walk_items).goes i H' (by omega) (s _ _ hd), fun H' s => by rw [hl]; exact (walk_items).stops H' (s _ _ hd), fun i H' x H2 s y e he => ?_⟩
  have hi : i < ds.length := by
    have := (List.getElem?_eq_some_iff.mp he).1
    simpa [itemsD] using this
  obtain ⟨T, x1, y1, rfl, hT, rfl, e1, e2⟩ := (walk_items).yields i H' x H2 (by rw [h.length]; exact hi) (s _ _ hd) y
  obtain ⟨v, hv, hdv⟩ := h.at_ (List.getElem?_eq_getElem hi)
  dsimp only at e1 e2
  rw [hv] at e1 e2
  cases e1
  cases e2
  have he' : e = .tuple [.int ds[i].1, ds[i].2] := by
    unfold itemsD at he
    rw [List.getElem?_map, List.getElem?_eq_getElem hi] at he
    exact (Option.some.inj he).symm
  subst he'
  exact ⟨same_new hT, .tup (.inl (.inl upd_same)) (.cons (.int _) (.cons (Dp.same (s.trans (same_new hT)) _ _ hdv) .nil))⟩
theorem wd_values {kvs : List (Key × V)} {ds : DkD} {d : Addr} {o : Obj} (hd : H d = some (.frz o (.dK kvs))) (h : KvD K H kvs ds) : WD K (Itd d o kvs) H (ds.map (·.2)) := by
  have hl : (ds.map (·.2)).length = kvs.length := by rw [List.length_map, h.length]
  refine ⟨fun i H' s hi => (walk_values).goes i H' (by omega) (s _ _ hd), fun H' s => by rw [hl]; exact (walk_values).stops H' (s _ _ hd), fun i H' x H2 s y e he => ?_⟩
  have hi : i < ds.length := by
    have := (List.getElem?_eq_some_iff.mp he).1
    simpa using this
  obtain ⟨rfl, k, e1⟩ := (walk_values).yields i H' x H2 (by rw [h.length]; exact hi) (s _ _ hd) y
  obtain ⟨v, hv, hdv⟩ := h.at_ (List.getElem?_eq_getElem hi)
  rw [hv] at e1
  cases e1
  rw [List.getElem?_map, List.getElem?_eq_getElem hi] at he
  cases he
  exact ⟨Same.refl _, Dp.same s _ _ hdv⟩
theorem wd_keys {kvs : List (Key × V)} {ds : DkD} {d : Addr} {o : Obj} (hd : H d = some (.frz o (.dK kvs))) (h : KvD K H kvs ds) : WD K (Itk d o kvs) H (ds.map fun p => .int p.1) := by
  have hl : (ds.map fun p => PyData.int p.1).length = kvs.length := by rw [List.length_map, h.length]
  refine ⟨fun i H' s hi => (walk_keys).goes i H' (by omega) (s _ _ hd), fun H' s => by rw [hl]; exact (walk_keys).stops H' (s _ _ hd), fun i H' x H2 s y e he => ?_⟩
  have hi : i < ds.length := by
    have := (List.getElem?_eq_some_iff.mp he).1
    simpa using this
  obtain ⟨rfl, k, v0, e1, rfl⟩ := (walk_keys).yields i H' x H2 (by rw [h.length]; exact hi) (s _ _ hd) y
  obtain ⟨v, hv, hdv⟩ := h.at_ (List.getElem?_eq_getElem hi)
  rw [hv] at e1
  cases e1
  rw [List.getElem?_map, List.getElem?_eq_getElem hi] at he
  cases he
  exact ⟨Same.refl _, .int _⟩
/-! ### a comprehension over what a walk gives -/
theorem lc_at {J : It} {bd : Bd} {js vs : List Nat} {ft : DFB} {fe : DF} (hj : ∀ j ∈ js, j ∈ vs) {σ : L2.St} {H1 : Hp} {Q : VK} {e : DEnv} {ds all : List PyData} (hs : SD K H1 σ e) (w1 : WD K J H1 ds) (hsm : small ds.length = true) (he : compD bd ft fe (wipeE e vs) ds = some all)
    (k : ∀ p us H', H1 p = none → Same H1 H' → H' p = some (.lst us) → DpAll K H' us all → Q (.ref p) H') : ∀ D, H1 D = none → ∃ W : Nat → Nat → Hp → Prop, (∃ m, W 0 m (upd H1 D (.lst []))) ∧ ∀ i m H, W i m H →
  (J.stop i H ∧ Q (.ref D) H) ∨ (J.go i H ∧ ∃ Nx : Hp → Prop, (∀ H', Nx H' → ∃ m', m' < m ∧ W (i + 1) m' H') ∧ ∀ x H', J.yld i H x H' → tGD K bd js x (wipe σ vs) H' fun σ2 H2 => wipe σ2 vs = wipe σ vs ∧ tDT K ft σ2 H2 fun b H3 =>
    if b = true then tD K fe σ2 H3 fun y H4 => ∃ acc, H4 D = some (.lst acc) ∧ acc.length < sizeLine ∧ Nx (upd H4 D (.lst (acc ++ [y]))) else Nx H3) := by
  have q : tLc (fun σ H R => R J H) (tGD K bd js) (tDT K ft) (tD K fe) vs σ H1 Q := by
    have h := lc_data (K := K) (fi := fun _ => some ds) (bd := bd) (js := js) (vs := vs) (ft := ft) (fe := fe) hj (σ := σ) (H := H1) (Q := Q) ⟨e, all, hs, by simp [compF, hsm, he], fun p us H' h1 h2 h3 h4 => k p us H' h1 h2 h3 h4⟩
    obtain ⟨e', ds', hs', he', h⟩ := h
    cases he'
    exact h J H1 (Same.refl H1) w1
  exact q
/-- locked, then let go: all stands as it stood -/
theorem lock_same {H : Hp} {d : Addr} {kvs : List (Key × V)} {od : Obj} (hd : H d = some (.dK kvs)) (s : Same (upd H d (.frz od (.dK kvs))) H') : H' d = some (.frz od (.dK kvs)) ∧ Same H (upd H' d (.dK kvs)) ∧ ExtS H' (upd H' d (.dK kvs)) := by
  have h1 : H' d = some (.frz od (.dK kvs)) := s _ _ upd_same
  refine ⟨h1, fun b o e => ?_, ExtS.upd fun o e => by rw [h1] at e; cases e; exact id⟩
  by_cases hb : b = d
  · rw [hb, hd] at e
    cases e
    rw [hb, upd_same]
  · rw [upd_ne hb]
    exact s b o (by rw [upd_ne hb]; exact e)
theorem lock_ext {H : Hp} {d : Addr} {kvs : List (Key × V)} {u : HO} (hd : H d = some (.dK kvs)) : ExtS H (upd H d u) := ExtS.upd fun o e => by rw [hd] at e; cases e; exact id
/-- [.. for .. in d.items() ..] -/
theorem lc_items {bd : Bd} {js vs : List Nat} {ft : DFB} {fe : DF} (hj : ∀ j ∈ js, j ∈ vs) {σ : L2.St} {Q : VK} {e : DEnv} {all : List PyData} {i : Nat} {a : Addr} {kvs : List (Key × V)} {ds : DkD} (ha : σ[i]? = some (some (.ref a))) (hd : H a = some (.dK kvs)) (hk : KvD K H kvs ds) (hs : SD K H σ e)
    (hsm : small ds.length = true) (he : compD bd ft fe (wipeE e vs) (itemsD ds) = some all) (k : ∀ p us H', H p = none → Same H H' → H' p = some (.lst us) → DpAll K H' us all → Q (.ref p) H') :
    tLockE (tLc (iItems (tVar i)) (tGD K bd js) (tDT K ft) (tD K fe) vs) σ H Q := by
  refine ⟨a, .dK kvs, hd, trivial, fun od => ⟨.ref a, ha, a, od, kvs, rfl, upd_same, lc_at (Q := fun v H' => H' a = some (.frz od (.dK kvs)) ∧ Q v (upd H' a (.dK kvs))) hj (hs.extS (lock_ext hd)) (wd_items upd_same (hk.extS (lock_ext hd))) (by rw [itemsD, List.length_map]; exact hsm) he fun p us H' h1 h2 h3 h4 => ?_⟩⟩
  obtain ⟨q1, q2, q3⟩ := lock_same hd h2
  refine ⟨q1, k p us _ ?_ q2 (q3 _ _ h3 trivial) (DpAll.extS q3 _ _ h4)⟩
  by_cases hb : p = a
  · rw [hb, upd_same] at h1; cases h1
  · rwa [upd_ne hb] at h1
theorem lc_values {bd : Bd} {js vs : List Nat} {ft : DFB} {fe : DF} (hj : ∀ j ∈ js, j ∈ vs) {σ : L2.St} {Q : VK} {e : DEnv} {all : List PyData} {i : Nat} {a : Addr} {kvs : List (Key × V)} {ds : DkD} (ha : σ[i]? = some (some (.ref a))) (hd : H a = some (.dK kvs)) (hk : KvD K H kvs ds) (hs : SD K H σ e)
    (hsm : small ds.length = true) (he : compD bd ft fe (wipeE e vs) (ds.map (·.2)) = some all) (k : ∀ p us H', H p = none → Same H H' → H' p = some (.lst us) → DpAll K H' us all → Q (.ref p) H') :
    tLockE (tLc (iVals (tVar i)) (tGD K bd js) (tDT K ft) (tD K fe) vs) σ H Q := by
  refine ⟨a, .dK kvs, hd, trivial, fun od => ⟨.ref a, ha, a, od, kvs, rfl, upd_same, lc_at (Q := fun v H' => H' a = some (.frz od (.dK kvs)) ∧ Q v (upd H' a (.dK kvs))) hj (hs.extS (lock_ext hd)) (wd_values upd_same (hk.extS (lock_ext hd))) (by rw [List.length_map]; exact hsm) he fun p us H' h1 h2 h3 h4 => ?_⟩⟩
  obtain ⟨q1, q2, q3⟩ := lock_same hd h2
  refine ⟨q1, k p us _ ?_ q2 (q3 _ _ h3 trivial) (DpAll.extS q3 _ _ h4)⟩
  by_cases hb : p = a
  · rw [hb, upd_same] at h1; cases h1
  · rwa [upd_ne hb] at h1
end
end L2
end
section
set_option Elab.async false
set_option linter.all false
set_option maxRecDepth 100000
set_option maxHeartbeats 4000000
/-! E8: cells_met, going_back. -/
namespace L2
open PySem PySem.Spec PyProof.Rows StX RZ
def lenSetD : PyData → Option PyData
  | .list ds => (intsOf ds).bind fun ns => if ns.length ≤ 4000 then some (.int (((firstMet (fun i => ns.getD i 0) ns.length).length : Nat) : Int)) else none
  | _ => none
theorem pd_lenSetI {X : Cx} {a : Expr} {f : DF} {p p2 q pos : Pos} (hg : Gl X "len") (hm : X.mg "len" = none) (hg2 : Gl X "set") (hm2 : X.mg "set" = none) (ha : PD X a f) (hc : X.calm = true := by rfl)
    (na : starEach [a] X.env = (false, eval a X.env) :: starEach [] X.env := by rfl) : PD X (.Call (.Name "len" p) [.Call (.Name "set" p2) [a] [] q] [] pos) (fun e => (f e).bind lenSetD) := by
  refine ⟨fun pins s σ H Q I ⟨e, d, hs, he, k⟩ => ?_⟩
  obtain ⟨d0, hf, he⟩ := Option.bind_eq_some_iff.mp he
  refine Call_ (ld_blt I hg hm boot_len ?_)
  refine PyProof.Rows.callWith_builtin1 (PyProof.Rows.args_cons ?_ rfl) rfl rfl
  refine Call_ (ld_blt I hg2 hm2 boot_set ?_)
  refine PyProof.Rows.callWith_type1 (PyProof.Rows.args_cons (thn (ha.run pins s σ H (fun v H1 => Same H H1 ∧ Dp X.K H1 v d0) I ⟨e, d0, hs, hf, fun v H1 s1 d1 => ⟨s1, d1⟩⟩) fun v s1 ⟨x, H1, I1, r1, s1', d1⟩ => PyProof.Rows.args_nil ?_) na) na rfl
  unfold lenSetD at he
  split at he
  rotate_left
  · cases he
  obtain ⟨ns, h1, he⟩ := Option.bind_eq_some_iff.mp he
  split at he
  rotate_left
  · cases he
  rename_i hl
  cases he
  rw [intsOf_inv h1] at d1
  obtain ⟨l, xs, rfl, hq, hall⟩ := d1.lst_inv
  cases hall.ints
  cases r1
  obtain ⟨its, r, pl, hz⟩ := I1.list hq
  have hlen : its.toArray.size = ns.length := by rw [List.size_toArray, ← r.length, List.length_map]
  refine call_set_list (I1.ok.hd hc) pl.isList (by simpa using intsAre_vals r) (by rw [hlen]; unfold scanBound; omega) fun h' tk hS hk => ?_
  refine PyProof.Rows.args_nil ?_
  rw [hlen] at hS
  obtain ⟨o, es, ep, t, ho, hex, hd, _, _, _, hf, hn⟩ := hS
  have I2 : Inv X pins σ H1 { s1 with heap := h', toks := tk } := I1.kept fun b o e => hk b o (Heap.lt_size e) e
  have hle := firstMet_length_le (fun i => ns.getD i 0) ns.length
  exact call_len_set ho hex hd hf (by rw [hn] <;> omega) ⟨.int _, H1, I2.tok _, ⟨_, by rw [hn]⟩, k _ _ s1' (.int _)⟩
theorem pe_lcS {X : Cx} {elt tg iter : Expr} {ifs : List Expr} {scope : Scope} {own : List (Str × Nat)} {pos : Pos} {wi : TI} (bd : Bd) {js : List Nat} (ft : DFB) (fe : DF) (hc : X.calm = true) (hN : X.N.Nodup) (hi : PI X tg iter wi) (ok : BlkOk X.N X.env.scope scope own)
    (hg : ∀ (s : Shared) (H : Hp) (C : Addr) (cl : List (Str × Addr)) (fp : List Addr), PGD (X.blk s H scope (compEnvC scope cl C X.env) fp) tg bd js) (ht : ∀ (s : Shared) (H : Hp) (C : Addr) (cl : List (Str × Addr)) (fp : List Addr), PTsD (X.blk s H scope (compEnvC scope cl C X.env) fp) ifs ft)
    (he : ∀ (s : Shared) (H : Hp) (C : Addr) (cl : List (Str × Addr)) (fp : List Addr), PD (X.blk s H scope (compEnvC scope cl C X.env) fp) elt fe) (hs : ∀ x, foldedSetIterable iter X.env x = pure x := by intro _; rfl) :
    PE X (.ListComp elt [⟨tg, iter, ifs, 0⟩] scope pos) (tLc wi (tGD X.K bd js) (tDT X.K ft) (tD X.K fe) (own.map (·.2))) := pe_lc hc hN hi ok hg ht he hs
end L2
namespace Lb
open PySem PySem.Spec PyProof.Rows L2 StX RZ
section
variable {P : Program} {w : World} {K : PySem.W.Frag} {mg : Str → Option Value} {base : Heap}
abbrev N_cells_met : List Str := ["blocks", "size", "first", "many"]
theorem sc_cells_met : FnScope N_cells_met ["blocks", "size"] (defScope s_cells_met) := ⟨rfl, rfl, rfl, by decide +kernel, rfl, by decide +kernel, by decide +kernel⟩
def g_cells_met : DG := retG (bin2 (gv 1) (fun e => ((asL (compF (seqI (gv 0)) (bdTup 2 (bdsCons (bdName 2) (bdsCons (bdName 3) bdsNil))) [2, 3] yesB (bin2 (gv 2) (gv 1) divD))) e).bind lenSetD) mulD)
def F_cells_met : List PyData → Option PyData := defD 2 4 g_cells_met
theorem has_cells_met (T : Txt K mg) : Has P w K mg base 1 "cells_met" (spD K F_cells_met) := by
  refine has_pure (g := g_cells_met) T.d_cells_met sc_cells_met (fun _ _ _ _ _ _ us hl => match us, hl with | [_, _], _ => rfl) fun fa cdv A outer s H E hr => ?_
  unfold g_cells_met
  exact psd_one (psd_ret (pd_bin od_mul (pd_var 1) (pd_lenSetI (by rfl) T.b_len (by rfl) T.b_set (pd_lc (own := [("first", 2), ("many", 3)]) rfl sc_cells_met.nd (pid_seq (pd_var 0)) (blkOk_by (N := N_cells_met) (sc := defScope s_cells_met) (by decide +kernel)) (fun _ _ _ _ _ => (pgd_tup rfl (pgds_cons (pgd_name 2 sc_cells_met.nd) (pgds_cons (pgd_name 3 sc_cells_met.nd) pgds_nil)))) (fun _ _ _ _ _ => ptsd_nil) (fun _ _ _ _ _ => (pd_bin od_div (pd_var 2) (pd_var 1)))))))
/-! ### going_back -/
abbrev N_going_back : List Str := ["held", "size", "kept", "stay", "rows", "number", "slot", "first", "many", "own"]
theorem sc_going_back : FnScope N_going_back ["held", "size"] (defScope s_going_back) := ⟨rfl, rfl, rfl, by decide +kernel, rfl, by decide +kernel, by decide +kernel⟩
def gbKept (size : Int) : DkD → DkD → Option DkD
  | [], k => some k
  | (_, .tuple [.int f, .int m]) :: r, k => if 0 < size ∧ size < 1073741824 ∧ k.length ≤ 1000 then match lookD k (f / size) with
      | none => gbKept size r (putD k (f / size) (.tuple [.int m, .int f]))
      | some (.tuple [.int m', .int f']) => if HT.lexLt [m, f] [m', f'] = true then gbKept size r (putD k (f / size) (.tuple [.int m, .int f])) else gbKept size r k
      | some _ => none
    else none
  | _ :: _, _ => none
theorem gbKept_inv {size n : Int} {dv : PyData} {r k out : DkD} (h : gbKept size ((n, dv) :: r) k = some out) : ∃ f m, dv = .tuple [.int f, .int m] ∧ (0 < size ∧ size < 1073741824 ∧ k.length ≤ 1000) ∧
    ((lookD k (f / size) = none ∧ gbKept size r (putD k (f / size) (.tuple [.int m, .int f])) = some out) ∨ ∃ m' f', lookD k (f / size) = some (.tuple [.int m', .int f']) ∧
      ((HT.lexLt [m, f] [m', f'] = true ∧ gbKept size r (putD k (f / size) (.tuple [.int m, .int f])) = some out) ∨ (HT.lexLt [m, f] [m', f'] = false ∧ gbKept size r k = some out))) := by
  unfold gbKept at h
  split at h
  · rename_i heq; cases heq
  · rename_i heq
    cases heq
    split at h
    · rename_i hc
      refine ⟨_, _, rfl, hc, ?_⟩
      split at h
      · rename_i hl; exact .inl ⟨hl, h⟩
      · rename_i hl
        refine .inr ⟨_, _, hl, ?_⟩
        split at h
        · rename_i hx; exact .inl ⟨hx, h⟩
        · rename_i hx; exact .inr ⟨by simpa using hx, h⟩
      · cases h
    · cases h
  · cases h
def gbS : List PyData → DEnv → Option (List PyData) := fun ds e => compD (bdTup 2 (bdsCons (bdName 8) (bdsCons (bdName 7) bdsNil))) yesB (tupF (consF (gv 7) (consF (gv 8) nilF))) (wipeE e [8, 7]) ds
def gbR : List PyData → DEnv → Option (List PyData) := fun ds e => compD (bdTup 2 (bdsCons (bdName 5) (bdsCons (bdName 9) bdsNil))) yesB (tupF (consF (gv 9) (consF (gv 5) nilF))) (wipeE e [5, 9]) ds
def gbF : DFs := (compF (seqI (gv 4)) (bdTup 2 (bdsCons (bdName 9) (bdsCons (bdName 5) bdsNil))) [9, 5] (btest (bin2 (gv 9) (gv 3) notInD)) (gv 5))
def goingD (size : Int) (ds : DkD) : Option (List PyData) := if ds.length ≤ 1000 then (gbKept size ds []).bind fun kept => (gbS (kept.map (·.2)) [none, some (.int size), none, none, none, none, none, none, none, none]).bind fun stay =>
  (gbR (itemsD ds) [none, some (.int size), none, some (.list stay), none, none, none, none, none, none]).bind fun rl => (sortedDL [.list rl]).bind fun rows =>
    if kept.length ≤ 1000 then gbF [none, some (.int size), none, some (.list stay), some (.list rows), none, none, none, none, none] else none else none
def spGoing (K : PySem.W.Frag) : Sp := fun vs H Q _ => ∃ (a : Addr) (size : Int) (kvs : List (Key × V)) (ds : DkD) (out : List PyData), vs = [.ref a, .int size] ∧ H a = some (.dK kvs) ∧ KvD K H kvs ds ∧ goingD size ds = some out ∧ ∀ p us H', H p = none → Same H H' → H' p = some (.lst us) → DpAll K H' us out → Q (.ref p) H'
theorem has_going_back (T : Txt K mg) : Has P w K mg base 1 "going_back" (spGoing K) := by
  refine has_of T.d_going_back sc_going_back (fun _ _ _ _ _ _ us hl => match us, hl with | [_, _], _ => rfl) (fun vs H Q E ⟨_, _, _, _, _, h, _⟩ => by rw [h]; rfl) fun fa cdv A outer s H vs Q E hr ⟨a, size, kvs, ds, out, hvs, hd, hk, hg, q⟩ => ?_
  subst hvs
  have hu := hu_of hr
  refine ⟨_, pss_cons (ps_set (i := 2) sc_going_back.nd rfl (.inl rfl) pe_dnewK)
    (pss_cons (ps_lock (ps_for PassesOwn.never rfl (pi_items (pv 0)) (pg_tup rfl (pgs_cons (pg_name (i := 5) sc_going_back.nd rfl (.inl rfl)) (pgs_cons (pg_tup rfl (pgs_cons (pg_name (i := 7) sc_going_back.nd rfl (.inl rfl)) (pgs_cons (pg_name (i := 8) sc_going_back.nd rfl (.inl rfl)) pgs_nil))) pgs_nil)))
      (pss_cons (ps_set (i := 6) sc_going_back.nd rfl (.inl rfl) (pd_bin od_div (pd_var 7) (pd_var 1)))
        (pss_one (ps_if (pw_or (pt_cmp (pc_dnotin hu (pv 6) (pv 2))) (pw_or1 (pt_cmpR (op_ltT (Nat.lt_of_succ_lt hu)) (pd_tup (pad_cons (pd_var 8) (pad_cons (pd_var 7) pad_nil))) (pe_dget hu (pv 2) (pv 6) (fun _ _ => rfl)) rfl))).pt
          (pss_one (ps_dput hu (pv 2) (pv 6) (pd_tup (pad_cons (pd_var 8) (pad_cons (pd_var 7) pad_nil))) rfl)) pss_nil)))))
    (pss_cons (ps_set (i := 3) sc_going_back.nd rfl (.inr rfl) (pe_lock (pe_lcS (bdTup 2 (bdsCons (bdName 8) (bdsCons (bdName 7) bdsNil))) yesB (tupF (consF (gv 7) (consF (gv 8) nilF))) (own := [("many", 8), ("first", 7)]) rfl sc_going_back.nd (pi_values (pv 2)) (blkOk_by (N := N_going_back) (sc := defScope s_going_back) (by decide +kernel)) (fun _ _ _ _ _ => (pgd_tup rfl (pgds_cons (pgd_name 8 sc_going_back.nd) (pgds_cons (pgd_name 7 sc_going_back.nd) pgds_nil)))) (fun _ _ _ _ _ => ptsd_nil) (fun _ _ _ _ _ => (pd_tup (pad_cons (pd_var 7) (pad_cons (pd_var 8) pad_nil)))))))
    (pss_cons (ps_set (i := 4) sc_going_back.nd rfl (.inl rfl) (pe_callB (cdf_sorted hr.units) (by rfl) T.b_sorted (by decide +kernel) (pa_cons (pe_lock (pe_lcS (bdTup 2 (bdsCons (bdName 5) (bdsCons (bdName 9) bdsNil))) yesB (tupF (consF (gv 9) (consF (gv 5) nilF))) (own := [("number", 5), ("own", 9)]) rfl sc_going_back.nd (pi_items (pv 0)) (blkOk_by (N := N_going_back) (sc := defScope s_going_back) (by decide +kernel)) (fun _ _ _ _ _ => (pgd_tup rfl (pgds_cons (pgd_name 5 sc_going_back.nd) (pgds_cons (pgd_name 9 sc_going_back.nd) pgds_nil)))) (fun _ _ _ _ _ => ptsd_nil) (fun _ _ _ _ _ => (pd_tup (pad_cons (pd_var 9) (pad_cons (pd_var 5) pad_nil)))))) pa_nil)))
    (pss_one (ps_ret (te := tDF K gbF) (pf_lc (own := [("own", 9), ("number", 5)]) rfl sc_going_back.nd (pid_seq (pd_var 4)) (blkOk_by (N := N_going_back) (sc := defScope s_going_back) (by decide +kernel)) (fun _ _ _ _ _ => (pgd_tup rfl (pgds_cons (pgd_name 9 sc_going_back.nd) (pgds_cons (pgd_name 5 sc_going_back.nd) pgds_nil)))) (fun _ _ _ _ _ => (ptsd_one (ptd_cmp (od_notIn hr.u65) (pd_var 9) (pd_var 3)))) (fun _ _ _ _ _ => (pd_var 5)))))))), ?_⟩
  refine fun kp hkp => ?_
  have hak : a ≠ kp := fun z => by rw [← z, hd] at hkp; cases hkp
  unfold goingD at hg
  split at hg
  rotate_left
  · cases hg
  rename_i hsz
  obtain ⟨keptF, hkF, hg⟩ := Option.bind_eq_some_iff.mp hg
  obtain ⟨stay, hst, hg⟩ := Option.bind_eq_some_iff.mp hg
  obtain ⟨rl, hrl, hg⟩ := Option.bind_eq_some_iff.mp hg
  obtain ⟨rows, hrw, hg⟩ := Option.bind_eq_some_iff.mp hg
  split at hg
  rotate_left
  · cases hg
  rename_i hkz
  have ha0 : (upd H kp (.dK [])) a = some (.dK kvs) := by rw [upd_ne hak]; exact hd
  refine ⟨a, .dK kvs, ha0, trivial, fun od => ⟨.ref a, rfl, a, od, kvs, rfl, upd_same, for_it walk_items (fun i σ' H' => ∃ (y5 y6 y7 y8 : Option V) (kk : List (Key × V)) (kept : DkD), σ' = [some (.ref a), some (.int size), some (.ref kp), none, none, y5, y6, y7, y8, none] ∧ Same (upd H a (.frz od (.dK kvs))) H' ∧ H' kp = some (.dK kk) ∧ KvD K H' kk kept ∧ gbKept size (ds.drop i) kept = some keptF)
    ⟨none, none, none, none, [], [], rfl, fun b o e => ?_, by rw [upd_ne (Ne.symm hak), upd_same], .nil, hkF⟩ (fun i σ' H' _ ⟨_, _, _, _, _, _, _, s, _⟩ => s _ _ upd_same) ?turn ?done⟩⟩
  · by_cases hb : b = a
    · rw [hb, upd_same] at e; rw [hb, upd_same]; exact e
    · rw [upd_ne hb] at e
      rw [upd_ne hb, upd_ne (ne_of_none e hkp)]
      exact e
  case done =>
    rintro σ' H' ⟨y5, y6, y7, y8, kk, kept, rfl, sm, hkk, hkd, hgk⟩
    rw [hk.length, List.drop_length] at hgk
    cases hgk
    obtain ⟨q1, q2, q3⟩ := lock_same hd sm
    refine ⟨q1, ?_⟩
    have hkk' := q3 
    have hkp2 : (upd H' a (.dK kvs)) kp = some (.dK kk) := by rw [upd_ne (Ne.symm hak)]; exact hkk
    have hkd2 := hkd.extS q3
    have ez : SD K (upd H' a (.dK kvs)) [some (.ref a), some (.int size), some (.ref kp), none, none, y5, y6, y7, y8, none] [none, some (.int size), none, none, none, none, none, none, none, none] := .consN (.consS (.int _) (.consN (.consN (.consN (.consN (.consN (.consN (.consN (.consN .nil)))))))))
    refine lc_values (i := 2) (by decide) rfl hkp2 hkd2 ez (by simp [small]; omega) hst fun ps us H3 hps s3 hl3 hd3 => ?_
    have q23 := q2.trans s3
    have ez3 : SD K H3 [some (.ref a), some (.int size), some (.ref kp), some (.ref ps), none, y5, y6, y7, y8, none] [none, some (.int size), none, some (.list stay), none, none, none, none, none, none] := .consN (.consS (.int _) (.consN (.consS (.lst (SqL.of hl3) hd3) (.consN (.consN (.consN (.consN (.consN (.consN .nil)))))))))
    refine lc_items (i := 0) (by decide) rfl (q23 _ _ hd) (hk.extS (ExtS.of q23)) ez3 (by simp [small]; omega) hrl fun pr us4 H4 hpr s4 hl4 hd4 => ?_
    refine ⟨[.list rl], rows, .cons (.lst (SqL.of hl4) hd4) .nil, hrw, fun pw ws hpw hws => ?_⟩
    have s5 := same_new (o := .lst ws) hpw
    have ez5 : SD K (upd H4 pw (.lst ws)) [some (.ref a), some (.int size), some (.ref kp), some (.ref ps), some (.ref pw), y5, y6, y7, y8, none] [none, some (.int size), none, some (.list stay), some (.list rows), none, none, none, none, none] := .consN (.consS (.int _) (.consN (.consS (Dp.same (s4.trans s5) _ _ (.lst (SqL.of hl3) hd3)) (.consS (.lst (SqL.of upd_same) (DpAll.same s5 _ _ hws)) (.consN (.consN (.consN (.consN (.consN .nil)))))))))
    refine ⟨_, out, ez5, hg, fun p us' H' hp s6 hl hdd => q p us' H' ?_ (((q23.trans s4).trans s5).trans s6) hl hdd⟩
    exact ((q23.trans s4).trans s5).free hp
  case turn =>
    rintro i x σ' H' H2 hi ⟨y5, y6, y7, y8, kk, kept, rfl, sm, hkk, hkd, hgk⟩ ⟨T0, x1, y1, rfl, hT, rfl, hx1, hy1⟩
    have hi' : i < ds.length := by rw [← hk.length]; exact hi
    obtain ⟨⟨n, dv⟩, hdi⟩ : ∃ p, ds[i]? = some p := ⟨_, List.getElem?_eq_getElem hi'⟩
    have hdi2 : ds[i] = (n, dv) := by
      rw [List.getElem?_eq_getElem hi'] at hdi
      exact Option.some.inj hdi
    obtain ⟨v, hv, hdv⟩ := hk.at_ hdi
    dsimp only at hx1 hy1
    rw [hv] at hx1 hy1
    cases hx1
    cases hy1
    rw [drop_get hi', hdi2] at hgk
    have sT := same_new (o := .tup [kV (.inl n), v]) hT
    have hdv' := Dp.extS ((lock_ext hd).trans (ExtS.of (sm.trans sT))) _ _ hdv
    obtain ⟨f, m, rfl, hc, hgk⟩ := gbKept_inv hgk
    obtain ⟨t, us, rfl, hus, hua⟩ := hdv'.tup_inv
    obtain ⟨u1, u2, rfl, hu1, hu2⟩ := dpAll2 hua
    cases hu1.int_inv
    cases hu2.int_inv
    have s1 := sm.trans sT
    have k1 := sT _ _ hkk
    have d1 := hkd.extS (ExtS.of sT)
    refine ⟨T0, _, rfl, .inl (.inl upd_same), rfl, _, _, rfl, _, _, rfl, t, _, rfl, hus, rfl, _, _, rfl, _, _, rfl, rfl, rfl, ?_⟩
    refine ⟨[none, some (.int size), none, none, none, none, none, some (.int f), some (.int m), none], .int (f / size), .consN (.consS (.int _) (.consN (.consN (.consN (.consN (.consN (.consS (.int _) (.consS (.int _) (.consN .nil))))))))), by simp [bin2, gv, divD, hc.1, hc.2.1], fun v3 H3 s3 dv3 => ?_⟩
    cases dv3.int_inv
    have s13 := s1.trans s3
    have k3 := s3 _ _ k1
    have d3 := d1.extS (ExtS.of s3)
    have hlk : kk.length < sizeLine := by rw [d3.length, sizeLine_eq]; omega
    have hkHL : (upd H a (.frz od (.dK kvs))) kp = none := by rw [upd_ne (Ne.symm hak)]; exact hkp
    -- the pair is put
    have put : ∀ (H4 : Hp), Same H3 H4 → gbKept size (ds.drop (i + 1)) (putD kept (f / size) (.tuple [.int m, .int f])) = some keptF → tD K (tupF (consF (gv 8) (consF (gv 7) nilF))) [some (.ref a), some (.int size), some (.ref kp), none, none, some (.int n), some (.int (f / size)), some (.int f), some (.int m), none] H4 fun v5 H5 => tVar 2 [some (.ref a), some (.int size), some (.ref kp), none, none, some (.int n), some (.int (f / size)), some (.int f), some (.int m), none] H5 fun x H6 => tVar 6 [some (.ref a), some (.int size), some (.ref kp), none, none, some (.int n), some (.int (f / size)), some (.int f), some (.int m), none] H6 fun y H7 =>
        ∃ b H8, x = .ref b ∧ DPut H7 b y v5 H8 ∧ ∃ (y5 y6 y7 y8 : Option V) (kk : List (Key × V)) (kept : DkD), [some (.ref a), some (.int size), some (.ref kp), none, none, some (.int n), some (.int (f / size)), some (.int f), some (.int m), none] = [some (.ref a), some (.int size), some (.ref kp), none, none, y5, y6, y7, y8, none] ∧ Same (upd H a (.frz od (.dK kvs))) H8 ∧ H8 kp = some (.dK kk) ∧ KvD K H8 kk kept ∧ gbKept size (ds.drop (i + 1)) kept = some keptF := by
      intro H4 s4 hgo
      refine ⟨[none, none, none, none, none, none, none, some (.int f), some (.int m), none], .tuple [.int m, .int f], .consN (.consN (.consN (.consN (.consN (.consN (.consN (.consS (.int _) (.consS (.int _) (.consN .nil))))))))), by simp [tupF, consF, nilF, gv, small], fun v5 H5 s5 dv5 => ⟨_, rfl, _, rfl, kp, _, rfl, DPut.k (k := .inl (f / size)) (s5 _ _ (s4 _ _ k3)) hlk, _, _, _, _, _, _, rfl, same_mut (s13.trans (s4.trans s5)) hkHL, upd_same, ?_, hgo⟩⟩
      exact ((d3.extS (ExtS.of (s4.trans s5))).put dv5).extS (ExtS.upd fun o e => by rw [s5 _ _ (s4 _ _ k3)] at e; cases e; exact id)
    refine ⟨_, rfl, _, rfl, kp, _, rfl, DGet.k (k := .inl (f / size)) k3, _, rfl, ?_⟩
    rcases hgk with ⟨hl, hgo⟩ | ⟨m', f', hl, hgk⟩
    · rw [d3.val_none hl]
      exact iteT (iteT (put H3 (Same.refl H3) hgo))
    · obtain ⟨v', hv', hdv2⟩ := d3.val_some hl
      rw [hv']
      refine iteF ⟨[none, none, none, none, none, none, none, some (.int f), some (.int m), none], .tuple [.int m, .int f], .consN (.consN (.consN (.consN (.consN (.consN (.consN (.consS (.int _) (.consS (.int _) (.consN .nil))))))))), by simp [tupF, consF, nilF, gv, small], fun v4 H4 s4 dv4 => ?_⟩
      obtain ⟨b1, w1, rfl, hw1, hwa1⟩ := dv4.tup_inv
      obtain ⟨b2, w2, rfl, hw2, hwa2⟩ := (Dp.same s4 _ _ hdv2).tup_inv
      cases DpAll.ints (ns := [m, f]) hwa1
      cases DpAll.ints (ns := [m', f']) hwa2
      refine ⟨_, rfl, _, rfl, kp, .ref b2, rfl, ?_, b1, b2, [m, f], [m', f'], rfl, rfl, hw1, hw2, _, rfl, ?_⟩
      · have := DGet.k (k := .inl (f / size)) (s4 _ _ k3)
        rw [hv'] at this
        exact this
      · rcases hgk with ⟨hx, hgo⟩ | ⟨hx, hgo⟩
        · rw [hx]
          exact iteT (put H4 s4 hgo)
        · rw [hx]
          exact iteF ⟨_, _, _, _, kk, _, rfl, s13.trans s4, s4 _ _ k3, d3.extS (ExtS.of s4), hgo⟩
end
end Lb
end
section
set_option Elab.async false
set_option linter.all false
set_option maxRecDepth 100000
set_option maxHeartbeats 4000000
/-! E9: d.values() handed to sorted, list, sum. -/
namespace L2
open PySem PySem.Spec PyProof.Rows StX RZ
def ViewO (r d : Addr) : HO := .ext fun h => h.IsValuesView r d
section
variable {X : Cx}
theorem mt_values : MtR X "dict.values" (fun x vs H Q => ∃ (a : Addr) (kvs : List (Key × V)), x = .ref a ∧ vs = [] ∧ Rd H a (.dK kvs) ∧ ∀ r, H r = none → Q (.ref r) (upd H r (ViewO r a))) := by
  intro pins s σ H x vs v us Q I rx rv h
  obtain ⟨a, kvs, rfl, rfl, hd, q⟩ := h
  cases rx
  cases rv
  obtain ⟨z, lo, vs, rel, dd⟩ := dk_rd I.hok hd
  refine call_meetsIn F.slot_dict_values dd.typeIs F.entry_dict_values (F.args_dict_values_1 _) (meets_dict_values (mixKind X.prog X.w) a lo) ⟨⟨vs, dd⟩, ?_⟩
  have e : (s.heap.push { cls := .type "dict_values", data := .fields #[.ref a] }).get? s.heap.objs.size = some { cls := .type "dict_values", data := .fields #[.ref a] } := Heap.get?_push_size _ rfl
  refine ⟨.ref s.heap.objs.size, upd H s.heap.objs.size (ViewO s.heap.objs.size a), I.laid (t' := s.toks) (fun b u e => Heap.get?_push_of_some _ e) (Nat.le_refl _) ?_, rfl, q _ (I.hok.fresh (Nat.le_refl _))⟩
  exact ⟨⟨_, e, rfl, rfl⟩, ⟨_, e⟩, fun h1 h2 ⟨o, z1, z2⟩ st => ⟨o, st _ z1, z2⟩⟩
theorem kv_vals : ∀ {kvs : List (Key × V)} {vs : List (Key × Value)}, KV kvs vs → Vals (kvs.map (·.2)) (vs.map (·.2)) := fun {kvs vs} r => by
  unfold KV at r
  induction r with
  | nil => exact .nil
  | cons h t ih => exact .cons h.2 ih
theorem kv_at {kvs : List (Key × V)} {vs : List (Key × Value)} (r : KV kvs vs) : ∀ {i : Nat} {k : Key} {v : Value}, vs[i]? = some (k, v) → ∃ x, kvs[i]? = some (k, x) ∧ RelV x v := by
  unfold KV at r
  induction r with
  | nil =>
    intro i k v e
    simp at e
  | cons r t ih =>
    intro i k v e
    cases i with
    | zero =>
      have e' := Option.some.inj (show some _ = some (k, v) from e)
      rw [e'] at r
      exact ⟨_, (show some _ = some (k, _) from congrArg some (Prod.ext r.1 rfl)), r.2⟩
    | succ i =>
      obtain ⟨x, h1, h2⟩ := ih (i := i) (k := k) (v := v) (by simpa using e)
      exact ⟨x, by simpa using h1, h2⟩
theorem cr_sortedV (hu : X.A.units + 64 < cLine) (hc : X.calm = true) : CallR X (.builtin "sorted") (fun xs H Q => ∃ (r a : Addr) (kvs : List (Key × V)) (ds : List PyData), xs = [.ref r] ∧ H r = some (ViewO r a) ∧ Rd H a (.dK kvs) ∧ DpAll X.K H (kvs.map (·.2)) ds ∧ okSort ds = true ∧
    ∀ (ws : List V) (p : Addr), H p = none → DpAll X.K H ws (sortL ds) → Q (.ref p) (upd H p (.lst ws))) := by
  intro pins s σ H xs us Q I r h
  obtain ⟨r0, a, kvs, ds, rfl, hv, hd, hdp, ok, q⟩ := h
  rw [Vals.ref1 r]
  obtain ⟨z, lo, vs, rel, dd⟩ := dk_rd I.hok hd
  obtain ⟨ep, hat⟩ := dd.dictAt
  have hview : s.heap.IsValuesView r0 a := (I.hok r0 _ hv).1
  refine sorted_by hu ok (fun R hR => PySem.W.kdu_collect (A := X.A.in1) (PySem.W.kdl_values (knd := mixKind X.prog X.w) (kvs := vs) (ep := ep)) (I.ok.hd hc) ⟨hview, hat⟩ (by rw [← rel.length]; exact z) fun h' tk acc hk hacc => hR _ _ (I.kept (t' := tk) hk) ?_) hdp q
  rw [PySem.W.kdl_vals_eq (kvs := vs) acc.toList (by rw [Array.length_toList]; exact hacc.1) fun j v e => hacc.2 j v (by rw [← Array.getElem?_toList]; exact e)]
  exact kv_vals rel
theorem cr_listV (hc : X.calm = true) : CallR X (.type "list") (fun xs H Q => ∃ (r a : Addr) (kvs : List (Key × V)), xs = [.ref r] ∧ H r = some (ViewO r a) ∧ Rd H a (.dK kvs) ∧ ∀ p, H p = none → Q (.ref p) (upd H p (.lst (kvs.map (·.2))))) := by
  intro pins s σ H xs us Q I r h
  obtain ⟨r0, a, kvs, rfl, hv, hd, q⟩ := h
  rw [Vals.ref1 r]
  obtain ⟨z, lo, vs, rel, dd⟩ := dk_rd I.hok hd
  obtain ⟨ep, hat⟩ := dd.dictAt
  have hview : s.heap.IsValuesView r0 a := (I.hok r0 _ hv).1
  refine PySem.W.kdl_call (PySem.W.kdl_values (knd := mixKind X.prog X.w) (kvs := vs) (ep := ep)) (I.ok.hd hc) ⟨hview, hat⟩ (by rw [← rel.length]; exact z) fun h' tk acc c' hk hD hacc => ?_
  have ev := PySem.W.kdl_vals_eq (kvs := vs) acc.toList (by rw [Array.length_toList]; exact hacc.1) fun j v e => hacc.2 j v (by rw [← Array.getElem?_toList]; exact e)
  refine ⟨.ref s.heap.objs.size, upd H s.heap.objs.size (.lst (kvs.map (·.2))), I.laid (t' := tk) hk (Nat.le_refl _)
    (show ObjOk X.prog X.w _ _ _ (.lst (kvs.map (·.2))) from ⟨by rw [List.length_map]; exact z, acc.toList, c', by rw [ev]; exact kv_vals rel, by rw [Array.toArray_toList]; exact hD⟩), rfl, q _ (I.hok.fresh (Nat.le_refl _))⟩
theorem preSum_list : ∀ (ns : List Int), preSum (fun i => ns.getD i 0) ns.length = ns.sum
  | [] => rfl
  | n :: ns => by
    show preSum (fun i => (n :: ns).getD i 0) (ns.length + 1) = _
    rw [PySem.W.kdu_shift, List.sum_cons, ← preSum_list ns]
    rfl
theorem cr_sumV (hc : X.calm = true) : CallR X (.builtin "sum") (fun xs H Q => ∃ (r a : Addr) (kvs : List (Key × V)) (ns : List Int), xs = [.ref r] ∧ H r = some (ViewO r a) ∧ Rd H a (.dK kvs) ∧ kvs.map (·.2) = ns.map V.int ∧ Q (.int ns.sum) H) := by
  intro pins s σ H xs us Q I r h
  obtain ⟨r0, a, kvs, ns, rfl, hv, hd, hn, q⟩ := h
  rw [Vals.ref1 r]
  obtain ⟨z, lo, vs, rel, dd⟩ := dk_rd I.hok hd
  obtain ⟨ep, hat⟩ := dd.dictAt
  have hview : s.heap.IsValuesView r0 a := (I.hok r0 _ hv).1
  have hl : vs.length = ns.length := by
    have e1 := congrArg List.length hn
    rw [List.length_map, List.length_map] at e1
    rw [← e1]
    exact rel.length.symm
  have hval : ∀ (i : Nat) (v : Value), (∃ k, vs[i]? = some (k, v)) → ∃ t, v = Value.int (ns.getD i 0) t := fun i v ⟨k, hk⟩ => by
    obtain ⟨x, h1, h2⟩ := kv_at rel hk
    have e1 : (kvs.map (·.2))[i]? = some x := by rw [List.getElem?_map, h1] <;> rfl
    rw [hn, List.getElem?_map] at e1
    obtain ⟨j, hj, e2⟩ := Option.map_eq_some_iff.mp e1
    subst e2
    obtain ⟨t, e3⟩ := h2
    refine ⟨t, ?_⟩
    rw [e3, List.getD_eq_getElem?_getD, hj] <;> rfl
  have K := PySem.W.kdl_values (prog := X.prog) (w := X.w) (knd := mixKind X.prog X.w) (kvs := vs) (ep := ep) (r := r0) (d := a)
  have hok : s.heap.IsValuesView r0 a ∧ s.heap.DictAt (mixKind X.prog X.w) a vs ep := ⟨hview, hat⟩
  refine call_sum_walkAnyS ?_
  obtain ⟨oI, St, hit, W, st⟩ := K.iter X.A.in1 s (I.ok.hd hc) hok
  refine hit _ _ ⟨s.heap.objs.size, _, _, _, _, _, _, fun i => ns.getD i 0, rfl, W.toS, st, fun b hb => ?_, hval, fun s' t' hm => ?_⟩
  · show b < (s.heap.push oI).objs.size
    rw [size_push']
    rcases List.mem_cons.mp hb with e | hb
    · rw [e]; exact Nat.lt_succ_self _
    · rw [List.mem_singleton.mp hb]; exact Nat.lt_succ_of_lt (K.there _ hok).2
  · have hk : ∀ b o, s.heap.get? b = some o → s'.heap.get? b = some o := fun b o e =>
      hm.heap b o (fun hI => absurd (Heap.lt_size e) (by rw [List.mem_singleton.mp hI]; exact Nat.lt_irrefl _)) (Heap.get?_push_of_some _ e)
    rw [Moved.eq_with hm, hl, preSum_list]
    exact ⟨.int _, H, I.kept (t' := s'.toks) hk, ⟨_, rfl⟩, q⟩
end
end L2
end
section
set_option Elab.async false
set_option linter.all false
set_option maxRecDepth 100000
set_option maxHeartbeats 4000000
/-! F0: opposed. -/
namespace L2
open PySem PySem.Spec PyProof.Rows StX RZ NdefX LamX
/-- x(..), x a name that holds a function in hand; any arguments -/
def tActsA (X : Cx) (k i : Nat) (G : List PyData → Option PyData) (t : TA) : TE := fun σ H Q => ∃ f, σ[i]? = some (some (.ref f)) ∧ Acts X.prog X.w X.K X.mg X.base k f G H ∧ t σ H fun vs H1 => ExtN H H1 ∧ ∃ ds d, DpAll X.K H1 vs ds ∧ G ds = some d ∧ ∀ v H', Same H1 H' → Dp X.K H' v d → Q v H'
theorem pe_actsA {X : Cx} {x : Str} {e : Expr} {es : List Expr} {t : TA} {G : List PyData → Option PyData} {i j k : Nat} {p pos : Pos} (hr : Room j X.A) (hk : k ≤ j) (hN : X.N[i]? = some x) (hv : Vis X.env.scope x) (ha : PA X (e :: es) t)
    (hd : (x == ("__debug__" : Str)) = false := by decide) (hcd : (x == ("__classdict__" : Str)) = false := by decide)
    (he : starEach (e :: es) X.env = (false, eval e X.env) :: starEach es X.env := by rfl) (hpl : (backTo pos (starEach es X.env)).any (·.1) = false := by rfl) :
    PE X (.Call (.Name x p) (e :: es) [] pos) (tActsA X k i G t) := by
  refine ⟨fun pins s σ H Q I h => ?_⟩
  obtain ⟨f, hs, ac, ht⟩ := h
  refine wpAny_Call_Name_kw (thn ((pe_var (pos := p) hN hv hd hcd).run pins s σ H (fun v H1 => v = .ref f ∧ H1 = H) I ⟨.ref f, hs, rfl, rfl⟩) fun u s1 ⟨v, H1, I1, r1, q1⟩ => ?_)
  obtain ⟨ev, eH⟩ := q1
  subst ev
  rw [eH] at I1
  obtain rfl : u = Value.ref f := r1
  have fat : ∀ {pins s σ H1}, Inv X pins σ H1 s → ExtN H H1 → PySem.W.FnAt f s.heap := fun {pins s σ H1} I e => by
    obtain ⟨φ, h1, h2⟩ := ac.fnat
    exact h2 _ (I.hok f _ (e _ _ h1 fun _ z => by cases z)).1
  refine PySem.W.callWith_F (first := []) (fat I1 (ExtN.refl H)) (thn (ha.run pos pins s1 σ H _ I1 ht) fun us s2 ⟨vs, H2, I2, r, sa, ds, d, da, hg, q⟩ => ⟨fat I2 sa, ?_⟩) he hpl
  show wpAny _ _ (call (.ref f) us) _ _ _
  refine wpAny_call (codeAny_mono (ac.run X.A X.stack s2 H2 us vs Q (hr.mono hk) I2.env0 sa r ⟨ds, d, da, hg, q⟩) fun r s' hq => ?_)
  cases r with
  | error e => exact hq.elim
  | ok fl =>
    cases fl with
    | ret u => exact I2.after hq
    | next => exact False.elim hq
    | brk => exact False.elim hq
    | cont => exact False.elim hq
end L2
namespace Lb
open PySem PySem.Spec PyProof.Rows L2 StX RZ NdefX LamX
section
variable {P : Program} {w : World} {K : PySem.W.Frag} {mg : Str → Option Value} {base : Heap}
abbrev N_opposed : List Str := ["chain", "budget", "choose", "size", "row", "places", "held", "met", "number", "turn", "first", "many"]
theorem sc_opposed : FnScope N_opposed ["chain", "budget", "choose"] (defScope s_opposed) := ⟨rfl, rfl, rfl, by decide +kernel, rfl, by decide +kernel, by decide +kernel⟩
/-- where opposed stands -/
structure OpA (H0 : Hp) (pr pp ph pm : Addr) : Prop where
  r : H0 pr = none
  p : H0 pp = none
  h : H0 ph = none
  m : H0 pm = none
  rp : pr ≠ pp
  rh : pr ≠ ph
  rm : pr ≠ pm
  ph_ : pp ≠ ph
  pm_ : pp ≠ pm
  hm : ph ≠ pm
structure OpS (K : PySem.W.Frag) (H0 : Hp) (pr pp ph pm : Addr) (row places met : List PyData) (held : DkD) (H : Hp) : Prop where
  same : Same H0 H
  row : ∃ rv, H pr = some (.lst rv) ∧ DpAll K H rv row ∧ nlAll row = true
  plc : ∃ rv, H pp = some (.lst rv) ∧ DpAll K H rv places ∧ nlAll places = true
  met : ∃ rv, H pm = some (.lst rv) ∧ DpAll K H rv met ∧ nlAll met = true
  hld : ∃ kvs, H ph = some (.dK kvs) ∧ KvD K H kvs held ∧ ∀ p ∈ held, nl p.2 = true
theorem nl_put {ds : DkD} {k : Int} {d : PyData} (h : ∀ p ∈ ds, nl p.2 = true) (hd : nl d = true) : ∀ p ∈ putD ds k d, nl p.2 = true := fun p hp => by
  unfold putD at hp
  split at hp
  · obtain ⟨q, hq, rfl⟩ := List.mem_map.mp hp
    split
    · exact hd
    · exact h q hq
  · rcases List.mem_append.mp hp with z | z
    · exact h p z
    · rw [List.mem_singleton.mp z]; exact hd
theorem nl_drop {ds : DkD} {k : Int} (h : ∀ p ∈ ds, nl p.2 = true) : ∀ p ∈ dropD ds k, nl p.2 = true := fun p hp => h p (List.mem_filter.mp hp).1
section
variable {K : PySem.W.Frag} {H0 H H' : Hp} {pr pp ph pm : Addr} {row places met : List PyData} {held : DkD} {rv : List V} {kvs : List (Key × V)} {v : V} {d : PyData} {k : Int}
theorem OpS.mv (S : OpS K H0 pr pp ph pm row places met held H) (s : Same H H') : OpS K H0 pr pp ph pm row places met held H' := by
  obtain ⟨s0, ⟨r1, r2, r3, r4⟩, ⟨p1, p2, p3, p4⟩, ⟨m1, m2, m3, m4⟩, ⟨h1, h2, h3, h4⟩⟩ := S
  exact ⟨s0.trans s, ⟨r1, s _ _ r2, DpAll.same s _ _ r3, r4⟩, ⟨p1, s _ _ p2, DpAll.same s _ _ p3, p4⟩, ⟨m1, s _ _ m2, DpAll.same s _ _ m3, m4⟩, ⟨h1, s _ _ h2, h3.extS (ExtS.of s), h4⟩⟩
theorem OpS.radd (A : OpA H0 pr pp ph pm) (S : OpS K H0 pr pp ph pm row places met held H) (e : H pr = some (.lst rv)) (n : nl d = true) (hd : Dp K H v d) : OpS K H0 pr pp ph pm (row ++ [d]) places met held (upd H pr (.lst (rv ++ [v]))) := by
  obtain ⟨s0, ⟨r1, r2, r3, r4⟩, ⟨p1, p2, p3, p4⟩, ⟨m1, m2, m3, m4⟩, ⟨h1, h2, h3, h4⟩⟩ := S
  rw [e] at r2
  cases r2
  have t := TSame.lst (u := .lst (rv ++ [v])) e
  exact ⟨same_mut s0 A.r, ⟨_, upd_same, DpAll.snoc (DpAll.tsame t _ _ r4 r3) (Dp.tsame t _ _ n hd), nlAll_snoc r4 n⟩, ⟨p1, by rw [upd_ne (Ne.symm A.rp)]; exact p2, DpAll.tsame t _ _ p4 p3, p4⟩, ⟨m1, by rw [upd_ne (Ne.symm A.rm)]; exact m2, DpAll.tsame t _ _ m4 m3, m4⟩, ⟨h1, by rw [upd_ne (Ne.symm A.rh)]; exact h2, h3.tsame t h4, h4⟩⟩
theorem OpS.padd (A : OpA H0 pr pp ph pm) (S : OpS K H0 pr pp ph pm row places met held H) (e : H pp = some (.lst rv)) (n : nl d = true) (hd : Dp K H v d) : OpS K H0 pr pp ph pm row (places ++ [d]) met held (upd H pp (.lst (rv ++ [v]))) := by
  obtain ⟨s0, ⟨r1, r2, r3, r4⟩, ⟨p1, p2, p3, p4⟩, ⟨m1, m2, m3, m4⟩, ⟨h1, h2, h3, h4⟩⟩ := S
  rw [e] at p2
  cases p2
  have t := TSame.lst (u := .lst (rv ++ [v])) e
  exact ⟨same_mut s0 A.p, ⟨r1, by rw [upd_ne A.rp]; exact r2, DpAll.tsame t _ _ r4 r3, r4⟩, ⟨_, upd_same, DpAll.snoc (DpAll.tsame t _ _ p4 p3) (Dp.tsame t _ _ n hd), nlAll_snoc p4 n⟩, ⟨m1, by rw [upd_ne (Ne.symm A.pm_)]; exact m2, DpAll.tsame t _ _ m4 m3, m4⟩, ⟨h1, by rw [upd_ne (Ne.symm A.ph_)]; exact h2, h3.tsame t h4, h4⟩⟩
theorem OpS.madd (A : OpA H0 pr pp ph pm) (S : OpS K H0 pr pp ph pm row places met held H) (e : H pm = some (.lst rv)) (n : nl d = true) (hd : Dp K H v d) : OpS K H0 pr pp ph pm row places (met ++ [d]) held (upd H pm (.lst (rv ++ [v]))) := by
  obtain ⟨s0, ⟨r1, r2, r3, r4⟩, ⟨p1, p2, p3, p4⟩, ⟨m1, m2, m3, m4⟩, ⟨h1, h2, h3, h4⟩⟩ := S
  rw [e] at m2
  cases m2
  have t := TSame.lst (u := .lst (rv ++ [v])) e
  exact ⟨same_mut s0 A.m, ⟨r1, by rw [upd_ne A.rm]; exact r2, DpAll.tsame t _ _ r4 r3, r4⟩, ⟨p1, by rw [upd_ne A.pm_]; exact p2, DpAll.tsame t _ _ p4 p3, p4⟩, ⟨_, upd_same, DpAll.snoc (DpAll.tsame t _ _ m4 m3) (Dp.tsame t _ _ n hd), nlAll_snoc m4 n⟩, ⟨h1, by rw [upd_ne A.hm]; exact h2, h3.tsame t h4, h4⟩⟩
theorem OpS.dict (A : OpA H0 pr pp ph pm) (S : OpS K H0 pr pp ph pm row places met held H) (e : H ph = some (.dK kvs)) {kvs' : List (Key × V)} {held' : DkD} (f : KvD K H kvs held → KvD K H kvs' held') (n : ∀ p ∈ held', nl p.2 = true) : OpS K H0 pr pp ph pm row places met held' (upd H ph (.dK kvs')) := by
  obtain ⟨s0, ⟨r1, r2, r3, r4⟩, ⟨p1, p2, p3, p4⟩, ⟨m1, m2, m3, m4⟩, ⟨h1, h2, h3, h4⟩⟩ := S
  rw [e] at h2
  cases h2
  have t : ExtS H (upd H ph (.dK kvs')) := ExtS.upd fun o z => by rw [e] at z; cases z; exact id
  exact ⟨same_mut s0 A.h, ⟨r1, by rw [upd_ne A.rh]; exact r2, DpAll.extS t _ _ r3, r4⟩, ⟨p1, by rw [upd_ne A.ph_]; exact p2, DpAll.extS t _ _ p3, p4⟩, ⟨m1, by rw [upd_ne (Ne.symm A.hm)]; exact m2, DpAll.extS t _ _ m3, m4⟩, ⟨_, upd_same, (f h3).extS t, n⟩⟩
/-- tuple(x), x a list -/
def rTupOf (K : PySem.W.Frag) : List V → Hp → VK → Prop := fun xs H Q => ∃ p ys, xs = [.ref p] ∧ ((SqL K H p ys ∧ ∀ l, H l = none → Q (.ref l) (upd H l (.tup ys))) ∨ (SqT K H p ys ∧ Q (.ref p) H))
theorem op_ret {σ : L2.St} {b : Bool} {Q : VK} (S : OpS K H0 pr pp ph pm row places met held H) (e4 : σ[4]? = some (some (.ref pr))) (e5 : σ[5]? = some (some (.ref pp))) (e7 : σ[7]? = some (some (.ref pm)))
    (q : ∀ v H', Same H0 H' → Dp K H' v (.tuple [.tuple row, .tuple places, .tuple met, .bool b]) → Q v H') :
    tTup (tCons (tCB (rTupOf K) (tCons (tVar 4) tNil)) (tCons (tCB (rTupOf K) (tCons (tVar 5) tNil)) (tCons (tCB (rTupOf K) (tCons (tVar 7) tNil)) (tCons (tC (.bl b)) tNil)))) σ H Q := by
  obtain ⟨s0, ⟨r1, r2, r3, r4⟩, ⟨p1, p2, p3, p4⟩, ⟨m1, m2, m3, m4⟩, _⟩ := S
  refine ⟨_, e4, pr, _, rfl, .inl ⟨SqL.of r2, fun l1 hl1 => ?_⟩⟩
  have s1 := same_new (o := .tup r1) hl1
  refine ⟨_, e5, pp, _, rfl, .inl ⟨SqL.of (s1 _ _ p2), fun l2 hl2 => ?_⟩⟩
  have s2 := same_new (o := .tup p1) hl2
  have s12 := s1.trans s2
  refine ⟨_, e7, pm, _, rfl, .inl ⟨SqL.of (s12 _ _ m2), fun l3 hl3 => ?_⟩⟩
  have s3 := same_new (o := .tup m1) hl3
  refine ⟨by show 4 ≤ sizeLine; decide, fun l4 hl4 => ?_⟩
  have s4 := same_new (o := .tup [V.ref l1, V.ref l2, V.ref l3, V.bl b]) hl4
  refine q _ _ (s0.trans (s12.trans (s3.trans s4))) (.tup (.inl (.inl upd_same)) ?_)
  exact .cons (.tup (.inl (.inl ((s2.trans (s3.trans s4)) _ _ upd_same))) (DpAll.same (s12.trans (s3.trans s4)) _ _ r3)) (.cons (.tup (.inl (.inl ((s3.trans s4) _ _ upd_same))) (DpAll.same (s12.trans (s3.trans s4)) _ _ p3)) (.cons (.tup (.inl (.inl (s4 _ _ upd_same))) (DpAll.same (s12.trans (s3.trans s4)) _ _ m3)) (.cons (.bl _) .nil)))
end
def opBack : List PyData → List PyData → DkD → Option (List PyData × DkD)
  | [], row, h => some (row, h)
  | .int n :: r, row, h => if (lookD h n).isSome = true ∧ row.length ≤ 1000 then opBack r (row ++ [.tuple [.str "back", .int n]]) (dropD h n) else none
  | _ :: _, _, _ => none
def opTurn (G : List PyData → Option PyData) (size : Int) : Nat → List PyData → List PyData → DkD → Option (List PyData × List PyData × DkD × Bool)
  | 0, row, places, held => some (row, places, held, true)
  | t + 1, row, places, held => if okSort (held.map (·.2)) = true ∧ row.length ≤ 1000 ∧ places.length ≤ 1000 ∧ held.length ≤ 1000 then (G [.tuple (sortL (held.map (·.2))), .int size]).bind fun d => match d with
      | .none => some (row ++ [.tuple [.str "ask", .int size]], places, held, false)
      | .int f => opTurn G size t (row ++ [.tuple [.str "ask", .int size]]) (places ++ [.int f]) (putD held (places.length : Nat) (.tuple [.int f, .int size]))
      | _ => none
    else none
theorem opBack_inv {d : PyData} {r row : List PyData} {h : DkD} {out : List PyData × DkD} (e : opBack (d :: r) row h = some out) : ∃ n, d = .int n ∧ ((lookD h n).isSome = true ∧ row.length ≤ 1000) ∧ opBack r (row ++ [.tuple [.str "back", .int n]]) (dropD h n) = some out := by
  unfold opBack at e
  split at e
  · rename_i z; cases z
  · rename_i z
    cases z
    split at e
    · rename_i hc; exact ⟨_, rfl, hc, e⟩
    · cases e
  · cases e
theorem opTurn_inv {G : List PyData → Option PyData} {size : Int} {t : Nat} {row places : List PyData} {held : DkD} {out : List PyData × List PyData × DkD × Bool} (e : opTurn G size (t + 1) row places held = some out) :
    (okSort (held.map (·.2)) = true ∧ row.length ≤ 1000 ∧ places.length ≤ 1000 ∧ held.length ≤ 1000) ∧ ∃ d, G [.tuple (sortL (held.map (·.2))), .int size] = some d ∧
      ((d = .none ∧ out = (row ++ [.tuple [.str "ask", .int size]], places, held, false)) ∨ ∃ f, d = .int f ∧ opTurn G size t (row ++ [.tuple [.str "ask", .int size]]) (places ++ [.int f]) (putD held (places.length : Nat) (.tuple [.int f, .int size])) = some out) := by
  unfold opTurn at e
  split at e
  · rename_i hc
    obtain ⟨d, hd, e⟩ := Option.bind_eq_some_iff.mp e
    refine ⟨hc, d, hd, ?_⟩
    split at e
    · cases e; exact .inl ⟨rfl, rfl⟩
    · exact .inr ⟨_, rfl, e⟩
    · cases e
  · cases e
def opSum (held : DkD) : Option Int := (compD (bdTup 2 (bdsCons (bdName 10) (bdsCons (bdName 11) bdsNil))) yesB (gv 11) [none, none, none, none, none, none, none, none, none, none, none, none] (held.map (·.2))).bind fun ms => (intsOf ms).map List.sum
def opChain (G : List PyData → Option PyData) (budget : Int) : List Int → List PyData → List PyData → DkD → List PyData → Option (List PyData × List PyData × List PyData × Bool)
  | [], row, places, _, met => some (row, places, met, true)
  | size :: r, row, places, held, met => if held.length ≤ 1000 ∧ met.length ≤ 1000 ∧ 0 < size ∧ size < 1073741824 then (if 1 < size then goingD size held else some []).bind fun ns => (opBack ns row held).bind fun b => if b.2.length ≤ 1000 then (opSum b.2).bind fun sm =>
      if (budget - sm) / size ≤ 1000 ∧ -1000 ≤ (budget - sm) / size then (opTurn G size ((budget - sm) / size).toNat b.1 places b.2).bind fun o => if o.2.2.2 = true then (F_cells_met [.list (o.2.2.1.map (·.2)), .int size]).bind fun m => if nl m = true ∧ o.2.2.1.length ≤ 1000 then opChain G budget r o.1 o.2.1 o.2.2.1 (met ++ [m]) else none else some (o.1, o.2.1, met, false) else none else none
    else none
def opposedD (G : List PyData → Option PyData) (chain : List Int) (budget : Int) : Option (List PyData × List PyData × List PyData × Bool) := opChain G budget chain [] [] [] []
def outOp (o : List PyData × List PyData × List PyData × Bool) : PyData := .tuple [.tuple o.1, .tuple o.2.1, .tuple o.2.2.1, .bool o.2.2.2]
def spOpposed (P : Program) (w : World) (K : PySem.W.Frag) (mg : Str → Option Value) (base : Heap) : Sp := fun vs H Q _ => ∃ (a f : Addr) (chain : List Int) (budget : Int) (G : List PyData → Option PyData) (o : List PyData × List PyData × List PyData × Bool), vs = [.ref a, .int budget, .ref f] ∧ SqT K H a (chain.map V.int) ∧ Acts P w K mg base 5 f G H ∧
  opposedD G chain budget = some o ∧ ∀ v H', Same H H' → Dp K H' v (outOp o) → Q v H'
theorem has_opposed (T : Txt K mg) (G_going_back : Has P w K mg base 1 "going_back" (spGoing K)) (G_cells_met : Has P w K mg base 1 "cells_met" (spD K F_cells_met)) : Has P w K mg base 6 "opposed" (spOpposed P w K mg base) := by
  refine has_of T.d_opposed sc_opposed (fun _ _ _ _ _ _ us hl => match us, hl with | [_, _, _], _ => rfl) (fun vs H Q E ⟨_, _, _, _, _, _, h, _⟩ => by rw [h]; rfl) fun fa cdv A outer s H vs Q E hr ⟨a, f, chain, budget, G, o, hvs, ha, ac, hg, q⟩ => ?_
  subst hvs
  have hu := hu_of hr
  refine ⟨_, pss_cons (ps_asg (pe_tup (pa_cons (pe_lst pa_nil) (pa_cons (pe_lst pa_nil) (pa_cons pe_dnewK (pa_cons (pe_lst pa_nil) pa_nil))))) (pg_tup rfl (pgs_cons (pg_name (i := 4) sc_opposed.nd rfl (.inl rfl)) (pgs_cons (pg_name (i := 5) sc_opposed.nd rfl (.inl rfl)) (pgs_cons (pg_name (i := 6) sc_opposed.nd rfl (.inl rfl)) (pgs_cons (pg_name (i := 7) sc_opposed.nd rfl (.inl rfl)) pgs_nil))))))
    (pss_cons (ps_for PassesOwn.never rfl (pi_tup (pv 0)) (pg_name (i := 3) sc_opposed.nd rfl (.inl rfl))
      (pss_cons (ps_for PassesOwn.never rfl (pi_list (pe_ifExp (ptd_cmp od_gt (pd_var 3) pd_int) (pe_has G_going_back hr (by rfl) (pa_cons (pv 6) (pa_cons (pv 3) pa_nil))) (pe_lst pa_nil))) (pg_name (i := 8) sc_opposed.nd rfl (.inl rfl))
        (pss_cons (ps_expr (pe_bm PySem.F.plainAttrs_list PySem.F.slot_list_append PySem.F.type_list_append mt_append (pv 4) (pa_cons (pd_tup (pad_cons (pd_gstr (by rfl) T.c_BACK) (pad_cons (pd_var 8) pad_nil))) pa_nil)))
          (pss_one (ps_ddel (pv 6) (pv 8)))))
      (pss_cons (ps_for PassesOwn.never rfl (pi_range1 (by rfl) T.b_range (pa_cons (pe_op op_fdiv (pe_op op_sub (pv 1) (pe_callB (cd_sum rfl) (by rfl) T.b_sum (by decide +kernel) (pa_cons (pe_lock (pe_lcS (bdTup 2 (bdsCons (bdName 10) (bdsCons (bdName 11) bdsNil))) yesB (gv 11) (own := [("first", 10), ("many", 11)]) rfl sc_opposed.nd (pi_values (pv 6)) (blkOk_by (N := N_opposed) (sc := defScope s_opposed) (by decide +kernel)) (fun _ _ _ _ _ => (pgd_tup rfl (pgds_cons (pgd_name 10 sc_opposed.nd) (pgds_cons (pgd_name 11 sc_opposed.nd) pgds_nil)))) (fun _ _ _ _ _ => ptsd_nil) (fun _ _ _ _ _ => (pd_var 11)))) pa_nil))) (pv 3)) pa_nil)) (pg_name (i := 9) sc_opposed.nd rfl (.inl rfl))
        (pss_cons (ps_expr (pe_bm PySem.F.plainAttrs_list PySem.F.slot_list_append PySem.F.type_list_append mt_append (pv 4) (pa_cons (pd_tup (pad_cons (pd_gstr (by rfl) T.c_ASK_opponents) (pad_cons (pd_var 3) pad_nil))) pa_nil)))
        (pss_cons (ps_set (i := 10) sc_opposed.nd rfl (.inl rfl) (pe_actsA (i := 2) (k := 5) (G := G) hr (by decide) rfl (.inl rfl) (pa_cons (pe_callTy call_tuple_of (by rfl) T.b_tuple (by decide +kernel) (pa_cons (pe_callB (cr_sortedV hr.units rfl) (by rfl) T.b_sorted (by decide +kernel) (pa_cons (pe_bm0 PySem.F.plainAttrs_dict PySem.F.slot_dict_values PySem.F.type_dict_values mt_values (pv 6)) pa_nil)) pa_nil)) (pa_cons (pv 3) pa_nil))))
        (pss_cons (ps_if (ptd_cmp od_is (pd_var 10) pd_non) (pss_one (ps_ret (pe_tup (pa_cons (pe_callTy call_tuple_of (by rfl) T.b_tuple (by decide +kernel) (pa_cons (pv 4) pa_nil)) (pa_cons (pe_callTy call_tuple_of (by rfl) T.b_tuple (by decide +kernel) (pa_cons (pv 5) pa_nil)) (pa_cons (pe_callTy call_tuple_of (by rfl) T.b_tuple (by decide +kernel) (pa_cons (pv 7) pa_nil)) (pa_cons pe_bl pa_nil))))))) pss_nil)
        (pss_cons (ps_dput hu (pv 6) (pd_callB cd_len (by rfl) T.b_len (by decide +kernel) (pad_cons (pd_var 5) pad_nil)) (pd_tup (pad_cons (pd_var 10) (pad_cons (pd_var 3) pad_nil))) rfl)
        (pss_one (ps_expr (pe_bm PySem.F.plainAttrs_list PySem.F.slot_list_append PySem.F.type_list_append mt_append (pv 5) (pa_cons (pv 10) pa_nil)))))))))
      (pss_one (ps_expr (pe_bm PySem.F.plainAttrs_list PySem.F.slot_list_append PySem.F.type_list_append mt_append (pv 7) (pa_cons (pe_has G_cells_met hr (by rfl) (pa_cons (pe_callTy (cr_listV rfl) (by rfl) T.b_list (by decide +kernel) (pa_cons (pe_bm0 PySem.F.plainAttrs_dict PySem.F.slot_dict_values PySem.F.type_dict_values mt_values (pv 6)) pa_nil)) (pa_cons (pv 3) pa_nil))) pa_nil)))))))
    (pss_one (ps_ret (pe_tup (pa_cons (pe_callTy call_tuple_of (by rfl) T.b_tuple (by decide +kernel) (pa_cons (pv 4) pa_nil)) (pa_cons (pe_callTy call_tuple_of (by rfl) T.b_tuple (by decide +kernel) (pa_cons (pv 5) pa_nil)) (pa_cons (pe_callTy call_tuple_of (by rfl) T.b_tuple (by decide +kernel) (pa_cons (pv 7) pa_nil)) (pa_cons pe_bl pa_nil)))))))), ?_⟩
  refine ⟨by show 0 ≤ sizeLine; decide, fun pr hpr => ⟨by show 0 ≤ sizeLine; decide, fun pp hpp => fun ph hph => ⟨by show 0 ≤ sizeLine; decide, fun pm hpm => ⟨by show 4 ≤ sizeLine; decide, fun T1 hT1 => ?_⟩⟩⟩⟩
  have n1 : pr ≠ pp := fun z => by rw [← z, upd_same] at hpp; cases hpp
  have hpp0 : H pp = none := by rwa [upd_ne (Ne.symm n1)] at hpp
  have n2 : pp ≠ ph := fun z => by rw [← z, upd_same] at hph; cases hph
  have n3 : pr ≠ ph := fun z => by rw [← z, upd_ne n1, upd_same] at hph; cases hph
  have hph0 : H ph = none := by rwa [upd_ne (Ne.symm n2), upd_ne (Ne.symm n3)] at hph
  have n4 : ph ≠ pm := fun z => by rw [← z, upd_same] at hpm; cases hpm
  have n5 : pp ≠ pm := fun z => by rw [← z, upd_ne n2, upd_same] at hpm; cases hpm
  have n6 : pr ≠ pm := fun z => by rw [← z, upd_ne n3, upd_ne n1, upd_same] at hpm; cases hpm
  have hpm0 : H pm = none := by rwa [upd_ne (Ne.symm n4), upd_ne (Ne.symm n5), upd_ne (Ne.symm n6)] at hpm
  have A0 : OpA H pr pp ph pm := ⟨hpr, hpp0, hph0, hpm0, n1, n3, n6, n2, n5, n4⟩
  have S0 : OpS K H pr pp ph pm [] [] [] [] (upd (upd (upd (upd H pr (.lst [])) pp (.lst [])) ph (.dK [])) pm (.lst [])) :=
    ⟨(((same_new hpr).trans (same_new hpp)).trans (same_new hph)).trans (same_new hpm), ⟨[], by rw [upd_ne n6, upd_ne n3, upd_ne n1, upd_same], .nil, rfl⟩, ⟨[], by rw [upd_ne n5, upd_ne n2, upd_same], .nil, rfl⟩, ⟨[], upd_same, .nil, rfl⟩, ⟨[], by rw [upd_ne n4, upd_same], .nil, fun p hp => nomatch hp⟩⟩
  have S1 := S0.mv (same_new (o := .tup [V.ref pr, V.ref pp, V.ref ph, V.ref pm]) hT1)
  refine ⟨T1, _, rfl, .inl (.inl upd_same), rfl, _, _, rfl, _, _, rfl, _, _, rfl, _, _, rfl, rfl, ?_⟩
  refine ⟨_, rfl, a, rfl, ⟨_, sqT_same S1.same ha⟩, for_it walk_tup (fun i σ' H' => ∃ (y3 y8 y9 y10 : Option V) (row places met : List PyData) (held : DkD), σ' = [some (.ref a), some (.int budget), some (.ref f), y3, some (.ref pr), some (.ref pp), some (.ref ph), some (.ref pm), y8, y9, y10, none] ∧ OpS K H pr pp ph pm row places met held H' ∧ opChain G budget (chain.drop i) row places held met = some o)
    ⟨none, none, none, none, [], [], [], [], rfl, S1, hg⟩ (fun i σ' H' _ ⟨_, _, _, _, _, _, _, _, _, S, _⟩ => sqT_same S.same ha) ?turn ?done⟩
  case done =>
    rintro σ' H' ⟨y3, y8, y9, y10, row, places, met, held, rfl, S, hgo⟩
    rw [List.length_map, List.drop_length] at hgo
    cases hgo
    exact op_ret S rfl rfl rfl fun v H' s1 d1 => q v H' s1 d1
  case turn =>
    rintro i x σ' H' H2' hi ⟨y3, y8, y9, y10, row, places, met, held, rfl, S, hgo⟩ ⟨rfl, hx⟩
    rw [List.length_map] at hi
    rw [List.getElem?_map, List.getElem?_eq_getElem hi] at hx
    cases hx
    rw [drop_get hi] at hgo
    generalize chain[i] = size at hgo
    unfold opChain at hgo
    split at hgo
    rotate_left
    · cases hgo
    rename_i hc
    obtain ⟨ns, hns, hgo⟩ := Option.bind_eq_some_iff.mp hgo
    obtain ⟨b, hb, hgo⟩ := Option.bind_eq_some_iff.mp hgo
    split at hgo
    rotate_left
    · cases hgo
    rename_i hbl
    obtain ⟨sm, hsm, hgo⟩ := Option.bind_eq_some_iff.mp hgo
    split at hgo
    rotate_left
    · cases hgo
    rename_i htn
    obtain ⟨ot, hot, hgo⟩ := Option.bind_eq_some_iff.mp hgo
    have hHl := S.hld
    obtain ⟨kvs0, hk0, hkd0, hkn0⟩ := hHl
    -- the numbers going back
    have key : ∀ C : V → Hp → Prop, (∀ ln us Hn, OpS K H pr pp ph pm row places met held Hn → Hn ln = some (.lst us) → H ln = none → ln ≠ pr → ln ≠ ph → DpAll K Hn us ns → C (.ref ln) Hn) →
        tIf (tDT K (btest (bin2 (gv 3) (fun _ => some (.int 1)) gtD))) (fun σ H Q => tCons (tVar 6) (tCons (tVar 3) tNil) σ H fun vs H1 => spGoing K vs H1 Q C8.E0) (tLst tNil) [some (.ref a), some (.int budget), some (.ref f), some (.int size), some (.ref pr), some (.ref pp), some (.ref ph), some (.ref pm), y8, y9, y10, none] H2' C := by
      intro C hC
      refine ⟨[none, none, none, some (.int size), none, none, none, none, none, none, none, none], decide (1 < size), .consN (.consN (.consN (.consS (.int _) (.consN (.consN (.consN (.consN (.consN (.consN (.consN (.consN .nil))))))))))), by simp [btest, bin2, gv, gtD, asB], fun Hn s1 => ?_⟩
      have S1 := S.mv s1
      by_cases h1 : 1 < size
      · rw [if_pos h1] at hns
        rw [decide_eq_true h1]
        refine iteT ⟨_, rfl, _, rfl, ph, size, kvs0, held, ns, rfl, s1 _ _ hk0, hkd0.extS (ExtS.of s1), hns, fun p us H' hp s2 hl hd => ?_⟩
        have S2 := S1.mv s2
        refine hC p us H' S2 hl (S1.same.free hp) (fun z => ?_) (fun z => ?_) hd
        · obtain ⟨rv, r2, _⟩ := S1.row
          rw [z, r2] at hp; cases hp
        · obtain ⟨rv, r2, _⟩ := S1.hld
          rw [z, r2] at hp; cases hp
      · rw [if_neg h1] at hns
        cases hns
        rw [decide_eq_false h1]
        refine iteF ⟨by show 0 ≤ sizeLine; decide, fun p hp => ?_⟩
        refine hC p [] _ (S1.mv (same_new hp)) upd_same (S1.same.free hp) (fun z => ?_) (fun z => ?_) .nil
        · obtain ⟨rv, r2, _⟩ := S1.row
          rw [z, r2] at hp; cases hp
        · obtain ⟨rv, r2, _⟩ := S1.hld
          rw [z, r2] at hp; cases hp
    refine key _ fun ln us Hn Sn hln hln0 hlr hlh hdn => ⟨ln, rfl, ⟨us, SqL.of hln⟩, for_it walk_list (fun j σ' H' => ∃ (y8 : Option V) (row1 : List PyData) (held1 : DkD), σ' = [some (.ref a), some (.int budget), some (.ref f), some (.int size), some (.ref pr), some (.ref pp), some (.ref ph), some (.ref pm), y8, y9, y10, none] ∧ OpS K H pr pp ph pm row1 places met held1 H' ∧ H' ln = some (.lst us) ∧ opBack (ns.drop j) row1 held1 = some b)
      ⟨y8, row, held, rfl, Sn, hln, hb⟩ (fun j σ' H' _ ⟨_, _, _, _, _, z, _⟩ => SqL.of z) ?turn2 ?done2⟩
    case turn2 =>
      rintro j x2 σ2 H3 H4 hj ⟨y8', row1, held1, rfl, S1, hl1, hbk⟩ ⟨rfl, hx2⟩
      have hj' : j < ns.length := by rw [← hdn.length]; exact hj
      rw [drop_get hj'] at hbk
      obtain ⟨n, hn, hcb, hbk⟩ := opBack_inv hbk
      obtain ⟨d2, hd2, hdd2⟩ := hdn.getV hx2
      rw [List.getElem?_eq_getElem hj'] at hd2
      cases hd2
      rw [hn] at hdd2
      cases hdd2.int_inv
      obtain ⟨rv, r2, r3, r4⟩ := S1.row
      refine ⟨.ref pr, rfl, .inl ⟨rfl, _, SqL.of r2⟩, [none, none, none, none, none, none, none, none, some (.int n), none, none, none], .tuple [.str "back", .int n], .consN (.consN (.consN (.consN (.consN (.consN (.consN (.consN (.consS (.int _) (.consN (.consN (.consN .nil))))))))))), by simp [tupF, consF, nilF, gv, small], fun v H5 s5 d5 => ⟨pr, rv, v, rfl, rfl, s5 _ _ r2, by rw [r3.length, sizeLine_eq]; omega, ?_⟩⟩
      have S5 := (S1.mv s5).radd A0 (s5 _ _ r2) (by rfl) d5
      obtain ⟨kk, k2, k3, k4⟩ := S5.hld
      obtain ⟨dl, hdl⟩ := Option.isSome_iff_exists.mp hcb.1
      obtain ⟨vl, hvl, _⟩ := k3.val_some hdl
      refine ⟨_, rfl, _, rfl, ph, kk, .inl n, rfl, k2, rfl, by rw [hvl]; rfl, _, _, _, rfl, S5.dict A0 k2 (fun z => z.drop) (nl_drop k4), ?_, hbk⟩
      rw [upd_ne hlh, upd_ne hlr]
      exact s5 _ _ hl1
    case done2 =>
      rintro σ2 H3 ⟨y8', row1, held1, rfl, S1, hl1, hbk⟩
      rw [hdn.length, List.drop_length] at hbk
      cases hbk
      dsimp only at hbl hsm hot hgo
      obtain ⟨ms, hms, hsm⟩ := Option.bind_eq_some_iff.mp hsm
      obtain ⟨is, his, rfl⟩ := Option.map_eq_some_iff.mp hsm
      obtain ⟨kk, k2, k3, k4⟩ := S1.hld
      refine ⟨_, rfl, lc_values (i := 6) (e := [none, none, none, none, none, none, none, none, none, none, none, none]) (by decide) rfl k2 k3 (.consN (.consN (.consN (.consN (.consN (.consN (.consN (.consN (.consN (.consN (.consN (.consN .nil)))))))))))) (by simp [small]; omega) hms fun pl us5 H5 hpl s5 hl5 hd5 => ?_⟩
      refine ⟨[.list ms], .int is.sum, .cons (.lst (SqL.of hl5) hd5) .nil, by simp [sumD, his], fun v6 H6 s6 d6 => ?_⟩
      cases d6.int_inv
      have S6 := S1.mv (s5.trans s6)
      refine ⟨budget, is.sum, rfl, rfl, _, rfl, budget - is.sum, size, rfl, rfl, ⟨hc.2.2.1, hc.2.2.2⟩, (budget - is.sum) / size, rfl, by omega, by omega, for_it walk_range (fun j σ' H' => ∃ (y9 y10 : Option V) (row2 places2 : List PyData) (held2 : DkD), σ' = [some (.ref a), some (.int budget), some (.ref f), some (.int size), some (.ref pr), some (.ref pp), some (.ref ph), some (.ref pm), y8', y9, y10, none] ∧ OpS K H pr pp ph pm row2 places2 met held2 H' ∧ opTurn G size (((budget - is.sum) / size).toNat - j) row2 places2 held2 = some ot)
        ⟨y9, y10, row1, places, held1, rfl, S6, hot⟩ (fun _ _ _ _ _ => trivial) ?turn3 ?done3⟩
      case turn3 =>
        rintro j x3 σ3 H7 H8 hj ⟨y9', y10', row2, places2, held2, rfl, S7, hts⟩ ⟨rfl, rfl⟩
        rw [show ((budget - is.sum) / size).toNat - j = (((budget - is.sum) / size).toNat - (j + 1)) + 1 by omega] at hts
        obtain ⟨hcs, d, hG, hts⟩ := opTurn_inv hts
        obtain ⟨rv, r2, r3, r4⟩ := S7.row
        refine ⟨.ref pr, rfl, .inl ⟨rfl, _, SqL.of r2⟩, [none, none, none, some (.int size), none, none, none, none, none, none, none, none], .tuple [.str "ask", .int size], .consN (.consN (.consN (.consS (.int _) (.consN (.consN (.consN (.consN (.consN (.consN (.consN (.consN .nil))))))))))), by simp [tupF, consF, nilF, gv, small], fun v H9 s9 d9 => ⟨pr, rv, v, rfl, rfl, s9 _ _ r2, by rw [r3.length, sizeLine_eq]; omega, ?_⟩⟩
        have S9 := (S7.mv s9).radd A0 (s9 _ _ r2) (by rfl) d9
        generalize (upd H9 pr (.lst (rv ++ [v]))) = H10 at S9
        obtain ⟨k9, j2, j3, j4⟩ := S9.hld
        refine ⟨f, rfl, ac.ext (extN_same S9.same), .ref ph, rfl, .inr (.inr (.inl ⟨rfl, .inl ⟨k9, j2⟩⟩)), ph, k9, rfl, rfl, .inl j2, fun r0 hr0 => ?_⟩
        have sv := same_new (o := ViewO r0 ph) hr0
        refine ⟨r0, ph, k9, _, rfl, upd_same, .inl (sv _ _ j2), DpAll.same sv _ _ j3.vals, hcs.1, fun ws p hp hws => ?_⟩
        have sw := same_new (o := .lst ws) hp
        refine ⟨p, ws, rfl, .inl ⟨SqL.of upd_same, fun l hl => ?_⟩⟩
        have sl := same_new (o := .tup ws) hl
        have sall := (sv.trans sw).trans sl
        refine ⟨_, rfl, extN_same sall, [.tuple (sortL (held2.map (·.2))), .int size], d, .cons (.tup (.inl (.inl upd_same)) (DpAll.same (sw.trans sl) _ _ hws)) (.cons (.int _) .nil), hG, fun v11 H11 s11 d11 => ?_⟩
        have S11 := S9.mv (sall.trans s11)
        rcases hts with ⟨rfl, hot2⟩ | ⟨fi, rfl, hts⟩
        · have e11 : v11 = .non := by cases d11; rfl
          subst e11
          refine ⟨[none, none, none, none, none, none, none, none, none, none, some .none, none], true, .consN (.consN (.consN (.consN (.consN (.consN (.consN (.consN (.consN (.consN (.consS .non (.consN .nil))))))))))), by rfl, fun H12 s12 => iteT ?_⟩
          have S12 := S11.mv s12
          subst hot2
          dsimp only at hgo
          rw [if_neg Bool.false_ne_true] at hgo
          cases hgo
          exact op_ret S12 rfl rfl rfl fun v H' s1 d1 => q v H' s1 d1
        · cases d11.int_inv
          refine ⟨[none, none, none, none, none, none, none, none, none, none, some (.int fi), none], false, .consN (.consN (.consN (.consN (.consN (.consN (.consN (.consN (.consN (.consN (.consS (.int _) (.consN .nil))))))))))), by rfl, fun H12 s12 => iteF ?_⟩
          have S12 := S11.mv s12
          refine ⟨[none, none, none, some (.int size), none, none, none, none, none, none, some (.int fi), none], .tuple [.int fi, .int size], .consN (.consN (.consN (.consS (.int _) (.consN (.consN (.consN (.consN (.consN (.consN (.consS (.int _) (.consN .nil))))))))))), by simp [tupF, consF, nilF, gv, small], fun v13 H13 s13 d13 => ?_⟩
          have S13 := S12.mv s13
          obtain ⟨pv13, p2, p3, p4⟩ := S13.plc
          refine ⟨_, rfl, [none, none, none, none, none, some (.list places2), none, none, none, none, none, none], .int (places2.length : Nat), .consN (.consN (.consN (.consN (.consN (.consS (.lst (SqL.of p2) p3) (.consN (.consN (.consN (.consN (.consN (.consN .nil))))))))))), by rfl, fun v14 H14 s14 d14 => ?_⟩
          cases d14.int_inv
          have S14 := S13.mv s14
          obtain ⟨k14, h2, h3, h4⟩ := S14.hld
          refine ⟨ph, _, rfl, DPut.k (k := .inl (places2.length : Nat)) h2 (by rw [h3.length, sizeLine_eq]; omega), ?_⟩
          have S15 := S14.dict A0 h2 (fun z => z.put (k := (places2.length : Nat)) (Dp.same s14 _ _ d13)) (nl_put h4 (by rfl))
          generalize upd H14 ph (.dK (putK k14 (.inl (places2.length : Nat)) v13)) = H15 at S15
          obtain ⟨pv15, w2, w3, w4⟩ := S15.plc
          exact ⟨_, rfl, .inl ⟨rfl, _, SqL.of w2⟩, _, rfl, pp, pv15, _, rfl, rfl, w2, by rw [w3.length, sizeLine_eq]; omega, _, _, _, _, _, rfl, S15.padd A0 w2 (by rfl) (.int fi), hts⟩
      case done3 =>
        rintro σ3 H7 ⟨y9', y10', row2, places2, held2, rfl, S7, hts⟩
        rw [Nat.sub_self] at hts
        cases hts
        dsimp only at hgo
        rw [if_pos rfl] at hgo
        obtain ⟨m, hm, hgo⟩ := Option.bind_eq_some_iff.mp hgo
        split at hgo
        rotate_left
        · cases hgo
        rename_i hmm
        obtain ⟨mv0, m2, m3, m4⟩ := S7.met
        obtain ⟨k9, j2, j3, j4⟩ := S7.hld
        refine ⟨.ref pm, rfl, .inl ⟨rfl, _, SqL.of m2⟩, .ref ph, rfl, .inr (.inr (.inl ⟨rfl, .inl ⟨k9, j2⟩⟩)), ph, k9, rfl, rfl, .inl j2, fun r0 hr0 => ?_⟩
        have sv := same_new (o := ViewO r0 ph) hr0
        refine ⟨r0, ph, k9, rfl, upd_same, .inl (sv _ _ j2), fun p hp => ?_⟩
        have sp := same_new (o := .lst (k9.map (·.2))) hp
        refine ⟨_, rfl, [.list (held2.map (·.2)), .int size], m, .cons (.lst (SqL.of upd_same) (DpAll.same (sv.trans sp) _ _ j3.vals)) (.cons (.int _) .nil), hm, fun v H9 s9 d9 => ?_⟩
        have S9 := S7.mv ((sv.trans sp).trans s9)
        have m9 := ((sv.trans sp).trans s9) _ _ m2
        exact ⟨pm, mv0, v, rfl, rfl, m9, by rw [m3.length, sizeLine_eq]; omega, _, _, _, _, _, _, _, _, rfl, S9.madd A0 m9 hmm.1 d9, hgo⟩
end
end Lb
end
section
set_option Elab.async false
set_option linter.all false
set_option maxRecDepth 100000
set_option maxHeartbeats 4000000
/-! F1: opponent; a lambda in hand. -/
namespace L2
open PySem PySem.Spec PyProof.Rows StX RZ NdefX LamX
/-- what a lambda that holds its cells does -/
theorem acts_lam {P : Program} {w : World} {K : PySem.W.Frag} {mg : Str → Option Value} {base : Heap} {N ps fr : List Str} {F : NF} {body : Expr} {f : Addr} {H1 H : Hp} {cs : List (Addr × Obj)} {ws : List (Option V)} {k : Nat} {G : List PyData → Option PyData} (S : NScope N ps fr F.scope)
    (hb : ∀ (pm ctv : Value) (us : List Value), us.length = ps.length → bindArgs (PySem.W.kla_fn F.name F.qual F.params body F.scope F.cl pm (.ref F.c) ctv) ⟨us, []⟩ = pure (ps.zip us)) (B : Backs cs F.cl fr ws H1) (hf : H1 f = some (LamO f F body)) (hc : H1 F.c = some (CodeO F.c F.qual)) (hs : Same H1 (hold cs H1))
    (hlen : ∀ ds d, G ds = some d → ds.length = ps.length)
    (hbody : ∀ (A : Around) (outer : List Env) (s : Shared) (H : Hp) (vs : List V) (ds : List PyData) (d : PyData), Room k (A.deeper (envF F f s.heap.objs.size)) → DpAll K H vs ds → G ds = some d → ∃ g, PD (ncx C8.CX0 P w K mg base N F f A outer s H C8.E0) body g ∧ ∃ e, SD K H (startF N vs ws) e ∧ g e = some d) :
    Acts P w K mg base (k + 1) f G (hold cs H1) := by
  refine acts_of HeldC.hold ⟨_, hs _ _ hf, fun h ⟨pm, ctv, z⟩ => ⟨_, _, _, _, z⟩⟩ fun A outer s H2 us vs ds d hr e0 h2 eN hg r hd hG => ?_
  have xD : ∀ b o, H1 b = some o → (∀ ps, o ≠ .tbl ps) → dropC cs H2 b = some o := fun b o e n => by
    have q : cs.lookup b = none := by
      cases z : cs.lookup b with
      | none => rfl
      | some o' => rw [B.free b o' z] at e; cases e
    rw [drop_out q]
    exact eN b o (hs b o e) n
  refine lam_run (ps := ps) (ws := ws) S hb hr e0 (xD _ _ hf fun ps => lamO_ne ps) (xD _ _ hc fun ps => codeO_ne ps) (B.back s.heap (dropC cs H2) fun b o e => ⟨drop_in e, hg b o e⟩) r (by rw [hd.length]; exact hlen ds d hG) fun hr2 => ?_
  obtain ⟨g, hp, e, hsd, he⟩ := hbody A outer s (dropC cs H2) vs ds d hr2 hd hG
  exact ⟨_, hp, e, d, hsd, he, fun v H3 s3 d3 => ⟨s3, d3⟩⟩
end L2
namespace Lb
open PySem PySem.Spec PyProof.Rows L2 StX RZ NdefX LamX
section
variable {P : Program} {w : World} {K : PySem.W.Frag} {mg : Str → Option Value} {base : Heap}
abbrev N_opponent : List Str := ["chain", "budget", "pool", "place", "row", "places", "met", "is_served"]
theorem sc_opponent : FnScope N_opponent ["chain", "budget", "pool", "place"] (defScope s_opponent) := ⟨rfl, rfl, rfl, by decide +kernel, rfl, by decide +kernel, by decide +kernel⟩
def opponentD (G : List PyData → Option PyData) (chain : List Int) (budget pool : Int) : Option PyData := (F_check_budget [.tuple (chain.map .int), .int budget]).bind fun _ => (opposedD (chooseG pool G) chain budget).map fun o => .tuple [.tuple o.1, .tuple o.2.1, .str (if o.2.2.2 then "served" else "refused")]
def spOpponent (P : Program) (w : World) (K : PySem.W.Frag) (mg : Str → Option Value) (base : Heap) (Ts : List NTab) : Sp := fun vs H Q _ => ∃ (a f : Addr) (chain : List Int) (budget pool : Int) (G : List PyData → Option PyData) (d : PyData), vs = [.ref a, .int budget, .int pool, .ref f] ∧ SqT K H a (chain.map V.int) ∧ Acts P w K mg base 4 f G H ∧ TabsN Ts H ∧
  opponentD G chain budget pool = some d ∧ ∀ v H', ExtN H H' → TabsN Ts H' → Dp K H' v d → Q v H'
theorem has_opponent {Ts : List NTab} (T : Txt K mg) (G_check_budget : Has P w K mg base 4 "check_budget" (spD K F_check_budget)) (G_opposed : Has P w K mg base 6 "opposed" (spOpposed P w K mg base)) (G_asker : Has P w K mg base 1 "asker" (spAsker P w K mg base Ts)) : Has P w K mg base 7 "opponent" (spOpponent P w K mg base Ts) := by
  refine has_of T.d_opponent sc_opponent (fun _ _ _ _ _ _ us hl => match us, hl with | [_, _, _, _], _ => rfl) (fun vs H Q E ⟨_, _, _, _, _, _, _, h, _⟩ => by rw [h]; rfl) fun fa cdv A outer s H vs Q E hr ⟨a, f, chain, budget, pool, G, d, hvs, ha, ac, hT, hg, q⟩ => ?_
  subst hvs
  obtain ⟨d0, hcb, hg⟩ := Option.bind_eq_some_iff.mp hg
  obtain ⟨o, ho, hg⟩ := Option.map_eq_some_iff.mp hg
  subst hg
  refine ⟨_, pss_cons (ps_expr (pd_call G_check_budget hr (by rfl) (pad_cons (pd_var 0) (pad_cons (pd_var 1) pad_nil))))
    (pss_cons (ps_asg (pe_has G_opposed hr (by rfl) (pa_cons (pv 0) (pa_cons (pv 1) (pa_cons (pe_has G_asker hr (by rfl) (pa_cons (pv 2) (pa_cons (pv 3) pa_nil))) pa_nil)))) (pg_tup rfl (pgs_cons (pg_name (i := 4) sc_opponent.nd rfl (.inl rfl)) (pgs_cons (pg_name (i := 5) sc_opponent.nd rfl (.inl rfl)) (pgs_cons (pg_name (i := 6) sc_opponent.nd rfl (.inl rfl)) (pgs_cons (pg_name (i := 7) sc_opponent.nd rfl (.inl rfl)) pgs_nil))))))
    (pss_one (ps_ret (pd_tup (pad_cons (pd_var 4) (pad_cons (pd_var 5) (pad_cons (pd_if (ptd_val (pd_var 7)) (pd_gstr (by rfl) T.c_SERVED) (pd_gstr (by rfl) T.c_REFUSED)) pad_nil))))))), ?_⟩
  refine ⟨[some (.tuple (chain.map .int)), some (.int budget), none, none, none, none, none, none], d0, .consS (.tup ha (DpAll.of_ints _)) (.consS (.int _) (.consN (.consN (.consN (.consN (.consN (.consN .nil))))))), by simp [callF, consF, nilF, gv, hcb], fun v1 H1 s1 d1 => ?_⟩
  refine ⟨_, rfl, _, rfl, _, rfl, _, rfl, pool, f, G, rfl, ac.ext (extN_same s1), hT.ext s1, fun f2 H2 e2 T2 ac2 => ?_⟩
  have e02 : ExtN H H2 := (extN_same s1).trans e2
  refine ⟨a, f2, chain, budget, _, o, rfl, (ExtD.of e02).seqT ha, ac2, ho, fun v3 H3 s3 d3 => ?_⟩
  obtain ⟨t, us, rfl, hus, hall⟩ := d3.tup_inv
  cases hall with
  | cons h1 hall =>
    cases hall with
    | cons h2 hall =>
      cases hall with
      | cons h3 hall =>
        cases hall with
        | cons h4 hall =>
          cases hall
          refine ⟨t, _, rfl, hus, rfl, _, _, rfl, _, _, rfl, _, _, rfl, _, _, rfl, rfl, ?_⟩
          refine ⟨[none, none, none, none, some (.tuple o.1), some (.tuple o.2.1), none, some (.bool o.2.2.2)], _, .consN (.consN (.consN (.consN (.consS h1 (.consS h2 (.consN (.consS h4 .nil))))))), ?_, fun v4 H4 s4 d4 => q v4 H4 (e02.trans (extN_same (s3.trans s4))) (T2.ext fun b o z => s4 _ _ (s3 _ _ z)) d4⟩
          cases o.2.2.2 <;> simp [tupF, consF, nilF, gv, ifD, btest, asB, small]
/-- the lambda of the law -/
def placeG (n : Int) : List PyData → Option PyData
  | [st, sz] => F_first_place [.int n, st, sz]
  | _ => none
end
end Lb
end
section
set_option Elab.async false
set_option linter.all false
set_option maxRecDepth 100000
set_option maxHeartbeats 4000000
/-! F2: _law_dealt. -/
namespace Lb
open PySem PySem.Spec PyProof.Rows L2 StX RZ NdefX LamX
abbrev DkI := List (Int × Int)
def encI (ds : DkI) : DkD := ds.map fun p => (p.1, .int p.2)
def lookI (ds : DkI) (k : Int) : Option Int := (ds.find? fun p => decide (p.1 = k)).map (·.2)
def putI (ds : DkI) (k v : Int) : DkI := if (ds.any fun p => decide (p.1 = k)) = true then ds.map (fun p => if p.1 = k then (p.1, v) else p) else ds ++ [(k, v)]
theorem look_enc (k : Int) : ∀ ds : DkI, lookD (encI ds) k = (lookI ds k).map .int
  | [] => rfl
  | p :: ds => by
    have ih := look_enc k ds
    unfold lookD lookI encI at ih ⊢
    rw [List.map_cons, List.find?_cons, List.find?_cons]
    by_cases h : p.1 = k
    · simp [h]
    · simp only [h, decide_false]
      exact ih
theorem any_enc (k : Int) : ∀ ds : DkI, ((encI ds).any fun p => decide (p.1 = k)) = (ds.any fun p => decide (p.1 = k))
  | [] => rfl
  | p :: ds => by
    have ih := any_enc k ds
    unfold encI at ih ⊢
    rw [List.map_cons, List.any_cons, List.any_cons, ih]
theorem put_enc (k v : Int) (ds : DkI) : putD (encI ds) k (.int v) = encI (putI ds k v) := by
  unfold putD putI
  rw [any_enc]
  split
  · unfold encI
    rw [List.map_map, List.map_map]
    congr 1
    funext p
    simp only [Function.comp]
    split
    · rfl
    · rfl
  · unfold encI
    rw [List.map_append]
    rfl
theorem putI_len (ds : DkI) (k v : Int) : (putI ds k v).length ≤ ds.length + 1 := by
  unfold putI
  split
  · rw [List.length_map]; omega
  · simp
theorem encI_len (ds : DkI) : (encI ds).length = ds.length := by unfold encI; rw [List.length_map]
theorem nl_encI (ds : DkI) : ∀ p ∈ encI ds, nl p.2 = true := fun p hp => by
  unfold encI at hp
  obtain ⟨q, _, rfl⟩ := List.mem_map.mp hp
  rfl
def dealtGo (szs : List Int) : List Deed → List Deed → DkI → Int → Int → List Deed
  | [], found, _, _, _ => found
  | (true, n) :: r, found, own, seen, many => if (szs.any fun z => decide (z = n)) = true then dealtGo szs r (found ++ [(true, n)]) (putI own seen many) (seen + 1) (many + 1) else dealtGo szs r found own (seen + 1) many
  | (false, n) :: r, found, own, seen, many => match lookI own n with
    | some m => dealtGo szs r (found ++ [(false, m)]) own seen many
    | none => dealtGo szs r found own seen many
def F_law_dealt : List PyData → Option PyData
  | [.tuple rw, .tuple sz] => (decDeeds rw).bind fun r => (intsOf sz).bind fun szs => if r.length ≤ 900 then some (.tuple ((dealtGo szs r [] [] 0 0).map encD)) else none
  | _ => none
theorem intsOf_enc : ∀ ns : List Int, intsOf (ns.map PyData.int) = some ns
  | [] => rfl
  | n :: ns => by
    show (intsOf (ns.map PyData.int)).map (n :: ·) = _
    rw [intsOf_enc ns]; rfl
theorem nlAll_D : ∀ h : List Deed, nlAll (h.map encD) = true
  | [] => rfl
  | p :: h => by rw [List.map_cons, nlAll, nlAll_D h]; rfl
section
variable {P : Program} {w : World} {K : PySem.W.Frag} {mg : Str → Option Value} {base : Heap}
abbrev N_law_dealt : List Str := ["_law_row_here", "_law_sizes_so", "_law_found", "_law_own_so", "_law_seen_so", "_law_many_so", "_law_word_so", "_law_what_so"]
theorem sc_law_dealt : FnScope N_law_dealt ["_law_row_here", "_law_sizes_so"] (defScope s_law_dealt) := ⟨rfl, rfl, rfl, by decide +kernel, rfl, by decide +kernel, by decide +kernel⟩
theorem has_law_dealt (T : Txt K mg) : Has P w K mg base 1 "_law_dealt" (spD K F_law_dealt) := by
  refine has_of T.d_law_dealt sc_law_dealt (fun _ _ _ _ _ _ us hl => match us, hl with | [_, _], _ => rfl) (fun vs H Q E ⟨ds, d, hd, hg, _⟩ => by
    unfold F_law_dealt at hg
    split at hg
    · rw [hd.length]; rfl
    · cases hg) fun fa cdv A outer s H vs Q E hr ⟨ds, d, hd, hg, q⟩ => ?_
  unfold F_law_dealt at hg
  split at hg
  rotate_left
  · cases hg
  obtain ⟨row, h1, hg⟩ := Option.bind_eq_some_iff.mp hg
  obtain ⟨szs, h2, hg⟩ := Option.bind_eq_some_iff.mp hg
  split at hg
  rotate_left
  · cases hg
  rename_i hlen
  cases hg
  cases decDeeds_inv h1
  cases intsOf_inv h2
  generalize hres : dealtGo szs row [] [] 0 0 = res at q
  obtain ⟨v0, v1, rfl, hd0, hd1⟩ := dpAll2 hd
  obtain ⟨a, xs, rfl, hxs, hall⟩ := hd0.tup_inv
  have hu := hu_of hr
  refine ⟨_, pss_cons (ps_asg (pe_tup (pa_cons (pe_lst pa_nil) (pa_cons pe_dnewK (pa_cons pe_int (pa_cons pe_int pa_nil))))) (pg_tup rfl (pgs_cons (pg_name (i := 2) sc_law_dealt.nd rfl (.inl rfl)) (pgs_cons (pg_name (i := 3) sc_law_dealt.nd rfl (.inl rfl)) (pgs_cons (pg_name (i := 4) sc_law_dealt.nd rfl (.inl rfl)) (pgs_cons (pg_name (i := 5) sc_law_dealt.nd rfl (.inl rfl)) pgs_nil))))))
    (pss_cons (ps_for PassesOwn.never rfl (pi_tup (pv 0)) (pg_tup rfl (pgs_cons (pg_name (i := 6) sc_law_dealt.nd rfl (.inl rfl)) (pgs_cons (pg_name (i := 7) sc_law_dealt.nd rfl (.inl rfl)) pgs_nil)))
      (pss_one (ps_if (ptd_cmp (od_eq hr.units) (pd_var 6) pd_str)
        (pss_cons (ps_if (ptd_cmp (od_in hr.u65) (pd_var 7) (pd_var 1))
          (pss_cons (ps_dput hu (pv 3) (pv 4) (pv 5) rfl)
            (pss_cons (ps_set (i := 5) sc_law_dealt.nd rfl (.inl rfl) (pe_op op_add (pv 5) pe_int))
              (pss_one (ps_expr (pe_bm PySem.F.plainAttrs_list PySem.F.slot_list_append PySem.F.type_list_append mt_append (pv 2) (pa_cons (pd_tup (pad_cons pd_str (pad_cons (pd_var 7) pad_nil))) pa_nil))))))
          pss_nil)
          (pss_one (ps_set (i := 4) sc_law_dealt.nd rfl (.inl rfl) (pe_op op_add (pv 4) pe_int))))
        (pss_one (ps_if (pt_cmp (pc_din hu (pv 7) (pv 3)))
          (pss_one (ps_expr (pe_bm PySem.F.plainAttrs_list PySem.F.slot_list_append PySem.F.type_list_append mt_append (pv 2) (pa_cons (pe_tup (pa_cons pe_str (pa_cons (pe_dget hu (pv 3) (pv 7) (fun _ _ => rfl)) pa_nil))) pa_nil))))
          pss_nil)))))
    (pss_one (ps_ret (pe_callTy call_tuple_of (by rfl) T.b_tuple (by decide +kernel) (pa_cons (pv 2) pa_nil))))), ?_⟩
  refine ⟨by show 0 ≤ sizeLine; decide, fun pf hpf => fun po hpo => ⟨by show 4 ≤ sizeLine; decide, fun T1 hT1 => ?_⟩⟩
  have n1 : pf ≠ po := fun z => by rw [← z, upd_same] at hpo; cases hpo
  have hpo0 : H po = none := by rwa [upd_ne (Ne.symm n1)] at hpo
  have s0 : Same H (upd (upd H pf (.lst [])) po (.dK [])) := (same_new hpf).trans (same_new hpo)
  have sT := same_new (o := .tup [V.ref pf, V.ref po, V.int 0, V.int 0]) hT1
  have hA : (upd (upd (upd H pf (.lst [])) po (.dK [])) T1 (.tup [V.ref pf, V.ref po, V.int 0, V.int 0])) pf = some (.lst []) := sT _ _ (by rw [upd_ne n1, upd_same])
  have hB : (upd (upd (upd H pf (.lst [])) po (.dK [])) T1 (.tup [V.ref pf, V.ref po, V.int 0, V.int 0])) po = some (.dK []) := sT _ _ upd_same
  refine ⟨T1, _, rfl, .inl (.inl upd_same), rfl, _, _, rfl, _, _, rfl, _, _, rfl, _, _, rfl, rfl, ?_⟩
  refine ⟨_, rfl, a, rfl, ⟨xs, sqT_same (s0.trans sT) hxs⟩, for_it walk_tup (fun i σ' H' => ∃ (found : List Deed) (own : DkI) (seen many : Int) (fv : List V) (kk : List (Key × V)) (y6 y7 : Option V), σ' = [some (.ref a), some v1, some (.ref pf), some (.ref po), some (.int seen), some (.int many), y6, y7] ∧ Same H H' ∧
      H' pf = some (.lst fv) ∧ DpAll K H' fv (found.map encD) ∧ H' po = some (.dK kk) ∧ KvD K H' kk (encI own) ∧ found.length ≤ i ∧ own.length ≤ i ∧ dealtGo szs (row.drop i) found own seen many = res)
    ⟨[], [], 0, 0, [], [], none, none, rfl, s0.trans sT, hA, .nil, hB, .nil, by simp, by simp, hres⟩ (fun i σ' H' _ ⟨_, _, _, _, _, _, _, _, _, z, _⟩ => sqT_same z hxs) ?turn ?done⟩
  case done =>
    rintro σ' H' ⟨found, own, seen, many, fv, kk, y6, y7, rfl, p1, p2, p3, p4, p5, p6, p7, p8⟩
    rw [hall.length, List.length_map, List.drop_length] at p8
    refine ⟨_, rfl, pf, _, rfl, .inl ⟨SqL.of p2, fun l hl => q _ _ (p1.trans (same_new hl)) (.tup (.inl (.inl upd_same)) ?_)⟩⟩
    rw [← p8]
    exact DpAll.same (same_new hl) _ _ p3
  case turn =>
    rintro i x σ' H' H2' hi ⟨found, own, seen, many, fv, kk, y6, y7, rfl, p1, p2, p3, p4, p5, p6, p7, p8⟩ ⟨rfl, hx⟩
    have hi' : i < row.length := by rw [hall.length, List.length_map] at hi; exact hi
    obtain ⟨d, hdd, hd2⟩ := hall.getV hx
    rw [List.getElem?_map, List.getElem?_eq_getElem hi'] at hdd
    cases hdd
    rw [drop_get hi'] at p8
    generalize row[i] = rd at p8 hd2
    obtain ⟨b, n⟩ := rd
    obtain ⟨t, us, rfl, hus, hua⟩ := hd2.tup_inv
    obtain ⟨u1, u2, rfl, hu1, hu2⟩ := dpAll2 hua
    cases hu1.str_inv
    cases hu2.int_inv
    refine ⟨t, _, rfl, sqT_same p1 hus, rfl, _, _, rfl, _, _, rfl, rfl, ?_⟩
    refine ⟨[none, none, none, none, none, none, some (.str (wd b)), none], b, .consN (.consN (.consN (.consN (.consN (.consN (.consS (.str _) (.consN .nil))))))), by cases b <;> rfl, fun H3 s3 => ?_⟩
    have q1 := p1.trans s3
    have q2 := s3 _ _ p2
    have q3 := DpAll.same s3 _ _ p3
    have q4 := s3 _ _ p4
    have q5 := p5.extS (ExtS.of s3)
    cases b with
    | true =>
      unfold dealtGo at p8
      refine iteT ⟨[none, some (.tuple (szs.map .int)), none, none, none, none, none, some (.int n)], (szs.any fun z => decide (z = n)), .consN (.consS (Dp.same q1 _ _ hd1) (.consN (.consN (.consN (.consN (.consN (.consS (.int _) .nil))))))), by simp [btest, bin2, gv, inD, inB, intsOf_enc, asB], fun H4 s4 => ?_⟩
      have r1 := q1.trans s4
      have r2 := s4 _ _ q2
      have r3 := DpAll.same s4 _ _ q3
      have r4 := s4 _ _ q4
      have r5 := q5.extS (ExtS.of s4)
      by_cases hin : (szs.any fun z => decide (z = n)) = true
      · rw [if_pos hin] at p8
        rw [hin]
        refine iteT ⟨_, rfl, _, rfl, _, rfl, po, _, rfl, DPut.k (k := .inl seen) r4 (by rw [r5.length, encI_len, sizeLine_eq]; omega), ?_⟩
        have t5 : ExtS H4 (upd H4 po (.dK (putK kk (.inl seen) (.int many)))) := ExtS.upd fun o z => by rw [r4] at z; cases z; exact id
        have hpn : pf ≠ po := n1
        have w2 : (upd H4 po (.dK (putK kk (.inl seen) (.int many)))) pf = some (.lst fv) := by rw [upd_ne hpn]; exact r2
        have w3 := DpAll.extS t5 _ _ r3
        have w5 := (r5.put (k := seen) (.int many)).extS t5
        rw [put_enc] at w5
        refine ⟨_, rfl, many, 1, rfl, rfl, .ref pf, rfl, .inl ⟨rfl, _, SqL.of w2⟩, [none, none, none, none, none, none, none, some (.int n)], .tuple [.str "ask", .int n], .consN (.consN (.consN (.consN (.consN (.consN (.consN (.consS (.int _) .nil))))))), by simp [tupF, consF, nilF, gv, small], fun v5 H5 s5 d5 => ⟨pf, fv, v5, rfl, rfl, s5 _ _ w2, by rw [w3.length, List.length_map, sizeLine_eq]; omega, _, rfl, seen, 1, rfl, rfl, ?_⟩⟩
        have t6 := TSame.lst (u := .lst (fv ++ [v5])) (s5 _ _ w2)
        refine ⟨found ++ [(true, n)], putI own seen many, seen + 1, many + 1, _, _, _, _, rfl, same_mut ((same_mut r1 hpo0).trans s5) hpf, upd_same, ?_, by rw [upd_ne (Ne.symm hpn)]; exact s5 _ _ upd_same, KvD.tsame t6 (nl_encI _) (w5.extS (ExtS.of s5)), by simp; omega, Nat.le_trans (putI_len _ _ _) (by omega), p8⟩
        rw [List.map_append]
        exact DpAll.snoc (DpAll.tsame t6 _ _ (nlAll_D _) (DpAll.same s5 _ _ w3)) (Dp.tsame t6 _ _ (by rfl) d5)
      · rw [if_neg hin] at p8
        rw [Bool.eq_false_iff.mpr hin]
        exact iteF ⟨_, rfl, seen, 1, rfl, rfl, found, own, seen + 1, many, _, _, _, _, rfl, r1, r2, r3, r4, r5, by omega, by omega, p8⟩
    | false =>
      unfold dealtGo at p8
      refine iteF ⟨_, rfl, _, rfl, po, _, rfl, DGet.k (k := .inl n) q4, _, rfl, ?_⟩
      have hlk := look_enc n own
      cases hl : lookI own n with
      | none =>
        rw [hl] at p8 hlk
        dsimp only at p8
        rw [q5.val_none hlk]
        exact iteF ⟨found, own, seen, many, _, _, _, _, rfl, q1, q2, q3, q4, q5, by omega, by omega, p8⟩
      | some m =>
        rw [hl] at p8 hlk
        dsimp only at p8
        obtain ⟨vm, hvm, hdm⟩ := q5.val_some hlk
        cases hdm.int_inv
        rw [hvm]
        refine iteT ⟨.ref pf, rfl, .inl ⟨rfl, _, SqL.of q2⟩, _, rfl, _, rfl, po, .int m, rfl, ?_, by show 2 ≤ sizeLine; decide, fun l hl => ⟨pf, fv, _, rfl, rfl, same_new hl _ _ q2, by rw [q3.length, List.length_map, sizeLine_eq]; omega, ?_⟩⟩
        · have := DGet.k (k := .inl n) q4
          rw [hvm] at this
          exact this
        · have s5 := same_new (o := .tup [V.str "back", V.int m]) hl
          have t6 := TSame.lst (u := .lst (fv ++ [V.ref l])) (s5 _ _ q2)
          refine ⟨found ++ [(false, m)], own, seen, many, _, _, _, _, rfl, same_mut (q1.trans s5) hpf, upd_same, ?_, by rw [upd_ne (Ne.symm n1)]; exact s5 _ _ q4, KvD.tsame t6 (nl_encI _) (q5.extS (ExtS.of s5)), by simp; omega, by omega, p8⟩
          rw [List.map_append]
          exact DpAll.snoc (DpAll.tsame t6 _ _ (nlAll_D _) (DpAll.same s5 _ _ q3)) (Dp.tsame t6 _ _ (by rfl) (.tup (.inl (.inl upd_same)) (.cons (.str _) (.cons (.int _) .nil))))
end
end Lb
end
section
set_option Elab.async false
set_option linter.all false
set_option maxRecDepth 100000
set_option maxHeartbeats 4000000
namespace Lb
open PySem PySem.Spec PyProof.Rows L2 StX RZ
section
variable {P : Program} {w : World} {K : PySem.W.Frag} {mg : Str → Option Value} {base : Heap}
abbrev N_law_dealt_right : List Str := ["_law_chain_so", "_law_budget_so", "_law_row_here", "_law_parts_so", "_law_sizes_so", "_law_least_so", "_law_near", "_law_small_so", "_law_pool_so", "_law_own"]
theorem sc_law_dealt_right : FnScope N_law_dealt_right ["_law_chain_so", "_law_budget_so", "_law_row_here", "_law_parts_so"] (defScope s_law_dealt_right) := ⟨rfl, rfl, rfl, by decide +kernel, rfl, by decide +kernel, by decide +kernel⟩
def g_law_dealt_right : DG := (seqG (forG (seqI (gv 3)) (bdName 4) (seqG (setG 5 (bin2 (gv 4) (fun _ => some (.int 0)) ixD))
  (seqG (setG 6 (callF F_law_scaled (consF (callF F_law_dealt (consF (gv 2) (consF (gv 4) nilF))) (consF (gv 5) nilF))))
  (seqG (setG 7 (callF tupleD (consF (asL (compF (seqI (gv 4)) (bdName 9) [9] yesB (bin2 (gv 9) (gv 5) divD))) nilF)))
  (seqG (setG 8 (callF F_pool_for (consF (gv 4) (consF (gv 1) nilF))))
  (seqG (ifG (notB (btest (callF F_law_same (consF (gv 8) (consF (callF F_law_need (consF (gv 4) (consF (gv 1) nilF))) nilF))))) (retG (fun _ => some (.bool false))) skipG)
  (seqG (ifG (notB (btest (callF F_serves_first (consF (gv 7) (consF (bin2 (gv 8) (gv 5) divD) (consF (gv 6) nilF)))))) (retG (fun _ => some (.bool false))) skipG)
  (ifG (btest (bin2 (bin2 (gv 5) (callF F_first_pool (consF (gv 7) (consF (gv 6) nilF))) mulD) (gv 8) gtD)) (retG (fun _ => some (.bool false))) skipG))))))))
  (retG (fun _ => some (.bool true))))
def F_law_dealt_right : List PyData → Option PyData := defD 4 10 g_law_dealt_right
theorem has_law_dealt_right (T : Txt K mg) (G_law_dealt : Has P w K mg base 1 "_law_dealt" (spD K F_law_dealt)) (G_law_need : Has P w K mg base 1 "_law_need" (spD K F_law_need)) (G_law_same : Has P w K mg base 2 "_law_same" (spD K F_law_same)) (G_law_scaled : Has P w K mg base 1 "_law_scaled" (spD K F_law_scaled)) (G_first_pool : Has P w K mg base 5 "first_pool" (spD K F_first_pool)) (G_pool_for : Has P w K mg base 2 "pool_for" (spD K F_pool_for)) (G_serves_first : Has P w K mg base 5 "serves_first" (spD K F_serves_first)) : Has P w K mg base 6 "_law_dealt_right" (spD K F_law_dealt_right) := by
  refine has_pure (g := g_law_dealt_right) T.d_law_dealt_right sc_law_dealt_right (fun _ _ _ _ _ _ us hl => match us, hl with | [_, _, _, _], _ => rfl) fun fa cdv A outer s H E hr => ?_
  unfold g_law_dealt_right
  exact (psd_cons (psd_for PassesOwn.never rfl (pid_seq (pd_var 3)) (pgd_name 4 sc_law_dealt_right.nd) (psd_cons (psd_set 5 sc_law_dealt_right.nd (pd_ix (pd_var 4) pd_int))
      (psd_cons (psd_set 6 sc_law_dealt_right.nd (pd_call G_law_scaled hr (by rfl) (pad_cons (pd_call G_law_dealt hr (by rfl) (pad_cons (pd_var 2) (pad_cons (pd_var 4) pad_nil))) (pad_cons (pd_var 5) pad_nil))))
      (psd_cons (psd_set 7 sc_law_dealt_right.nd (pd_callT cd_tuple (by rfl) T.b_tuple (by decide +kernel) (pad_cons (pd_lc (own := [("_law_own", 9)]) rfl sc_law_dealt_right.nd (pid_seq (pd_var 4)) (blkOk_by (N := N_law_dealt_right) (sc := defScope s_law_dealt_right) (by decide +kernel)) (fun _ _ _ _ _ => (pgd_name 9 sc_law_dealt_right.nd)) (fun _ _ _ _ _ => ptsd_nil) (fun _ _ _ _ _ => (pd_bin od_div (pd_var 9) (pd_var 5)))) pad_nil)))
      (psd_cons (psd_set 8 sc_law_dealt_right.nd (pd_call G_pool_for hr (by rfl) (pad_cons (pd_var 4) (pad_cons (pd_var 1) pad_nil))))
      (psd_cons (psd_if (ptd_not (ptd_val (pd_call G_law_same hr (by rfl) (pad_cons (pd_var 8) (pad_cons (pd_call G_law_need hr (by rfl) (pad_cons (pd_var 4) (pad_cons (pd_var 1) pad_nil))) pad_nil))))) (psd_one (psd_ret pd_bl)) psd_nil)
      (psd_cons (psd_if (ptd_not (ptd_val (pd_call G_serves_first hr (by rfl) (pad_cons (pd_var 7) (pad_cons (pd_bin od_div (pd_var 8) (pd_var 5)) (pad_cons (pd_var 6) pad_nil)))))) (psd_one (psd_ret pd_bl)) psd_nil)
      (psd_one (psd_if (ptd_cmp od_gt (pd_bin od_mul (pd_var 5) (pd_call G_first_pool hr (by rfl) (pad_cons (pd_var 7) (pad_cons (pd_var 6) pad_nil)))) (pd_var 8)) (psd_one (psd_ret pd_bl)) psd_nil)))))))))
      (psd_one (psd_ret pd_bl)))
end
end Lb
end
section
set_option Elab.async false
set_option linter.all false
set_option maxRecDepth 100000
set_option maxHeartbeats 4000000
/-! F4: _law_take, _law_of: the box is written. -/
namespace L2
open PySem PySem.Spec PyProof.Rows StX RZ
/-- all but the object at p stands -/
def SameB (p : Addr) (H H' : Hp) : Prop := ∀ b o, H b = some o → b ≠ p → H' b = some o
theorem SameB.of {p : Addr} {H H' : Hp} (s : Same H H') : SameB p H H' := fun b o e _ => s b o e
theorem SameB.trans {p : Addr} {H H1 H2 : Hp} (a : SameB p H H1) (b : SameB p H1 H2) : SameB p H H2 := fun c o e n => b c o (a c o e n) n
theorem SameB.upd {p : Addr} {H : Hp} {u : HO} : SameB p H (upd H p u) := fun b o e n => by rw [upd_ne n]; exact e
theorem SameB.tsame {p : Addr} {H H' : Hp} {xs : List V} (s : SameB p H H') (hp : H p = some (.lst xs)) : TSame H H' := fun a ys h => by
  rcases h with h | ⟨o, h⟩
  · exact .inl (s _ _ h fun z => by rw [z, hp] at h; cases h)
  · exact .inr ⟨o, s _ _ h fun z => by rw [z, hp] at h; cases h⟩
theorem SameB.seqL {K : PySem.W.Frag} {p q : Addr} {H H' : Hp} {xs : List V} (s : SameB p H H') (n : q ≠ p) (h : SqL K H q xs) : SqL K H' q xs := by
  rcases h with (h | ⟨o, h⟩) | h
  · exact .inl (.inl (s _ _ h n))
  · exact .inl (.inr ⟨o, s _ _ h n⟩)
  · exact .inr h
theorem SameB.seqT {K : PySem.W.Frag} {p q : Addr} {H H' : Hp} {xs : List V} (s : SameB p H H') (n : q ≠ p) (h : SqT K H q xs) : SqT K H' q xs := by
  rcases h with (h | ⟨o, h⟩) | h
  · exact .inl (.inl (s _ _ h n))
  · exact .inl (.inr ⟨o, s _ _ h n⟩)
  · exact .inr h
theorem SameB.seqL2 {K : PySem.W.Frag} {p q : Addr} {H H' : Hp} {xs ys : List V} (s : SameB p H H') (hp : H p = some (.lst ys)) (n : q ≠ p ∨ xs ≠ ys) (h : SqL K H q xs) : SqL K H' q xs := by
  by_cases hq : q = p
  · rcases h with (h | ⟨o, h⟩) | h
    · rw [hq, hp] at h
      cases h
      rcases n with n | n
      · exact absurd hq n
      · exact absurd rfl n
    · rw [hq, hp] at h; cases h
    · exact .inr h
  · exact s.seqL hq h
theorem SameB.seqT2 {K : PySem.W.Frag} {p q : Addr} {H H' : Hp} {xs ys : List V} (s : SameB p H H') (hp : H p = some (.lst ys)) (h : SqT K H q xs) : SqT K H' q xs := by
  by_cases hq : q = p
  · rcases h with (h | ⟨o, h⟩) | h
    · rw [hq, hp] at h; cases h
    · rw [hq, hp] at h; cases h
    · exact .inr h
  · exact s.seqT hq h
end L2
namespace Lb
open PySem PySem.Spec PyProof.Rows L2 StX RZ NdefX LamX
def onceI (b c : Int) : Int := ((b + 48271 * c) * (39373 + c)) % 2147483647
def farI (b c : Int) : Int := onceI b c % 40009 + 7
def againI (b c : Int) : Int := ((onceI b c + c + b / 1000003) * farI b c) % 2147483629
def drawI (b c s : Int) : Int := ((againI b c * 48271 + onceI b c) % 2147483587 / 64) % s
structure Box where
  a : Int
  b : Int
  c : Int
def Box.ok (x : Box) (n : Int) : Prop := 0 ≤ x.c ∧ x.c + n < 100000
def Box.vs (x : Box) : List V := [.int x.a, .int x.b, .int x.c]
def tkV (x : Box) (s : Int) : Int := if 0 < x.a then x.a % s else drawI x.b (x.c + 1) s
def tkB (x : Box) (s : Int) : Box := if 0 < x.a then ⟨x.a / s, x.b, x.c⟩ else ⟨x.a, x.b, x.c + 1⟩
theorem tkV_lt {x : Box} {s : Int} (h : 0 < s) : 0 ≤ tkV x s ∧ tkV x s < s := by
  unfold tkV
  split
  · exact ⟨Int.emod_nonneg _ (by omega), Int.emod_lt_of_pos _ h⟩
  · unfold drawI
    exact ⟨Int.emod_nonneg _ (by omega), Int.emod_lt_of_pos _ h⟩
theorem tkB_ok {x : Box} {s n : Int} (h : x.ok (n + 1)) (hn : 0 ≤ n) : (tkB x s).ok n := by
  unfold Box.ok at *
  unfold tkB
  split <;> simp <;> omega
def g_takeR : DG := seqG (setG 2 (bin2 (callF L2.intD (consF (bin2 (bin2 (bin2 (gv 0) (fun _ => some (.int 1)) ixD) (bin2 (fun _ => some (.int 48271)) (bin2 (gv 0) (fun _ => some (.int 2)) ixD) mulD) addD) (bin2 (fun _ => some (.int 39373)) (bin2 (gv 0) (fun _ => some (.int 2)) ixD) addD) mulD) nilF)) (fun _ => some (.int 2147483647)) modD))
  (seqG (setG 3 (bin2 (bin2 (callF L2.intD (consF (gv 2) nilF)) (fun _ => some (.int 40009)) modD) (fun _ => some (.int 7)) addD))
  (seqG (setG 4 (bin2 (callF L2.intD (consF (bin2 (bin2 (bin2 (gv 2) (bin2 (gv 0) (fun _ => some (.int 2)) ixD) addD) (bin2 (bin2 (gv 0) (fun _ => some (.int 1)) ixD) (fun _ => some (.int 1000003)) divD) addD) (gv 3) mulD) nilF)) (fun _ => some (.int 2147483629)) modD))
  (retG (bin2 (callF L2.intD (consF (bin2 (bin2 (callF L2.intD (consF (bin2 (bin2 (gv 4) (fun _ => some (.int 48271)) mulD) (gv 2) addD) nilF)) (fun _ => some (.int 2147483587)) modD) (fun _ => some (.int 64)) divD) nilF)) (gv 1) modD))))
theorem mulD_r {i j : Int} (h : -(2 ^ 64) < j ∧ j < 2 ^ 64) : mulD (.int i) (.int j) = some (.int (i * j)) := by
  unfold mulD
  exact if_pos (.inr h)
theorem mulD_l {i j : Int} (h : -(2 ^ 64) < i ∧ i < 2 ^ 64) : mulD (.int i) (.int j) = some (.int (i * j)) := by
  unfold mulD
  exact if_pos (.inl h)
theorem divD_ok {i j : Int} (h : 0 < j ∧ j < 1073741824) : divD (.int i) (.int j) = some (.int (i / j)) := if_pos h
theorem modD_ok {i j : Int} (h : 0 < j) : modD (.int i) (.int j) = some (.int (i % j)) := if_pos h
theorem take_val {a b c s : Int} (hc : 0 ≤ c ∧ c < 1000000) (hs : 0 < s) {x2 x3 x4 x5 : Option PyData} : g_takeR [some (.list [.int a, .int b, .int c]), some (.int s), x2, x3, x4, x5] = some (.rt (.int (drawI b c s))) := by
  have i1 : ixD (.list [.int a, .int b, .int c]) (.int 1) = some (.int b) := rfl
  have i2 : ixD (.list [.int a, .int b, .int c]) (.int 2) = some (.int c) := rfl
  have m1 : mulD (.int 48271) (.int c) = some (.int (48271 * c)) := mulD_l ⟨by omega, by omega⟩
  have m2 : mulD (.int (b + 48271 * c)) (.int (39373 + c)) = some (.int ((b + 48271 * c) * (39373 + c))) := mulD_r ⟨by omega, by omega⟩
  have hf : -(2 ^ 64) < farI b c ∧ farI b c < 2 ^ 64 := by unfold farI; omega
  have m3 : mulD (.int (onceI b c + c + b / 1000003)) (.int (farI b c)) = some (.int ((onceI b c + c + b / 1000003) * farI b c)) := mulD_r hf
  have m4 : mulD (.int (againI b c)) (.int 48271) = some (.int (againI b c * 48271)) := mulD_r ⟨by omega, by omega⟩
  have s1 : (bin2 (callF L2.intD (consF (bin2 (bin2 (bin2 (gv 0) (fun _ => some (.int 1)) ixD) (bin2 (fun _ => some (.int 48271)) (bin2 (gv 0) (fun _ => some (.int 2)) ixD) mulD) addD) (bin2 (fun _ => some (.int 39373)) (bin2 (gv 0) (fun _ => some (.int 2)) ixD) addD) mulD) nilF)) (fun _ => some (.int 2147483647)) modD) [some (.list [.int a, .int b, .int c]), some (.int s), x2, x3, x4, x5] = some (.int (onceI b c)) := by
    simp [bin2, callF, consF, nilF, gv, i1, i2, m1, addD, m2, L2.intD, modD, onceI]
  have s2 : (bin2 (bin2 (callF L2.intD (consF (gv 2) nilF)) (fun _ => some (.int 40009)) modD) (fun _ => some (.int 7)) addD) [some (.list [.int a, .int b, .int c]), some (.int s), some (.int (onceI b c)), x3, x4, x5] = some (.int (farI b c)) := by
    simp [bin2, callF, consF, nilF, gv, addD, L2.intD, modD, farI]
  have s3 : (bin2 (callF L2.intD (consF (bin2 (bin2 (bin2 (gv 2) (bin2 (gv 0) (fun _ => some (.int 2)) ixD) addD) (bin2 (bin2 (gv 0) (fun _ => some (.int 1)) ixD) (fun _ => some (.int 1000003)) divD) addD) (gv 3) mulD) nilF)) (fun _ => some (.int 2147483629)) modD) [some (.list [.int a, .int b, .int c]), some (.int s), some (.int (onceI b c)), some (.int (farI b c)), x4, x5] = some (.int (againI b c)) := by
    simp [bin2, callF, consF, nilF, gv, i1, i2, addD, divD, m3, L2.intD, modD, againI]
  have s4 : (bin2 (callF L2.intD (consF (bin2 (bin2 (callF L2.intD (consF (bin2 (bin2 (gv 4) (fun _ => some (.int 48271)) mulD) (gv 2) addD) nilF)) (fun _ => some (.int 2147483587)) modD) (fun _ => some (.int 64)) divD) nilF)) (gv 1) modD) [some (.list [.int a, .int b, .int c]), some (.int s), some (.int (onceI b c)), some (.int (farI b c)), some (.int (againI b c)), x5] = some (.int (drawI b c s)) := by
    simp [bin2, callF, consF, nilF, gv, m4, addD, divD, L2.intD, modD, drawI, hs]
  unfold g_takeR
  simp only [seqG, setG, retG, s1, s2, s3, s4, Option.map_some, Option.bind_some, List.set]
section
variable {P : Program} {w : World} {K : PySem.W.Frag} {mg : Str → Option Value} {base : Heap}
abbrev N_law_take : List Str := ["_law_box_here", "_law_size_so", "_law_once", "_law_far", "_law_again", "_law_drawn_so"]
theorem sc_law_take : FnScope N_law_take ["_law_box_here", "_law_size_so"] (defScope s_law_take) := ⟨rfl, rfl, rfl, by decide +kernel, rfl, by decide +kernel, by decide +kernel⟩
def spTake (K : PySem.W.Frag) : Sp := fun vs H Q _ => ∃ (pb : Addr) (x : Box) (s : Int), vs = [.ref pb, .int s] ∧ H pb = some (.lst x.vs) ∧ (0 < s ∧ s < 1073741824) ∧ x.ok 1 ∧ ∀ H', SameB pb H H' → H' pb = some (.lst (tkB x s).vs) → Q (.int (tkV x s)) H'
theorem box_data {H : Hp} {pb : Addr} {x : Box} (h : H pb = some (.lst x.vs)) : Dp K H (.ref pb) (.list [.int x.a, .int x.b, .int x.c]) := .lst (SqL.of h) (.cons (.int _) (.cons (.int _) (.cons (.int _) .nil)))
theorem has_law_take (T : Txt K mg) : Has P w K mg base 1 "_law_take" (spTake K) := by
  refine has_of T.d_law_take sc_law_take (fun _ _ _ _ _ _ us hl => match us, hl with | [_, _], _ => rfl) (fun vs H Q E ⟨_, _, _, h, _⟩ => by rw [h]; rfl) fun fa cdv A outer s0 H vs Q E hr ⟨pb, x, s, hvs, hb, hs, ok, q⟩ => ?_
  subst hvs
  refine ⟨_, pss_cons (ps_if (ptd_cmp od_gt (pd_ix (pd_var 0) pd_int) pd_int)
      (pss_cons (ps_set (i := 5) sc_law_take.nd rfl (.inl rfl) (pd_bin od_mod (pd_callT cd_int (by rfl) T.b_int (by decide +kernel) (pad_cons (pd_ix (pd_var 0) pd_int) pad_nil)) (pd_var 1)))
      (pss_cons (ps_asg (pd_bin od_div (pd_ix (pd_var 0) pd_int) (pd_var 1)) (pg_sub (pv 0) pe_int set_list))
      (pss_one (ps_ret (pv 5))))) pss_nil)
    (pss_cons (ps_asg (pd_bin od_add (pd_ix (pd_var 0) pd_int) pd_int) (pg_sub (pv 0) pe_int set_list))
    (psd_cons (psd_set 2 sc_law_take.nd (pd_bin od_mod (pd_callT cd_int (by rfl) T.b_int (by decide +kernel) (pad_cons (pd_bin od_mul (pd_bin od_add (pd_ix (pd_var 0) pd_int) (pd_bin od_mul pd_int (pd_ix (pd_var 0) pd_int))) (pd_bin od_add pd_int (pd_ix (pd_var 0) pd_int))) pad_nil)) pd_int))
    (psd_cons (psd_set 3 sc_law_take.nd (pd_bin od_add (pd_bin od_mod (pd_callT cd_int (by rfl) T.b_int (by decide +kernel) (pad_cons (pd_var 2) pad_nil)) pd_int) pd_int))
    (psd_cons (psd_set 4 sc_law_take.nd (pd_bin od_mod (pd_callT cd_int (by rfl) T.b_int (by decide +kernel) (pad_cons (pd_bin od_mul (pd_bin od_add (pd_bin od_add (pd_var 2) (pd_ix (pd_var 0) pd_int)) (pd_bin od_div (pd_ix (pd_var 0) pd_int) pd_int)) (pd_var 3)) pad_nil)) pd_int))
    (psd_one (psd_ret (pd_bin od_mod (pd_callT cd_int (by rfl) T.b_int (by decide +kernel) (pad_cons (pd_bin od_div (pd_bin od_mod (pd_callT cd_int (by rfl) T.b_int (by decide +kernel) (pad_cons (pd_bin od_add (pd_bin od_mul (pd_var 4) pd_int) (pd_var 2)) pad_nil)) pd_int) pd_int) pad_nil)) (pd_var 1)))))))), ?_⟩
  have sd0 : SD K H (L2.start N_law_take [.ref pb, .int s]) [some (.list [.int x.a, .int x.b, .int x.c]), some (.int s), none, none, none, none] := .consS (box_data hb) (.consS (.int _) (.consN (.consN (.consN (.consN .nil)))))
  have i0 : ixD (.list [.int x.a, .int x.b, .int x.c]) (.int 0) = some (.int x.a) := rfl
  have i2 : ixD (.list [.int x.a, .int x.b, .int x.c]) (.int 2) = some (.int x.c) := rfl
  refine ⟨_, decide (0 < x.a), sd0, by simp [btest, bin2, gv, i0, gtD, asB], fun H1 s1 => ?_⟩
  have b1 := s1 _ _ hb
  by_cases ha : 0 < x.a
  · rw [decide_eq_true ha]
    refine iteT ⟨_, .int (x.a % s), sd0.same s1, by simp [bin2, callF, consF, nilF, gv, i0, L2.intD, modD, hs.1], fun v H2 s2 d2 => ?_⟩
    cases d2.int_inv
    have b2 := s2 _ _ b1
    refine ⟨[some (.list [.int x.a, .int x.b, .int x.c]), some (.int s), none, none, none, none], .int (x.a / s), .consS (box_data b2) (.consS (.int _) (.consN (.consN (.consN (.consN .nil))))), by simp [bin2, gv, i0, divD, hs.1, hs.2], fun v H3 s3 d3 => ?_⟩
    cases d3.int_inv
    have b3 := s3 _ _ b2
    refine ⟨_, rfl, pb, _, 0, 0, rfl, rfl, b3, rfl, _, rfl, ?_⟩
    have := q (upd H3 pb (.lst [.int (x.a / s), .int x.b, .int x.c])) ((SameB.of (s1.trans (s2.trans s3))).trans SameB.upd) (by unfold tkB; rw [if_pos ha]; exact upd_same)
    unfold tkV at this
    rw [if_pos ha] at this
    exact this
  · rw [decide_eq_false ha]
    refine iteF ⟨_, .int (x.c + 1), sd0.same s1, by simp [bin2, gv, i2, addD], fun v H2 s2 d2 => ?_⟩
    cases d2.int_inv
    have b2 := s2 _ _ b1
    refine ⟨_, rfl, pb, _, 2, 2, rfl, rfl, b2, rfl, ?_⟩
    have b3 : (upd H2 pb (.lst [.int x.a, .int x.b, .int (x.c + 1)])) pb = some (.lst (tkB x s).vs) := by unfold tkB; rw [if_neg ha]; exact upd_same
    have okc : 0 ≤ x.c + 1 ∧ x.c + 1 < 1000000 := by unfold Box.ok at ok; omega
    refine ⟨[some (.list [.int x.a, .int x.b, .int (x.c + 1)]), some (.int s), none, none, none, none], _, .consS (.lst (SqL.of upd_same) (.cons (.int _) (.cons (.int _) (.cons (.int _) .nil)))) (.consS (.int _) (.consN (.consN (.consN (.consN .nil))))), take_val okc hs.1, ?_⟩
    intro v H3 s3 d3
    cases d3.int_inv
    have := q H3 (((SameB.of (s1.trans s2)).trans SameB.upd).trans (SameB.of s3)) (s3 _ _ b3)
    unfold tkV at this
    rw [if_neg ha] at this
    exact this
end
end Lb
end
section
set_option Elab.async false
set_option linter.all false
set_option maxRecDepth 100000
set_option maxHeartbeats 4000000
/-! F5: _law_of, _law_box, _law_cells. -/
namespace L2
open PySem PySem.Spec PyProof.Rows StX RZ
def powD : PyData → PyData → Option PyData
  | .int i, .int j => if 0 ≤ j ∧ j ≤ 1000000 ∧ i.natAbs < 2 ^ 64 then some (.int (i ^ j.toNat)) else none
  | _, _ => none
theorem od_pow {X : Cx} : OD X (binaryOp .Pow) powD := od_int op_pow fun x y d h => by
  cases x <;> cases y <;> simp only [powD, reduceCtorEq] at h
  split at h
  · rename_i c
    cases h
    exact ⟨_, _, rfl, rfl, c, fun _ => .int _⟩
  · cases h
end L2
namespace Lb
open PySem PySem.Spec PyProof.Rows L2 StX RZ NdefX LamX
section
variable {P : Program} {w : World} {K : PySem.W.Frag} {mg : Str → Option Value} {base : Heap}
abbrev N_law_of : List Str := ["_law_box_here", "_law_goods_so"]
theorem sc_law_of : FnScope N_law_of ["_law_box_here", "_law_goods_so"] (defScope s_law_of) := ⟨rfl, rfl, rfl, by decide +kernel, rfl, by decide +kernel, by decide +kernel⟩
def spOf (K : PySem.W.Frag) : Sp := fun vs H Q _ => ∃ (pb q : Addr) (x : Box) (xs : List V) (ds : List PyData), vs = [.ref pb, .ref q] ∧ H pb = some (.lst x.vs) ∧ ((SqL K H q xs ∧ (q ≠ pb ∨ xs ≠ x.vs)) ∨ SqT K H q xs) ∧ DpAll K H xs ds ∧ nlAll ds = true ∧ 0 < ds.length ∧ ds.length ≤ 1000 ∧ x.ok 1 ∧
  ∀ v d H', SameB pb H H' → H' pb = some (.lst (tkB x ds.length).vs) → ds[(tkV x ds.length).toNat]? = some d → Dp K H' v d → Q v H'
theorem atI_pos {α : Type} {xs : List α} {j : Int} (h0 : 0 ≤ j) (h1 : j < xs.length) : atI xs j = xs[j.toNat]? := by
  unfold atI ixN
  rw [if_pos h0, if_pos h1]
  rfl
theorem has_law_of (T : Txt K mg) (G_law_take : Has P w K mg base 1 "_law_take" (spTake K)) : Has P w K mg base 2 "_law_of" (spOf K) := by
  refine has_of T.d_law_of sc_law_of (fun _ _ _ _ _ _ us hl => match us, hl with | [_, _], _ => rfl) (fun vs H Q E ⟨_, _, _, _, _, h, _⟩ => by rw [h]; rfl) fun fa cdv A outer s0 H vs Q E hr ⟨pb, q, x, xs, ds, hvs, hb, hx, hd, hn, h0, h1, ok, k⟩ => ?_
  subst hvs
  refine ⟨_, pss_one (ps_ret (pe_ix (ix_list.or ix_tup) (pv 1) (pe_has G_law_take hr (by rfl) (pa_cons (pv 0) (pa_cons (pd_callB cd_len (by rfl) T.b_len (by decide +kernel) (pad_cons (pd_var 1) pad_nil)) pa_nil))) (fun _ _ => rfl))), ?_⟩
  have key : ∃ d0, Dp K H (.ref q) d0 ∧ seqD d0 = some ds := by
    rcases hx with hx | hx
    · exact ⟨.list ds, .lst hx.1 hd, rfl⟩
    · exact ⟨.tuple ds, .tup hx hd, rfl⟩
  obtain ⟨d0, hd0, hs0⟩ := key
  refine ⟨_, rfl, _, rfl, [none, some d0], .int (ds.length : Nat), .consN (.consS hd0 .nil), by simp [callF, consF, nilF, gv, lenD, hs0], fun v1 H1 s1 d1 => ?_⟩
  cases d1.int_inv
  have hl0 : (0 : Int) < (ds.length : Nat) := by omega
  refine ⟨pb, x, _, rfl, s1 _ _ hb, ⟨hl0, by omega⟩, ok, fun H2 sb hb2 => ?_⟩
  obtain ⟨t0, t1⟩ := tkV_lt (x := x) hl0
  have hi : (tkV x (ds.length : Nat)).toNat < ds.length := by omega
  have hat := List.getElem?_eq_getElem hi
  obtain ⟨v, hv, hdv⟩ := hd.get hat
  have hxl := hd.length
  have hai : atI xs (tkV x (ds.length : Nat)) = some v := by rw [atI_pos t0 (by omega)]; exact hv
  have s12 : SameB pb H H2 := (SameB.of s1).trans sb
  have hdv2 : Dp K H2 v ds[(tkV x (ds.length : Nat)).toNat] := Dp.tsame (s12.tsame hb) _ _ (nl_mem hn (List.getElem_mem hi)) hdv
  have fin := k v _ H2 s12 hb2 hat hdv2
  rcases hx with hx | hx
  · exact .inl ⟨q, xs, _, v, rfl, rfl, s12.seqL2 hb hx.2 hx.1, hai, fin⟩
  · exact .inr ⟨q, xs, _, v, rfl, rfl, s12.seqT2 hb hx, hai, fin⟩
/-! ### _law_box -/
abbrev N_law_box : List Str := ["_law_script", "_law_k", "_law_cell"]
theorem sc_law_box : FnScope N_law_box ["_law_script", "_law_k"] (defScope s_law_box) := ⟨rfl, rfl, rfl, by decide +kernel, rfl, by decide +kernel, by decide +kernel⟩
def spBox (K : PySem.W.Frag) : Sp := fun vs H Q _ => ∃ (q : Addr) (ns : List Int) (k : Nat), vs = [.ref q, .int k] ∧ SqL K H q (ns.map V.int) ∧ k < ns.length ∧ ns.length ≤ 1000 ∧ ∀ L H' x, x.c = 0 → H L = none → Same H H' → H' L = some (.lst (Box.vs x)) → Q (.ref L) H'
theorem has_law_box (T : Txt K mg) : Has P w K mg base 1 "_law_box" (spBox K) := by
  refine has_of T.d_law_box sc_law_box (fun _ _ _ _ _ _ us hl => match us, hl with | [_, _], _ => rfl) (fun vs H Q E ⟨_, _, _, h, _⟩ => by rw [h]; rfl) fun fa cdv A outer s0 H vs Q E hr ⟨q, ns, k, hvs, hq, hk, hl, fin⟩ => ?_
  subst hvs
  refine ⟨_, pss_cons (ps_set (i := 2) sc_law_box.nd rfl (.inl rfl) (pd_if (ptd_cmp od_lt (pd_var 1) (pd_callB cd_len (by rfl) T.b_len (by decide +kernel) (pad_cons (pd_var 0) pad_nil))) (pd_ix (pd_var 0) (pd_var 1)) pd_int))
    (pss_one (ps_ret (pe_lst (pa_cons (pd_bin od_mul (pd_callB cd_abs (by rfl) T.b_abs (by decide +kernel) (pad_cons (pd_var 2) pad_nil)) (pd_callT cd_int (by rfl) T.b_int (by decide +kernel) (pad_cons (pd_cmp od_ge (pd_callB cd_abs (by rfl) T.b_abs (by decide +kernel) (pad_cons (pd_var 2) pad_nil)) (pd_bin od_pow pd_int pd_int)) pad_nil)))
      (pa_cons (pd_bin od_add (pd_bin od_add (pd_bin od_mod (pd_callT cd_int (by rfl) T.b_int (by decide +kernel) (pad_cons (pd_var 2) pad_nil)) pd_int) (pd_bin od_mul pd_int (pd_var 1))) pd_int) (pa_cons pe_int pa_nil)))))), ?_⟩
  have hi : atI (ns.map PyData.int) (k : Nat) = some (.int ns[k]) := by
    rw [atI_pos (by omega) (by simp; omega)]
    simp [hk]
  have hc : ((k : Nat) : Int) < (ns.length : Nat) := by omega
  refine ⟨[some (.list (ns.map .int)), some (.int (k : Nat)), none], .int ns[k], .consS (.lst hq (DpAll.of_ints _)) (.consS (.int _) (.consN .nil)), ?_, fun v H1 s1 d1 => ?_⟩
  · simp [ifD, btest, bin2, gv, callF, consF, nilF, lenD, seqD, ltD, asB, ixD, hi, hk]
  cases d1.int_inv
  generalize ns[k] = c
  have p18 : powD (.int 10) (.int 18) = some (.int 1000000000000000000) := by rfl
  have e1 : ∃ A, (bin2 (callF absD (consF (gv 2) nilF)) (callF L2.intD (consF (bin2 (callF absD (consF (gv 2) nilF)) (bin2 (fun _ => some (.int 10)) (fun _ => some (.int 18)) powD) geD) nilF)) mulD) [none, none, some (.int c)] = some (.int A) := by
    by_cases hge : (1000000000000000000 : Int) ≤ (if c < 0 then -c else c)
    · refine ⟨(if c < 0 then -c else c) * 1, ?_⟩
      simp [bin2, callF, consF, nilF, gv, absD, p18, geD, L2.intD, hge]
      exact mulD_r (i := if c < 0 then -c else c) (j := 1) ⟨by omega, by omega⟩ |>.trans (by simp)
    · refine ⟨(if c < 0 then -c else c) * 0, ?_⟩
      simp [bin2, callF, consF, nilF, gv, absD, p18, geD, L2.intD, hge]
      exact mulD_r (i := if c < 0 then -c else c) (j := 0) ⟨by omega, by omega⟩ |>.trans (by simp)
  obtain ⟨A1, e1⟩ := e1
  have m1 : mulD (.int 39373) (.int (k : Nat)) = some (.int (39373 * (k : Nat))) := mulD_l ⟨by omega, by omega⟩
  have e2 : (bin2 (bin2 (bin2 (callF L2.intD (consF (gv 2) nilF)) (fun _ => some (.int 2305843009213693951)) modD) (bin2 (fun _ => some (.int 39373)) (gv 1) mulD) addD) (fun _ => some (.int 92766)) addD) [none, some (.int (k : Nat)), some (.int c)] = some (.int (c % 2305843009213693951 + 39373 * (k : Nat) + 92766)) := by
    simp [bin2, callF, consF, nilF, gv, L2.intD, modD, m1, addD]
  refine ⟨_, _, .consN (.consN (.consS (.int c) .nil)), e1, fun v2 H2 s2 d2 => ?_⟩
  cases d2.int_inv
  refine ⟨_, _, .consN (.consS (.int (k : Nat)) (.consS (.int c) .nil)), e2, fun v3 H3 s3 d3 => ?_⟩
  cases d3.int_inv
  refine ⟨by show 3 ≤ sizeLine; decide, fun L hL => ?_⟩
  have s13 := (s1.trans s2).trans s3
  exact fin L _ ⟨A1, _, 0⟩ rfl (s13.free hL) (s13.trans (same_new hL)) upd_same
end
end Lb
end
section
set_option Elab.async false
set_option linter.all false
set_option maxRecDepth 100000
set_option maxHeartbeats 4000000
/-! F6: _law_cells. -/
namespace Lb
open PySem PySem.Spec PyProof.Rows L2 StX RZ NdefX LamX
section
variable {P : Program} {w : World} {K : PySem.W.Frag} {mg : Str → Option Value} {base : Heap}
abbrev N_law_cells : List Str := ["_law_script", "_law_top_so", "_law_cells_so", "_law_k", "_law_cell", "_law_at_so"]
theorem sc_law_cells : FnScope N_law_cells ["_law_script", "_law_top_so"] (defScope s_law_cells) := ⟨rfl, rfl, rfl, by decide +kernel, rfl, by decide +kernel, by decide +kernel⟩
def spCells (K : PySem.W.Frag) : Sp := fun vs H Q _ => ∃ (q : Addr) (ns : List Int), vs = [.ref q, .int 3] ∧ SqL K H q (ns.map V.int) ∧ ns.length ≤ 63 ∧ ∀ (L : Addr) (H' : Hp) (ms : List Int), 1 ≤ ms.length → ms.length ≤ 3 → Same H H' → H L = none → H' L = some (.lst (ms.map V.int)) → Q (.ref L) H'
theorem cutV_map (ns : List Int) (lo hi : Option Int) : ∃ ms : List Int, cutV (ns.map V.int) lo hi = ms.map V.int ∧ ms = (ns.drop (HT.sIx ns.length 0 lo)).take (HT.sIx ns.length ns.length hi - HT.sIx ns.length 0 lo) := by
  refine ⟨_, ?_, rfl⟩
  unfold cutV
  rw [List.length_map, List.map_take, List.map_drop]
theorem has_law_cells (T : Txt K mg) : Has P w K mg base 1 "_law_cells" (spCells K) := by
  refine has_of T.d_law_cells sc_law_cells (fun _ _ _ _ _ _ us hl => match us, hl with | [_, _], _ => rfl) (fun vs H Q E ⟨_, _, h, _⟩ => by rw [h]; rfl) fun fa cdv A outer s0 H vs Q E hr ⟨q, ns, hvs, hq, hl, fin⟩ => ?_
  subst hvs
  refine ⟨_, pss_cons (ps_set (i := 2) sc_law_cells.nd rfl (.inl rfl) (pe_orT (pe_callTy call_list_of (by rfl) T.b_list (by decide +kernel) (pa_cons (pe_slice sl_list (pv 0) po_none (po_some (pv 1))) pa_nil)) (pe_one (pe_lst (pa_cons pe_int pa_nil)))))
    (pss_cons (ps_for PassesOwn.never rfl (pi_enum (by rfl) T.b_enumerate (pa_cons (pe_slice sl_list (pv 0) (po_some (pv 1)) (po_some pe_int)) pa_nil)) (pg_tup rfl (pgs_cons (pg_name (i := 3) sc_law_cells.nd rfl (.inl rfl)) (pgs_cons (pg_name (i := 4) sc_law_cells.nd rfl (.inl rfl)) pgs_nil)))
      (pss_cons (ps_set (i := 5) sc_law_cells.nd rfl (.inl rfl) (pd_bin od_mod (pd_callT cd_int (by rfl) T.b_int (by decide +kernel) (pad_cons (pd_var 3) pad_nil)) (pd_var 1)))
      (pss_one (ps_asg (pe_op op_add (pe_ix ix_list (pv 2) (pv 5) (fun _ _ => rfl)) (pe_op op_mul (pv 4) (pe_op op_add (pv 3) pe_int))) (pg_sub (pv 2) (pv 5) set_list)))))
    (pss_one (ps_ret (pv 2)))), ?_⟩
  -- the cells taken, at L
  have key : ∀ C : V → Hp → Prop, (∀ (L : Addr) (H1 : Hp) (ms : List Int), 1 ≤ ms.length → ms.length ≤ 3 → (3 < ns.length → ms.length = 3) → Same H H1 → H L = none → H1 L = some (.lst (ms.map V.int)) → C (.ref L) H1) →
      tOrT K (tCB (fun xs H Q => ∃ p ys, xs = [V.ref p] ∧ (SqL K H p ys ∨ SqT K H p ys) ∧ ∀ l, H l = none → Q (.ref l) (upd H l (.lst ys))) (tCons (tSl (rSlL K) (tVar 0) tNoPart (tPart (tVar 1))) tNil)) (tLst (tCons (tC (.int 0)) tNil)) [some (.ref q), some (.int 3), none, none, none, none] H C := by
    intro C hC
    obtain ⟨ms, hms, hme⟩ := cutV_map ns none (some 3)
    have e0 : HT.sIx ns.length 0 none = 0 := rfl
    have e3 : HT.sIx ns.length ns.length (some 3) = min 3 ns.length := HT.sIx_nat _ _ 3
    rw [e0, e3, List.drop_zero, Nat.sub_zero] at hme
    have hml : ms.length = min 3 ns.length := by rw [hme, List.length_take]; omega
    refine ⟨_, rfl, _, rfl, 3, rfl, q, _, rfl, hq, fun p hp => ?_⟩
    rw [hms]
    refine ⟨p, _, rfl, .inl (SqL.of upd_same), fun l hl' => ?_⟩
    have s1 := same_new (o := .lst (ms.map V.int)) hp
    have s2 := same_new (o := .lst (ms.map V.int)) hl'
    have s12 := s1.trans s2
    refine ⟨!(ms.map V.int).isEmpty, .inl ⟨_, SqL.of upd_same, rfl⟩, ?_⟩
    cases hms0 : ms with
    | cons m r =>
      rw [← hms0]
      have : (!(ms.map V.int).isEmpty) = true := by rw [hms0]; rfl
      rw [this]
      refine iteT (hC l _ ms (by rw [hms0]; simp) (by omega) (fun h => by omega) (s1.trans s2) (s1.free hl') upd_same)
    | nil =>
      rw [hms0] at s12
      refine iteF ⟨by show 1 ≤ sizeLine; decide, fun L hL => ?_⟩
      have s3 := same_new (o := .lst [V.int 0]) hL
      refine hC L _ [0] (by simp) (by simp) (fun h => ?_) (s12.trans s3) (s12.free hL) upd_same
      rw [hms0] at hml
      simp at hml
      omega
  refine key _ fun L H1 ms h1 h3 h33 s1 hL0 hLl => ?_
  obtain ⟨ts, hts, hte⟩ := cutV_map ns (some 3) (some 63)
  have e3 : HT.sIx ns.length 0 (some 3) = min 3 ns.length := HT.sIx_nat _ _ 3
  have e63 : HT.sIx ns.length ns.length (some 63) = min 63 ns.length := HT.sIx_nat _ _ 63
  rw [e3, e63] at hte
  have htl : ts.length ≤ 60 ∧ (0 < ts.length → 3 < ns.length) := by
    rw [hte, List.length_take, List.length_drop]
    omega
  refine ⟨_, rfl, _, rfl, 3, rfl, 63, rfl, q, _, rfl, s1.seq hq, fun a ha => ?_⟩
  rw [hts]
  have s2 := same_new (o := .lst (ts.map V.int)) ha
  have hLa : L ≠ a := fun z => by rw [z, ha] at hLl; cases hLl
  refine ⟨a, _, rfl, SqL.of upd_same, for_it walk_enum (fun i σ' H' => ∃ (y3 y4 y5 : Option V) (cs : List Int), σ' = [some (.ref q), some (.int 3), some (.ref L), y3, y4, y5] ∧ Same H H' ∧ H' L = some (.lst (cs.map V.int)) ∧ cs.length = ms.length ∧ H' a = some (.lst (ts.map V.int)))
    ⟨none, none, none, ms, rfl, s1.trans s2, s2 _ _ hLl, rfl, upd_same⟩ (fun i σ' H' _ ⟨_, _, _, _, _, _, _, _, z⟩ => SqL.of z) ?turn ?done⟩
  case done =>
    rintro σ' H' ⟨y3, y4, y5, cs, rfl, p1, p2, p3, p4⟩
    exact ⟨_, rfl, fin L H' cs (by omega) (by omega) p1 hL0 p2⟩
  case turn =>
    rintro i x σ' H' H2 hi ⟨y3, y4, y5, cs, rfl, p1, p2, p3, p4⟩ ⟨T0, x1, y1, rfl, hT, rfl, hx1, hy1⟩
    cases hx1
    rw [List.length_map] at hi
    have hm3 : ms.length = 3 := h33 (htl.2 (by omega))
    have hy : (ts.map V.int)[i]? = some y1 := hy1
    rw [List.getElem?_map, List.getElem?_eq_getElem hi] at hy
    cases hy
    have sT := same_new (o := .tup [V.int (i : Nat), V.int ts[i]]) hT
    refine ⟨T0, _, rfl, .inl (.inl upd_same), rfl, _, _, rfl, _, _, rfl, rfl, ?_⟩
    refine ⟨[none, some (.int 3), none, some (.int (i : Nat)), none, none], .int ((i : Nat) % 3), .consN (.consS (.int _) (.consN (.consS (.int _) (.consN (.consN .nil))))), by simp [bin2, callF, consF, nilF, gv, L2.intD, modD], fun v H3 s3 d3 => ?_⟩
    cases d3.int_inv
    have s23 := sT.trans s3
    have p2' := s23 _ _ p2
    have hj0 : (0 : Int) ≤ ((i : Nat) : Int) % 3 := Int.emod_nonneg _ (by decide)
    have hj1 : ((i : Nat) : Int) % 3 < 3 := Int.emod_lt_of_pos _ (by decide)
    have hjl : (((i : Nat) : Int) % 3).toNat < cs.length := by omega
    have hat : atI (cs.map V.int) (((i : Nat) : Int) % 3) = some (.int cs[(((i : Nat) : Int) % 3).toNat]) := by
      rw [atI_pos hj0 (by rw [List.length_map]; omega), List.getElem?_map, List.getElem?_eq_getElem hjl]
      rfl
    have hix : ixN (cs.map V.int).length (((i : Nat) : Int) % 3) = some (((i : Nat) : Int) % 3).toNat := by
      unfold ixN
      rw [if_pos hj0, if_pos (by rw [List.length_map]; omega)]
    have hi60 : ((i : Nat) : Int) < 100 := by omega
    refine ⟨_, rfl, _, rfl, L, _, _, _, rfl, rfl, SqL.of p2', hat, _, rfl, _, rfl, (i : Nat), 2, rfl, rfl, ts[i], (i : Nat) + 2, rfl, rfl, .inr ⟨by omega, by omega⟩, cs[(((i : Nat) : Int) % 3).toNat], ts[i] * ((i : Nat) + 2), rfl, rfl, ?_⟩
    refine ⟨_, rfl, _, rfl, L, _, _, _, rfl, rfl, p2', hix, _, _, _, cs.set (((i : Nat) : Int) % 3).toNat (cs[(((i : Nat) : Int) % 3).toNat] + ts[i] * ((i : Nat) + 2)), rfl, same_mut (p1.trans s23) hL0, ?_, by rw [List.length_set]; exact p3, by rw [upd_ne (Ne.symm hLa)]; exact s23 _ _ p4⟩
    rw [upd_same, List.map_set]
end
end Lb
end
section
set_option Elab.async false
set_option linter.all false
set_option maxRecDepth 100000
set_option maxHeartbeats 4000000
/-! F7: _law_row. -/
namespace L2
open PySem PySem.Spec PyProof.Rows StX RZ
theorem SameB.free {p a : Addr} {H H' : Hp} {o : HO} (s : SameB p H H') (hp : H' p = some o) (h : H' a = none) : H a = none := by
  cases z : H a with
  | none => rfl
  | some u =>
    by_cases hb : a = p
    · rw [hb, hp] at h; cases h
    · rw [s a u z hb] at h; cases h
end L2
namespace Lb
open PySem PySem.Spec PyProof.Rows L2 StX RZ NdefX LamX
def sumO (out : DkI) : Int := (out.map (·.2)).sum
/-- rows that a budget allows: what is held after each deed -/
inductive RowTo (ch : List Int) (B : Int) : List Deed → DkI → Int → Prop
  | nil : RowTo ch B [] [] 0
  | ask {row : List Deed} {out : DkI} {many n : Int} (h : RowTo ch B row out many) (hn : n ∈ ch) (hb : sumO out + n ≤ B) : RowTo ch B (row ++ [(true, n)]) (out ++ [(many, n)]) (many + 1)
  | back {row : List Deed} {out : DkI} {many k n : Int} (h : RowTo ch B row out many) (hk : (k, n) ∈ out) : RowTo ch B (row ++ [(false, k)]) (out.filter fun p => decide (p.1 ≠ k)) many
theorem RowTo.keys {ch : List Int} {B : Int} {row : List Deed} {out : DkI} {many : Int} (h : RowTo ch B row out many) : (∀ p ∈ out, p.1 < many) ∧ (out.map (·.1)).Nodup := by
  induction h with
  | nil => exact ⟨(fun p hp => nomatch hp), by simp⟩
  | ask h hn hb ih =>
    refine ⟨fun p hp => ?_, ?_⟩
    · rcases List.mem_append.mp hp with z | z
      · have := ih.1 p z
        omega
      · rw [List.mem_singleton.mp z]
        show _ < _ + 1
        omega
    · rw [List.map_append, List.nodup_append]
      refine ⟨ih.2, by simp, fun a ha b hb' => ?_⟩
      obtain ⟨p, hp, rfl⟩ := List.mem_map.mp ha
      simp at hb'
      have := ih.1 p hp
      omega
  | back h hk ih =>
    exact ⟨fun p hp => ih.1 p (List.mem_filter.mp hp).1, ih.2.sublist (List.Sublist.map _ List.filter_sublist)⟩
theorem putI_new {out : DkI} {many n : Int} (h : ∀ p ∈ out, p.1 < many) : putI out many n = out ++ [(many, n)] := by
  unfold putI
  rw [if_neg]
  intro z
  obtain ⟨p, hp, e⟩ := List.any_eq_true.mp z
  have := h p hp
  have e2 := of_decide_eq_true e
  omega
/-- where _law_row stands -/
structure RowS (K : PySem.W.Frag) (H0 : Hp) (pb : Addr) (x : Box) (pr po : Addr) (row : List Deed) (out : DkI) (H : Hp) : Prop where
  sb : SameB pb H0 H
  box : H pb = some (.lst x.vs)
  row : ∃ rv, H pr = some (.lst rv) ∧ DpAll K H rv (row.map encD)
  out : ∃ kk, H po = some (.dK kk) ∧ KvD K H kk (encI out)
  rb : pr ≠ pb
  ob : po ≠ pb
  ro : pr ≠ po
  r0 : H0 pr = none
  o0 : H0 po = none
section
variable {K : PySem.W.Frag} {H0 H H' : Hp} {pb pr po : Addr} {x x' : Box} {row : List Deed} {out : DkI} {rv : List V} {kk : List (Key × V)} {v : V}
theorem RowS.take (S : RowS K H0 pb x pr po row out H) (s : SameB pb H H') (hb : H' pb = some (.lst x'.vs)) : RowS K H0 pb x' pr po row out H' := by
  obtain ⟨s0, b, ⟨r1, r2, r3⟩, ⟨k1, k2, k3⟩, n1, n2, n3, n4, n5⟩ := S
  have t := s.tsame b
  exact ⟨s0.trans s, hb, ⟨r1, s _ _ r2 n1, DpAll.tsame t _ _ (nlAll_D _) r3⟩, ⟨k1, s _ _ k2 n2, KvD.tsame t (nl_encI _) k3⟩, n1, n2, n3, n4, n5⟩
theorem RowS.mv (S : RowS K H0 pb x pr po row out H) (s : Same H H') : RowS K H0 pb x pr po row out H' := S.take (SameB.of s) (s _ _ S.box)
theorem RowS.radd {d : Deed} (S : RowS K H0 pb x pr po row out H) (e : H pr = some (.lst rv)) (hd : Dp K H v (encD d)) : RowS K H0 pb x pr po (row ++ [d]) out (upd H pr (.lst (rv ++ [v]))) := by
  obtain ⟨s0, b, ⟨r1, r2, r3⟩, ⟨k1, k2, k3⟩, n1, n2, n3, n4, n5⟩ := S
  rw [e] at r2
  cases r2
  have t := TSame.lst (u := .lst (rv ++ [v])) e
  refine ⟨fun b o z n => ?_, by rw [upd_ne (Ne.symm n1)]; exact b, ⟨_, upd_same, ?_⟩, ⟨k1, by rw [upd_ne (Ne.symm n3)]; exact k2, KvD.tsame t (nl_encI _) k3⟩, n1, n2, n3, n4, n5⟩
  · rw [upd_ne (ne_of_none z n4)]
    exact s0 b o z n
  · rw [List.map_append]
    exact DpAll.snoc (DpAll.tsame t _ _ (nlAll_D _) r3) (Dp.tsame t _ _ (by rfl) hd)
theorem RowS.put {k n : Int} (S : RowS K H0 pb x pr po row out H) (e : H po = some (.dK kk)) : RowS K H0 pb x pr po row (putI out k n) (upd H po (.dK (putK kk (.inl k) (.int n)))) := by
  obtain ⟨s0, b, ⟨r1, r2, r3⟩, ⟨k1, k2, k3⟩, n1, n2, n3, n4, n5⟩ := S
  rw [e] at k2
  cases k2
  have t : ExtS H (upd H po (.dK (putK kk (.inl k) (.int n)))) := ExtS.upd fun o z => by rw [e] at z; cases z; exact id
  refine ⟨fun b o z n => ?_, by rw [upd_ne (Ne.symm n2)]; exact b, ⟨r1, by rw [upd_ne n3]; exact r2, DpAll.extS t _ _ r3⟩, ⟨_, upd_same, ?_⟩, n1, n2, n3, n4, n5⟩
  · rw [upd_ne (ne_of_none z n5)]
    exact s0 b o z n
  · rw [← put_enc]
    exact (k3.put (.int n)).extS t
theorem RowS.newOut {po' : Addr} {out' : DkI} (S : RowS K H0 pb x pr po row out H) (e : H po' = none) (k : ∀ H', KvD K H' kk (encI out')) : RowS K H0 pb x pr po' row out' (upd H po' (.dK kk)) := by
  obtain ⟨s0, b, ⟨r1, r2, r3⟩, _, n1, n2, n3, n4, n5⟩ := S
  have s := same_new (o := .dK kk) e
  exact ⟨s0.trans (SameB.of s), s _ _ b, ⟨r1, s _ _ r2, DpAll.same s _ _ r3⟩, ⟨_, upd_same, k _⟩, n1, (fun z => by rw [z, b] at e; cases e), (fun z => by rw [← z, r2] at e; cases e), n4, s0.free b e⟩
end
theorem kvd_ints {K : PySem.W.Frag} {H : Hp} : ∀ {kk : List (Key × V)} {out : DkI}, KvD K H kk (encI out) → kk = out.map fun p => (.inl p.1, .int p.2)
  | _, [], h => by cases h; rfl
  | _, p :: out, h => by
    cases h with
    | cons h t =>
      rw [h.int_inv, kvd_ints t]; rfl
theorem kvd_of {K : PySem.W.Frag} {H : Hp} : ∀ out : DkI, KvD K H (out.map fun p => (.inl p.1, .int p.2)) (encI out)
  | [] => .nil
  | p :: out => .cons (.int _) (kvd_of out)
theorem merge_nodup : ∀ {more acc : List (Key × V)}, ((acc ++ more).map (·.1)).Nodup → mergeK acc more = acc ++ more
  | [], acc, _ => by rw [List.append_nil]; rfl
  | p :: r, acc, h => by
    have h1 : valV acc p.1 = none := by
      unfold valV
      rw [List.find?_eq_none.mpr fun q hq => ?_]
      · rfl
      · intro z
        have z := of_decide_eq_true z
        rw [List.map_append, List.nodup_append] at h
        exact h.2.2 _ (List.mem_map.mpr ⟨q, hq, rfl⟩) p.1 (by simp) z
    show mergeK (putK acc p.1 p.2) r = _
    rw [putK_new _ h1, merge_nodup (acc := acc ++ [(p.1, p.2)])]
    · simp
    · simpa using h
section
variable {P : Program} {w : World} {K : PySem.W.Frag} {mg : Str → Option Value} {base : Heap}
abbrev N_law_row : List Str := ["_law_box_here", "_law_chain_so", "_law_budget_so", "_law_lap", "_law_row_here", "_law_out_so", "_law_many_so", "_law_size_so", "_law_number_so", "_law_k"]
theorem sc_law_row : FnScope N_law_row ["_law_box_here", "_law_chain_so", "_law_budget_so"] (defScope s_law_row) := ⟨rfl, rfl, rfl, by decide +kernel, rfl, by decide +kernel, by decide +kernel⟩
def spRow (K : PySem.W.Frag) : Sp := fun vs H Q _ => ∃ (pb q : Addr) (x : Box) (ch : List Int) (B : Int), vs = [.ref pb, .ref q, .int B] ∧ H pb = some (.lst x.vs) ∧ SqT K H q (ch.map V.int) ∧ 0 < ch.length ∧ ch.length ≤ 1000 ∧ x.ok 200 ∧
  ∀ (v : V) (H' : Hp) (x' : Box) (row : List Deed) (out : DkI) (many : Int), SameB pb H H' → H' pb = some (.lst x'.vs) → x.c ≤ x'.c → x'.c ≤ x.c + 200 → RowTo ch B row out many → row.length ≤ 39 → Dp K H' v (.tuple (row.map encD)) → Q v H'
theorem tkB_c (x : Box) (s : Int) : x.c ≤ (tkB x s).c ∧ (tkB x s).c ≤ x.c + 1 := by
  unfold tkB
  split <;> simp <;> omega
theorem lookI_nodup : ∀ {out : DkI} {p : Int × Int}, (out.map (·.1)).Nodup → p ∈ out → lookI out p.1 = some p.2
  | q :: out, p, nd, hp => by
    rw [List.map_cons, List.nodup_cons] at nd
    unfold lookI
    rw [List.find?_cons]
    rcases List.mem_cons.mp hp with z | z
    · subst z; simp
    · have hne : ¬ q.1 = p.1 := fun e => nd.1 (by rw [e]; exact List.mem_map.mpr ⟨p, z, rfl⟩)
      simp only [hne, decide_false]
      exact lookI_nodup nd.2 z
def rLenDk : List V → Hp → VK → Prop := fun xs H Q => ∃ a kvs, xs = [V.ref a] ∧ H a = some (.dK kvs) ∧ Q (.int (kvs.length : Nat)) H
def rSortDI : List V → Hp → VK → Prop := fun xs H Q => ∃ (a : Addr) (kvs : List (Key × V)) (ks : List Int), xs = [.ref a] ∧ Rd H a (.dK kvs) ∧ kvs.map (·.1) = ks.map Sum.inl ∧ ks.length < 64 ∧ ∀ (ys : List Int) (p : Addr), ys.Perm ks → ys.Pairwise (· ≤ ·) → H p = none → Q (.ref p) (upd H p (.lst (ys.map V.int)))
def rDictP (K : PySem.W.Frag) : List V → Hp → VK → Prop := fun xs H Q => ∃ (a : Addr) (ps : List Addr) (kvs : List (Key × V)), xs = [.ref a] ∧ SqL K H a (ps.map V.ref) ∧ Paired (fun p kv => SqT K H p [kV kv.1, kv.2]) ps kvs ∧ ∀ p, H p = none → Q (.ref p) (upd H p (.dK (mergeK [] kvs)))
theorem paired_snoc {α β : Type} {R : α → β → Prop} {a : α} {b : β} (h : R a b) : ∀ {xs : List α} {ys : List β}, Paired R xs ys → Paired R (xs ++ [a]) (ys ++ [b])
  | _, _, .nil => .cons h .nil
  | _, _, .cons g t => .cons g (paired_snoc h t)
theorem paired_mono {α β : Type} {R R' : α → β → Prop} (f : ∀ a b, R a b → R' a b) : ∀ {xs : List α} {ys : List β}, Paired R xs ys → Paired R' xs ys
  | _, _, .nil => .nil
  | _, _, .cons g t => .cons (f _ _ g) (paired_mono f t)
/-- [(k, out[k]) for k in out if k != number], handed to dict -/
theorem row_dict {H : Hp} {po : Addr} {out : DkI} {kk : List (Key × V)} {n : Int} {σ : L2.St} {Q : VK} (hlen : σ.length = 10) (h5 : σ[5]? = some (some (.ref po))) (h8 : σ[8]? = some (some (.int n))) (hd : H po = some (.dK kk)) (hk : KvD K H kk (encI out)) (nd : (out.map (·.1)).Nodup) (hl : out.length ≤ 1000)
    (q : ∀ p H', H' p = none → Same H H' → Q (.ref p) (upd H' p (.dK ((out.filter fun p => decide (p.1 ≠ n)).map fun p => (.inl p.1, .int p.2))))) :
    tCB (rDictP K) (tCons (tLockE (tLc (iKeys (tVar 5)) (gName 9) (tTest (tOp rNe (tVar 9) (tVar 8))) (tTup (tCons (tVar 9) (tCons (tDGet (tVar 5) (tVar 9)) tNil))) [9])) tNil) σ H Q := by
  refine ⟨po, .dK kk, hd, trivial, fun od => ⟨.ref po, h5, po, od, rfl, .inl ⟨kk, upd_same, fun D hD => ?_⟩⟩⟩
  have ek := kvd_ints hk
  have hkl : kk.length = out.length := by rw [ek, List.length_map]
  refine lc_it walk_keys (Qd := fun H' => H' po = some (.frz od (.dK kk)) ∧ rDictP K [.ref D] (upd H' po (.dK kk)) Q) (fun i H' => Same (upd H po (.frz od (.dK kk))) H' ∧ ∃ ps, H' D = some (.lst (ps.map V.ref)) ∧ Paired (fun p kv => SqT K H' p [kV kv.1, kv.2]) ps (((out.take i).filter fun p => decide (p.1 ≠ n)).map fun p => ((.inl p.1 : Key), V.int p.2)) ∧ ps.length ≤ i)
    ⟨same_new hD, [], upd_same, .nil, by simp⟩ (fun i H' _ ⟨s, _⟩ => s _ _ upd_same) ?step ?done
  case done =>
    rintro H' ⟨s, ps, h1, h2, h3⟩
    obtain ⟨q1, q2, q3⟩ := lock_same hd s
    rw [hkl, List.take_of_length_le (Nat.le_refl _)] at h2
    refine ⟨q1, D, ps, _, rfl, SqL.of (q3 _ _ h1 trivial), paired_mono (fun a b z => q3.seqT z) h2, fun p hp => ?_⟩
    have := q p _ hp q2
    rw [merge_nodup (acc := [])]
    · exact this
    · rw [List.nil_append, List.map_map]
      have e : (Prod.fst ∘ fun p : Int × Int => ((Sum.inl p.1 : Key), V.int p.2)) = fun p : Int × Int => (Sum.inl p.1 : Key) := rfl
      rw [e]
      have nd2 : ((out.filter fun p => decide (p.1 ≠ n)).map (·.1)).Nodup := nd.sublist (List.Sublist.map _ List.filter_sublist)
      have := List.Pairwise.map (R := fun a b : Int => a ≠ b) (S := fun a b : Key => a ≠ b) (fun i : Int => (Sum.inl i : Key)) (fun a b h z => h (Sum.inl.inj z)) nd2
      rw [List.map_map] at this
      exact this
  case step =>
    rintro i x H' H2 hi ⟨s, ps, h1, h2, h3⟩ ⟨rfl, k, v, hkv, rfl⟩
    have hi' : i < out.length := by omega
    rw [ek, List.getElem?_map, List.getElem?_eq_getElem hi'] at hkv
    cases hkv
    have ht : out.take (i + 1) = out.take i ++ [out[i]] := by rw [List.take_add_one, List.getElem?_eq_getElem hi']; rfl
    have hw9 : (wipe σ [9]).length = 10 := by rw [wipe_length, hlen]
    have w5 : (wipe σ [9])[5]? = some (some (.ref po)) := by rw [wipe_get, if_neg (by simp)]; exact h5
    have w8 : (wipe σ [9])[8]? = some (some (.int n)) := by rw [wipe_get, if_neg (by simp)]; exact h8
    have g9 : ((wipe σ [9]).set 9 (some (kV (.inl out[i].1))))[9]? = some (some (.int out[i].1)) := List.getElem?_set_self (by omega)
    have g8 : ((wipe σ [9]).set 9 (some (kV (.inl out[i].1))))[8]? = some (some (.int n)) := by rw [List.getElem?_set_ne (by decide)]; exact w8
    have g5 : ((wipe σ [9]).set 9 (some (kV (.inl out[i].1))))[5]? = some (some (.ref po)) := by rw [List.getElem?_set_ne (by decide)]; exact w5
    have hdec : decide (V.int out[i].1 = V.int n) = decide (out[i].1 = n) := by
      by_cases h : out[i].1 = n
      · simp [h]
      · simp [h]
    refine ⟨(wipe_set (i := 9) (by decide)).trans wipe_idem, _, g9, _, g8, rfl, _, rfl, ?_⟩
    rw [hdec]
    by_cases hn : out[i].1 = n
    · rw [decide_eq_true hn]
      refine iteF ⟨s, ps, h1, ?_, by omega⟩
      rw [ht, List.filter_append, List.filter_cons_of_neg (by simp [hn]), List.filter_nil, List.append_nil]
      exact h2
    · rw [decide_eq_false hn]
      have hpo : H2 po = some (.frz od (.dK kk)) := s _ _ upd_same
      have hval : valV kk (.inl out[i].1) = some (.int out[i].2) := by
        have hk3 : lookI out out[i].1 = some out[i].2 := by
          exact lookI_nodup nd (List.getElem_mem hi')
        have := look_enc out[i].1 out
        rw [hk3] at this
        obtain ⟨v, hv, hdv⟩ := hk.val_some this
        rw [hv, hdv.int_inv]
      refine iteT ⟨_, g9, _, g5, _, g9, po, _, rfl, .inl ⟨kk, .inl out[i].1, .inr ⟨od, hpo⟩, rfl, hval.symm⟩, by show 2 ≤ sizeLine; decide, fun l hl => ?_⟩
      have s2 := same_new (o := .tup [V.int out[i].1, V.int out[i].2]) hl
      refine ⟨ps.map V.ref, s2 _ _ h1, by rw [List.length_map, sizeLine_eq]; omega, ?_, ps ++ [l], by rw [upd_same, List.map_append]; rfl, ?_, by simp; omega⟩
      · intro b o e
        have := s2 _ _ (s _ _ e)
        rw [upd_ne (ne_of_none e hD)]
        exact this
      · rw [ht, List.filter_append, List.filter_cons_of_pos (by simp [hn]), List.filter_nil, List.map_append]
        have t := TSame.lst (u := .lst (ps.map V.ref ++ [V.ref l])) (s2 _ _ h1)
        have tt : ∀ (a : Addr) (xs : List V), SqT K H2 a xs → SqT K (upd (upd H2 l (.tup [V.int out[i].1, V.int out[i].2])) D (.lst (ps.map V.ref ++ [V.ref l]))) a xs := fun a xs z => by
          rcases sqT_same s2 z with z | z
          · exact .inl (t _ _ z)
          · exact .inr z
        refine paired_snoc ?_ (paired_mono (fun a b z => tt a _ z) h2)
        exact .inl (t _ _ (.inl upd_same))
theorem row_else {H0 H : Hp} {pb q pr po : Addr} {x : Box} {row : List Deed} {out : DkI} {many B : Int} {ch : List Int} {y3 y7 y8 : Option V} {D : Ends} (S : RowS K H0 pb x pr po row out H) (R : RowTo ch B row out many) (h1 : row.length ≤ 39) (h2 : out.length ≤ 39) (ok : x.ok 1)
    (same : ∀ y8, D.nx [some (.ref pb), some (.ref q), some (.int B), y3, some (.ref pr), some (.ref po), some (.int many), y7, y8, none] H)
    (back : ∀ (H' : Hp) (x' : Box) (po' : Addr) (k nn : Int), RowS K H0 pb x' pr po' (row ++ [(false, k)]) (out.filter fun p => decide (p.1 ≠ k)) H' → (k, nn) ∈ out → x.c ≤ x'.c → x'.c ≤ x.c + 1 → D.nx [some (.ref pb), some (.ref q), some (.int B), y3, some (.ref pr), some (.ref po'), some (.int many), y7, some (.int k), none] H') :
    tIfS (tTest (tOp (rI0 fun i j => .bl (decide (j < i))) (tCB rLenDk (tCons (tVar 5) tNil)) (tC (.int 0))))
      (tSeq (tAsg (fun σ H Q => tCons (tVar 0) (tCons (tCB rSortDI (tCons (tVar 5) tNil)) tNil) σ H fun vs H1 => spOf K vs H1 Q C8.E0) (gName 8))
        (tSeq (tDrop (tBM K "list" rAppend (tVar 4) (tCons (tD K (tupF (consF (fun _ => some (.str "back")) (consF (gv 8) nilF)))) tNil)))
          (tAsg (tCB (rDictP K) (tCons (tLockE (tLc (iKeys (tVar 5)) (gName 9) (tTest (tOp rNe (tVar 9) (tVar 8))) (tTup (tCons (tVar 9) (tCons (tDGet (tVar 5) (tVar 9)) tNil))) [9])) tNil)) (gName 5))))
      tNext D [some (.ref pb), some (.ref q), some (.int B), y3, some (.ref pr), some (.ref po), some (.int many), y7, y8, none] H := by
  obtain ⟨kk, hk1, hk2⟩ := S.out
  have ek := kvd_ints hk2
  have hkl : kk.length = out.length := by rw [ek, List.length_map]
  refine ⟨_, rfl, po, kk, rfl, hk1, _, 0, rfl, rfl, _, rfl, ?_⟩
  rw [hkl]
  by_cases ho : (0 : Int) < (out.length : Nat)
  · rw [decide_eq_true ho]
    refine iteT ⟨_, rfl, _, rfl, po, kk, out.map (·.1), rfl, .inl hk1, by rw [ek, List.map_map, List.map_map]; rfl, by rw [List.length_map]; omega, fun ys p hperm _ hp => ?_⟩
    have s1 := same_new (o := .lst (ys.map V.int)) hp
    have S1 := S.mv s1
    have hpb : p ≠ pb := fun z => by rw [z, S.box] at hp; cases hp
    have hyl : ys.length = out.length := by rw [hperm.length_eq, List.length_map]
    refine ⟨pb, p, x, _, ys.map .int, rfl, S1.box, .inl ⟨SqL.of upd_same, .inl hpb⟩, DpAll.of_ints _, nlAll_I _, by rw [List.length_map]; omega, by rw [List.length_map]; omega, ok, fun v d H2 sb hb2 hdd dv => ?_⟩
    have S2 := S1.take (x' := tkB x _) sb hb2
    rw [List.getElem?_map] at hdd
    obtain ⟨k, hky, rfl⟩ := Option.map_eq_some_iff.mp hdd
    cases dv.int_inv
    have hkm : k ∈ out.map (·.1) := hperm.mem_iff.mp (List.mem_of_getElem? hky)
    obtain ⟨⟨k', nn⟩, hkn, rfl⟩ := List.mem_map.mp hkm
    obtain ⟨rv, r2, r3⟩ := S2.row
    refine ⟨.ref pr, rfl, .inl ⟨rfl, _, SqL.of r2⟩, [none, none, none, none, none, none, none, none, some (.int k'), none], .tuple [.str "back", .int k'], .consN (.consN (.consN (.consN (.consN (.consN (.consN (.consN (.consS (.int _) (.consN .nil))))))))), by simp [tupF, consF, nilF, gv, small], fun v5 H5 s5 d5 => ⟨pr, rv, v5, rfl, rfl, s5 _ _ r2, by rw [r3.length, List.length_map, sizeLine_eq]; omega, ?_⟩⟩
    have S5 := (S2.mv s5).radd (d := (false, k')) (s5 _ _ r2) d5
    obtain ⟨kk5, g1, g2⟩ := S5.out
    refine row_dict rfl rfl rfl g1 g2 R.keys.2 (by omega) fun p6 H6 hp6 s6 => ?_
    obtain ⟨c1, c2⟩ := tkB_c x ((ys.map PyData.int).length : Nat)
    exact back _ _ p6 k' nn ((S5.mv s6).newOut hp6 fun H' => kvd_of _) hkn c1 c2
  · rw [decide_eq_false ho]
    exact iteF (same y8)
theorem has_law_row (T : Txt K mg) (G_law_take : Has P w K mg base 1 "_law_take" (spTake K)) (G_law_of : Has P w K mg base 2 "_law_of" (spOf K)) : Has P w K mg base 3 "_law_row" (spRow K) := by
  refine has_of T.d_law_row sc_law_row (fun _ _ _ _ _ _ us hl => match us, hl with | [_, _, _], _ => rfl) (fun vs H Q E ⟨_, _, _, _, _, h, _⟩ => by rw [h]; rfl) fun fa cdv A outer s0 H vs Q E hr ⟨pb, q, x, ch, B, hvs, hb, hq, hc0, hc1, ok, fin⟩ => ?_
  subst hvs
  have hu := hu_of hr
  refine ⟨_, pss_cons (ps_asg (pe_tup (pa_cons (pe_lst pa_nil) (pa_cons pe_dnewK (pa_cons pe_int pa_nil)))) (pg_tup rfl (pgs_cons (pg_name (i := 4) sc_law_row.nd rfl (.inl rfl)) (pgs_cons (pg_name (i := 5) sc_law_row.nd rfl (.inr rfl)) (pgs_cons (pg_name (i := 6) sc_law_row.nd rfl (.inl rfl)) pgs_nil)))))
    (pss_cons (ps_for PassesOwn.never rfl (pi_range1 (by rfl) T.b_range (pa_cons (pe_has G_law_take hr (by rfl) (pa_cons (pv 0) (pa_cons pe_int pa_nil))) pa_nil)) (pg_name (i := 3) sc_law_row.nd rfl (.inl rfl))
      (pss_cons (ps_set (i := 7) sc_law_row.nd rfl (.inl rfl) (pe_has G_law_of hr (by rfl) (pa_cons (pv 0) (pa_cons (pv 1) pa_nil))))
      (pss_one (ps_if (pw_and (pt_cmpR op_le (pe_op op_add (pe_callB (cr_sumV rfl) (by rfl) T.b_sum (by decide +kernel) (pa_cons (pe_bm0 PySem.F.plainAttrs_dict PySem.F.slot_dict_values PySem.F.type_dict_values mt_values (pv 5)) pa_nil)) (pv 7)) (pv 2) rfl) (pw_and1 (pt_cmpR op_gt (pe_has G_law_take hr (by rfl) (pa_cons (pv 0) (pa_cons pe_int pa_nil))) pe_int rfl))).pt
        (pss_cons (ps_expr (pe_bm PySem.F.plainAttrs_list PySem.F.slot_list_append PySem.F.type_list_append mt_append (pv 4) (pa_cons (pd_tup (pad_cons pd_str (pad_cons (pd_var 7) pad_nil))) pa_nil)))
        (pss_cons (ps_dput hu (pv 5) (pv 6) (pv 7) rfl)
        (pss_one (ps_set (i := 6) sc_law_row.nd rfl (.inl rfl) (pe_op op_add (pv 6) pe_int)))))
        (pss_one (ps_if (pt_cmpR op_gt (pe_callB call_lenD (by rfl) T.b_len (by decide +kernel) (pa_cons (pv 5) pa_nil)) pe_int rfl)
          (pss_cons (ps_set (i := 8) sc_law_row.nd rfl (.inr rfl) (pe_has G_law_of hr (by rfl) (pa_cons (pv 0) (pa_cons (pe_callB (call_sortedDI rfl) (by rfl) T.b_sorted (by decide +kernel) (pa_cons (pv 5) pa_nil)) pa_nil))))
          (pss_cons (ps_expr (pe_bm PySem.F.plainAttrs_list PySem.F.slot_list_append PySem.F.type_list_append mt_append (pv 4) (pa_cons (pd_tup (pad_cons pd_str (pad_cons (pd_var 8) pad_nil))) pa_nil)))
          (pss_one (ps_set (i := 5) sc_law_row.nd rfl (.inr rfl) (pe_callTy (call_dictP rfl) (by rfl) T.b_dict (by decide +kernel) (pa_cons (pe_lock (pe_lc (g := gName 9) (tt := tTest (tOp rNe (tVar 9) (tVar 8))) (te := tTup (tCons (tVar 9) (tCons (tDGet (tVar 5) (tVar 9)) tNil))) (own := [("_law_k", 9)]) rfl sc_law_row.nd (pi_keys (pv 5)) (blkOk_by (N := N_law_row) (sc := defScope s_law_row) (by decide +kernel)) (fun _ _ _ _ _ => pg_name (i := 9) sc_law_row.nd rfl (.inl rfl)) (fun _ _ _ _ _ => pts_one (pt_cmpR op_ne (pv 9) (pv 8) rfl)) (fun _ _ _ _ _ => pe_tup (pa_cons (pv 9) (pa_cons (pe_dget hu (pv 5) (pv 9) (fun _ _ => rfl)) pa_nil))))) pa_nil))))))
          pss_nil))))))
    (pss_one (ps_ret (pe_callTy call_tuple_of (by rfl) T.b_tuple (by decide +kernel) (pa_cons (pv 4) pa_nil))))), ?_⟩
  refine ⟨by show 0 ≤ sizeLine; decide, fun pr hpr => fun po hpo => ⟨by show 3 ≤ sizeLine; decide, fun T1 hT1 => ?_⟩⟩
  have n1 : pr ≠ po := fun z => by rw [← z, upd_same] at hpo; cases hpo
  have hpo0 : H po = none := by rwa [upd_ne (Ne.symm n1)] at hpo
  have nb1 : pr ≠ pb := fun z => by rw [z, hb] at hpr; cases hpr
  have nb2 : po ≠ pb := fun z => by rw [z, hb] at hpo0; cases hpo0
  have s0 : Same H (upd (upd H pr (.lst [])) po (.dK [])) := (same_new hpr).trans (same_new hpo)
  have S0 : RowS K H pb x pr po [] [] (upd (upd H pr (.lst [])) po (.dK [])) := ⟨SameB.of s0, s0 _ _ hb, ⟨[], by rw [upd_ne n1, upd_same], .nil⟩, ⟨[], upd_same, .nil⟩, nb1, nb2, n1, hpr, hpo0⟩
  have S1 := S0.mv (same_new (o := .tup [V.ref pr, V.ref po, V.int 0]) hT1)
  refine ⟨T1, _, rfl, .inl (.inl upd_same), rfl, _, _, rfl, _, _, rfl, _, _, rfl, rfl, ?_⟩
  refine ⟨_, rfl, pb, x, 40, rfl, S1.box, ⟨by decide, by decide⟩, ?_, fun H2 sb2 hb2 => ?_⟩
  · unfold Box.ok at ok ⊢; omega
  obtain ⟨t0, t1⟩ := tkV_lt (x := x) (s := 40) (by decide)
  obtain ⟨c0, c1⟩ := tkB_c x 40
  have S2 := S1.take (x' := tkB x 40) sb2 hb2
  refine ⟨tkV x 40, rfl, by omega, by omega, for_it walk_range (fun i σ' H' => ∃ (x' : Box) (po' : Addr) (row : List Deed) (out : DkI) (many : Int) (y3 y7 y8 : Option V), σ' = [some (.ref pb), some (.ref q), some (.int B), y3, some (.ref pr), some (.ref po'), some (.int many), y7, y8, none] ∧ RowS K H pb x' pr po' row out H' ∧ RowTo ch B row out many ∧ row.length ≤ i ∧ out.length ≤ i ∧ x.c ≤ x'.c ∧ x'.c ≤ x.c + 1 + 3 * (i : Nat))
    ⟨tkB x 40, po, [], [], 0, none, none, none, rfl, S2, .nil, by simp, by simp, c0, by omega⟩ (fun _ _ _ _ _ => trivial) ?turn ?done⟩
  case done =>
    rintro σ' H' ⟨x', po', row, out, many, y3, y7, y8, rfl, S, R, l1, l2, d1, d2⟩
    obtain ⟨rv, r2, r3⟩ := S.row
    refine ⟨_, rfl, pr, _, rfl, .inl ⟨SqL.of r2, fun l hl => ?_⟩⟩
    have sl := same_new (o := .tup rv) hl
    exact fin _ _ x' row out many (S.sb.trans (SameB.of sl)) (sl _ _ S.box) d1 (by omega) R (by omega) (.tup (.inl (.inl upd_same)) (DpAll.same sl _ _ r3))
  case turn =>
    rintro i xx σ' H' H3 hi ⟨x', po', row, out, many, y3, y7, y8, rfl, S, R, l1, l2, d1, d2⟩ ⟨rfl, rfl⟩
    have hi39 : i ≤ 38 := by omega
    have ok' : ∀ (z : Box), x.c ≤ z.c → z.c ≤ x.c + 1 + 3 * (i : Nat) + 2 → z.ok 1 := fun z z1 z2 => by unfold Box.ok at ok ⊢; omega
    refine ⟨_, rfl, _, rfl, pb, q, x', _, ch.map .int, rfl, S.box, .inr (S.sb.seqT2 hb hq), DpAll.of_ints _, nlAll_I _, by rw [List.length_map]; omega, by rw [List.length_map]; omega, ok' x' d1 (by omega), fun v d H4 sb4 hb4 hdd dv => ?_⟩
    rw [List.getElem?_map] at hdd
    obtain ⟨sz, hsz, rfl⟩ := Option.map_eq_some_iff.mp hdd
    cases dv.int_inv
    have hmem : sz ∈ ch := List.mem_of_getElem? hsz
    obtain ⟨c2, c3⟩ := tkB_c x' ((ch.map PyData.int).length : Nat)
    generalize tkB x' ((ch.map PyData.int).length : Nat) = x4 at hb4 c2 c3
    have S4 := S.take (x' := x4) sb4 hb4
    obtain ⟨kk, hk1, hk2⟩ := S4.out
    have ek := kvd_ints hk2
    refine ⟨.ref po', rfl, .inr (.inr (.inl ⟨rfl, .inl ⟨kk, hk1⟩⟩)), po', kk, rfl, rfl, .inl hk1, fun r0 hr0 => ?_⟩
    have sv := same_new (o := ViewO r0 po') hr0
    have S5 := S4.mv sv
    refine ⟨r0, po', kk, out.map (·.2), rfl, upd_same, .inl (sv _ _ hk1), by rw [ek, List.map_map, List.map_map]; rfl, _, rfl, (out.map (·.2)).sum, sz, rfl, rfl, _, rfl, (out.map (·.2)).sum + sz, B, rfl, rfl, _, rfl, ?_⟩
    generalize upd H4 r0 (ViewO r0 po') = H5 at S5
    -- no block is asked
    have els := fun (x6 : Box) (H6 : Hp) (S6 : RowS K H pb x6 pr po' row out H6) (e1 : x.c ≤ x6.c) (e2 : x6.c ≤ x.c + 1 + 3 * (i : Nat) + 2) => row_else (q := q) (B := B) (ch := ch) (many := many) (y3 := some (.int (0 + (i : Nat)))) (y7 := some (.int sz)) (y8 := y8) (D := { nx := fun σ' H' => ∃ (x' : Box) (po' : Addr) (row : List Deed) (out : DkI) (many : Int) (y3 y7 y8 : Option V), σ' = [some (.ref pb), some (.ref q), some (.int B), y3, some (.ref pr), some (.ref po'), some (.int many), y7, y8, none] ∧ RowS K H pb x' pr po' row out H' ∧ RowTo ch B row out many ∧ row.length ≤ i + 1 ∧ out.length ≤ i + 1 ∧ x.c ≤ x'.c ∧ x'.c ≤ x.c + 1 + 3 * ((i + 1 : Nat) : Int), rt := Q }) S6 R (by omega) (by omega) (ok' x6 e1 e2)
      (fun y8 => ⟨x6, po', row, out, many, _, _, _, rfl, S6, R, by omega, by omega, e1, by omega⟩)
      (fun H' x7 po7 k nn S7 hkn f1 f2 => ⟨x7, po7, _, _, many, _, _, _, rfl, S7, R.back hkn, by simp; omega, Nat.le_trans (List.length_filter_le _ _) (by omega), by omega, by omega⟩)
    by_cases hle : (out.map (·.2)).sum + sz ≤ B
    · rw [decide_eq_true hle]
      refine iteT ⟨_, rfl, pb, x4, 3, rfl, S5.box, ⟨by decide, by decide⟩, ok' x4 (by omega) (by omega), fun H6 sb6 hb6 => ?_⟩
      obtain ⟨c4, c5⟩ := tkB_c x4 3
      have S6 := S5.take (x' := tkB x4 3) sb6 hb6
      refine ⟨_, 0, rfl, rfl, _, rfl, ?_⟩
      by_cases ht : 0 < tkV x4 3
      · rw [decide_eq_true ht]
        obtain ⟨rv, r2, r3⟩ := S6.row
        refine iteT ⟨.ref pr, rfl, .inl ⟨rfl, _, SqL.of r2⟩, [none, none, none, none, none, none, none, some (.int sz), none, none], .tuple [.str "ask", .int sz], .consN (.consN (.consN (.consN (.consN (.consN (.consN (.consS (.int _) (.consN (.consN .nil))))))))), by simp [tupF, consF, nilF, gv, small], fun v7 H7 s7 d7 => ⟨pr, rv, v7, rfl, rfl, s7 _ _ r2, by rw [r3.length, List.length_map, sizeLine_eq]; omega, ?_⟩⟩
        have S7 := (S6.mv s7).radd (d := (true, sz)) (s7 _ _ r2) d7
        obtain ⟨k7, g1, g2⟩ := S7.out
        refine ⟨_, rfl, _, rfl, _, rfl, po', _, rfl, DPut.k (k := .inl many) g1 (by rw [g2.length, encI_len, sizeLine_eq]; omega), _, rfl, many, 1, rfl, rfl, tkB x4 3, po', _, _, many + 1, _, _, _, rfl, S7.put g1, ?_, by simp; omega, Nat.le_trans (putI_len _ _ _) (by omega), by omega, by omega⟩
        rw [putI_new R.keys.1]
        exact R.ask hmem hle
      · rw [decide_eq_false ht]
        exact iteF (els _ H6 S6 (by omega) (by omega))
    · rw [decide_eq_false hle]
      exact iteF (els _ H5 S5 (by omega) (by omega))
end
end Lb
end
section
set_option Elab.async false
set_option linter.all false
set_option maxRecDepth 100000
set_option maxHeartbeats 4000000
/-! F8: _law_right, law. -/
namespace Lb
open PySem PySem.Spec PyProof.Rows L2 StX RZ NdefX LamX
def chD (ch : List Int) : PyData := .tuple (ch.map .int)
def chainsL : List (List Int) := [[1, 2], [1, 3], [1, 2, 4], [1, 4]]
def lastI (ch : List Int) : Int := (ch.getLast?).getD 0
structure CfgOk (ch : List Int) (B : Int) (p : PyData) : Prop where
  isp : F_is_parting [chD ch, p] = some (.bool true)
  dealt : ∀ (row : List Deed) (out : DkI) (many : Int), RowTo ch B row out many → row.length ≤ 39 → F_law_dealt_right [chD ch, .int B, .tuple (row.map encD), p] = some (.bool true)
  more : ∃ m l : Int, F_total_for [chD ch, p, .int B] = some (.int m) ∧ F_least_pool [chD ch, .int B] = some (.int l) ∧ ¬ m < l
  best : F_is_best_parting [chD ch, .int B, .int (2 * B * (ch.length : Nat)), .tuple [chD ch]] = some (.bool true)
def AllCfg : Prop := ∀ ch ∈ chainsL, ∃ ps : List PyData, F_all_partings [chD ch] = some (.list ps) ∧ nlAll ps = true ∧ 0 < ps.length ∧ ps.length ≤ 1000 ∧ (∀ p ∈ ps, ∃ qs, p = .tuple qs) ∧ ∀ t : Int, 0 ≤ t → t < 2 → ∀ p ∈ ps, CfgOk ch (lastI ch * lastI ch * (1 + t)) p
section
variable {P : Program} {w : World} {K : PySem.W.Frag} {mg : Str → Option Value} {base : Heap}
abbrev N_law_right : List Str := ["_law_box_here", "_law_turn", "_law_chain_so", "_law_budget_so", "_law_parts_so", "_law_more", "_law_tall_so"]
theorem sc_law_right : FnScope N_law_right ["_law_box_here"] (defScope s_law_right) := ⟨rfl, rfl, rfl, by decide +kernel, rfl, by decide +kernel, by decide +kernel⟩
def spRight (K : PySem.W.Frag) : Sp := fun vs H Q _ => ∃ (pb : Addr) (x : Box), vs = [.ref pb] ∧ H pb = some (.lst x.vs) ∧ x.ok 1000 ∧ ∀ H', SameB pb H H' → Q (.bl true) H'
theorem ne_box {H : Hp} {x : Box} {xs : List V} {t r : List PyData} (h : DpAll K H xs (.tuple t :: r)) : xs ≠ x.vs := fun z => by
  rw [z] at h
  unfold Box.vs at h
  cases h with
  | cons h1 _ => cases h1
theorem sd_none {H : Hp} : ∀ σ : L2.St, SD K H σ (σ.map fun _ => none)
  | [] => .nil
  | _ :: σ => .consN (sd_none σ)
theorem nl_ch (ch : List Int) : nl (chD ch) = true := nl_tupI ch
theorem has_law_right (T : Txt K mg) (C : AllCfg) (G_law_take : Has P w K mg base 1 "_law_take" (spTake K)) (G_law_of : Has P w K mg base 2 "_law_of" (spOf K)) (G_law_row : Has P w K mg base 3 "_law_row" (spRow K)) (G_law_dealt_right : Has P w K mg base 6 "_law_dealt_right" (spD K F_law_dealt_right))
    (G_all_partings : Has P w K mg base 1 "all_partings" (spD K F_all_partings)) (G_is_parting : Has P w K mg base 2 "is_parting" (spD K F_is_parting)) (G_total_for : Has P w K mg base 4 "total_for" (spD K F_total_for)) (G_least_pool : Has P w K mg base 6 "least_pool" (spD K F_least_pool)) (G_is_best_parting : Has P w K mg base 6 "is_best_parting" (spD K F_is_best_parting)) : Has P w K mg base 7 "_law_right" (spRight K) := by
  refine has_of T.d_law_right sc_law_right (fun _ _ _ _ _ _ us hl => match us, hl with | [_], _ => rfl) (fun vs H Q E ⟨_, _, h, _⟩ => by rw [h]; rfl) fun fa cdv A outer s0 H vs Q E hr ⟨pb, x, hvs, hb, ok, fin⟩ => ?_
  subst hvs
  refine ⟨_, pss_cons (ps_for PassesOwn.never rfl (pi_range1 (by rfl) T.b_range (pa_cons pe_int pa_nil)) (pg_name (i := 1) sc_law_right.nd rfl (.inl rfl))
    (pss_cons (ps_set (i := 2) sc_law_right.nd rfl (.inl rfl) (pe_has G_law_of hr (by rfl) (pa_cons (pv 0) (pa_cons (pd_lst (pad_cons (pd_tup (pad_cons pd_int (pad_cons pd_int pad_nil))) (pad_cons (pd_tup (pad_cons pd_int (pad_cons pd_int pad_nil))) (pad_cons (pd_tup (pad_cons pd_int (pad_cons pd_int (pad_cons pd_int pad_nil)))) (pad_cons (pd_tup (pad_cons pd_int (pad_cons pd_int pad_nil))) pad_nil))))) pa_nil))))
    (pss_cons (ps_set (i := 3) sc_law_right.nd rfl (.inl rfl) (pe_op op_mul (pd_bin od_mul (pd_ix (pd_var 2) (pd_neg pd_int)) (pd_ix (pd_var 2) (pd_neg pd_int))) (pe_op op_add pe_int (pe_has G_law_take hr (by rfl) (pa_cons (pv 0) (pa_cons pe_int pa_nil))))))
    (pss_cons (ps_set (i := 4) sc_law_right.nd rfl (.inl rfl) (pe_has G_law_of hr (by rfl) (pa_cons (pv 0) (pa_cons (pd_call G_all_partings hr (by rfl) (pad_cons (pd_var 2) pad_nil)) pa_nil))))
    (pss_cons (ps_if (ptd_not (ptd_val (pd_call G_is_parting hr (by rfl) (pad_cons (pd_var 2) (pad_cons (pd_var 4) pad_nil))))) (pss_one (ps_ret pe_bl)) pss_nil)
    (pss_cons (ps_if (pt_not (pt_val (pe_has G_law_dealt_right hr (by rfl) (pa_cons (pv 2) (pa_cons (pv 3) (pa_cons (pe_has G_law_row hr (by rfl) (pa_cons (pv 0) (pa_cons (pv 2) (pa_cons (pv 3) pa_nil)))) (pa_cons (pv 4) pa_nil))))))) (pss_one (ps_ret pe_bl)) pss_nil)
    (pss_cons (ps_set (i := 5) sc_law_right.nd rfl (.inl rfl) (pd_call G_total_for hr (by rfl) (pad_cons (pd_var 2) (pad_cons (pd_var 4) (pad_cons (pd_var 3) pad_nil)))))
    (pss_cons (ps_set (i := 6) sc_law_right.nd rfl (.inl rfl) (pd_bin od_mul (pd_bin od_mul pd_int (pd_var 3)) (pd_callB cd_len (by rfl) T.b_len (by decide +kernel) (pad_cons (pd_var 2) pad_nil))))
    (pss_cons (ps_if (ptd_cmp od_lt (pd_var 5) (pd_call G_least_pool hr (by rfl) (pad_cons (pd_var 2) (pad_cons (pd_var 3) pad_nil)))) (pss_one (ps_ret pe_bl)) pss_nil)
    (pss_one (ps_if (ptd_not (ptd_val (pd_call G_is_best_parting hr (by rfl) (pad_cons (pd_var 2) (pad_cons (pd_var 3) (pad_cons (pd_var 6) (pad_cons (pd_tup (pad_cons (pd_var 2) pad_nil)) pad_nil))))))) (pss_one (ps_ret pe_bl)) pss_nil)))))))))))
    (pss_one (ps_ret pe_bl)), ?_⟩
  refine ⟨4, rfl, by omega, by omega, for_it walk_range (fun i σ' H' => ∃ (x' : Box) (y1 y2 y3 y4 y5 y6 : Option V), σ' = [some (.ref pb), y1, y2, y3, y4, y5, y6] ∧ SameB pb H H' ∧ H' pb = some (.lst x'.vs) ∧ x.c ≤ x'.c ∧ x'.c ≤ x.c + 210 * (i : Nat))
    ⟨x, none, none, none, none, none, none, rfl, SameB.of (Same.refl H), hb, by omega, by omega⟩ (fun _ _ _ _ _ => trivial) ?turn ?done⟩
  case done =>
    rintro σ' H' ⟨x', y1, y2, y3, y4, y5, y6, rfl, p1, p2, p3, p4⟩
    exact fin H' p1
  case turn =>
    rintro i xx σ' H' H0 hi ⟨x', y1, y2, y3, y4, y5, y6, rfl, p1, p2, p3, p4⟩ ⟨rfl, rfl⟩
    have hi3 : i ≤ 3 := by
      have : (4 : Int).toNat = 4 := rfl
      omega
    have okn : ∀ (z : Box) (n : Int), x.c ≤ z.c → z.c ≤ x.c + 210 * (i : Nat) + 5 → n ≤ 200 → z.ok n := fun z n z1 z2 z3 => by unfold Box.ok at ok ⊢; omega
    -- the chain
    refine ⟨_, rfl, _, .list (chainsL.map chD), sd_none _, by rfl, fun v1 H1 s1 d1 => ?_⟩
    obtain ⟨L1, xs1, rfl, hL1, ha1⟩ := d1.lst_inv
    refine ⟨pb, L1, x', xs1, _, rfl, s1 _ _ p2, .inl ⟨hL1, .inr (ne_box ha1)⟩, ha1, by rfl, by decide, by decide, okn x' 1 p3 (by omega) (by omega), fun v2 d2 H2 sb2 hb2 hd2 dv2 => ?_⟩
    have hch : ∃ ch ∈ chainsL, d2 = chD ch := by
      obtain ⟨ch, h1, h2⟩ := List.mem_map.mp (List.mem_of_getElem? hd2)
      exact ⟨ch, h1, h2.symm⟩
    obtain ⟨ch, hmem, rfl⟩ := hch
    obtain ⟨c1, c2⟩ := tkB_c x' ((chainsL.map chD).length : Nat)
    generalize tkB x' ((chainsL.map chD).length : Nat) = x2 at hb2 c1 c2
    have sb02 : SameB pb H H2 := (p1.trans (SameB.of s1)).trans sb2
    obtain ⟨ps, hps, hnl, hp0, hp1, hpt, hcfg⟩ := C ch hmem
    have hlast : (bin2 (bin2 (gv 2) (negF (fun _ => some (.int 1))) ixD) (bin2 (gv 2) (negF (fun _ => some (.int 1))) ixD) mulD) [none, none, some (chD ch), none, none, none, none] = some (.int (lastI ch * lastI ch)) ∧ lastI ch * lastI ch ≤ 100 ∧ 0 < ch.length ∧ ch.length ≤ 3 ∧ 1 ≤ lastI ch * lastI ch := by
      unfold chainsL at hmem
      rcases hmem with _ | ⟨_, hmem⟩
      · exact ⟨rfl, by decide, by decide, by decide, by decide⟩
      rcases hmem with _ | ⟨_, hmem⟩
      · exact ⟨rfl, by decide, by decide, by decide, by decide⟩
      rcases hmem with _ | ⟨_, hmem⟩
      · exact ⟨rfl, by decide, by decide, by decide, by decide⟩
      rcases hmem with _ | ⟨_, hmem⟩
      · exact ⟨rfl, by decide, by decide, by decide, by decide⟩
      cases hmem
    obtain ⟨hl1, hl2, hl3, hl4, hl5⟩ := hlast
    -- the budget
    refine ⟨[none, none, some (chD ch), none, none, none, none], _, .consN (.consN (.consS dv2 (.consN (.consN (.consN (.consN .nil)))))), hl1, fun v3 H3 s3 d3 => ?_⟩
    cases d3.int_inv
    have b3 := s3 _ _ hb2
    refine ⟨_, rfl, pb, x2, 2, rfl, b3, ⟨by decide, by decide⟩, okn x2 1 (by omega) (by omega) (by omega), fun H4 sb4 hb4 => ?_⟩
    obtain ⟨t0, t1⟩ := tkV_lt (x := x2) (s := 2) (by decide)
    obtain ⟨c3, c4⟩ := tkB_c x2 2
    generalize tkB x2 2 = x4 at hb4 c3 c4
    generalize tkV x2 2 = tt at t0 t1
    refine ⟨1, tt, rfl, rfl, lastI ch * lastI ch, 1 + tt, rfl, rfl, .inr ⟨by omega, by omega⟩, ?_⟩
    have hcf := hcfg tt t0 t1
    have hB : 0 ≤ lastI ch * lastI ch * (1 + tt) ∧ lastI ch * lastI ch * (1 + tt) ≤ 200 := by
      have : tt = 0 ∨ tt = 1 := by omega
      rcases this with z | z <;> rw [z] <;> omega
    dsimp only
    generalize lastI ch * lastI ch * (1 + tt) = B at hcf hB ⊢
    have dch4 : Dp K H4 v2 (chD ch) := Dp.tsame (sb4.tsame b3) _ _ (nl_ch ch) (Dp.same s3 _ _ dv2)
    have sb04 := (sb02.trans (SameB.of s3)).trans sb4
    -- the parts
    refine ⟨_, rfl, [none, none, some (chD ch), none, none, none, none], .list ps, .consN (.consN (.consS dch4 (.consN (.consN (.consN (.consN .nil)))))), by simp [callF, consF, nilF, gv, hps], fun v5 H5 s5 d5 => ?_⟩
    obtain ⟨L5, xs5, rfl, hL5, ha5⟩ := d5.lst_inv
    have b5 := s5 _ _ hb4
    have ne5 : xs5 ≠ x4.vs := by
      cases ps with
      | nil => simp at hp0
      | cons p0 pr =>
        obtain ⟨qs, rfl⟩ := hpt p0 List.mem_cons_self
        exact ne_box ha5
    refine ⟨pb, L5, x4, xs5, ps, rfl, b5, .inl ⟨hL5, .inr ne5⟩, ha5, hnl, hp0, hp1, okn x4 1 (by omega) (by omega) (by omega), fun v6 p H6 sb6 hb6 hd6 dv6 => ?_⟩
    have hpm : p ∈ ps := List.mem_of_getElem? hd6
    have K6 := hcf p hpm
    obtain ⟨c5, c6⟩ := tkB_c x4 (ps.length : Nat)
    generalize tkB x4 (ps.length : Nat) = x6 at hb6 c5 c6
    have dch6 : Dp K H6 v2 (chD ch) := Dp.tsame (sb6.tsame b5) _ _ (nl_ch ch) (Dp.same s5 _ _ dch4)
    have sb06 := (sb04.trans (SameB.of s5)).trans sb6
    have hnp : nl p = true := nl_mem hnl hpm
    -- a parting
    refine ⟨[none, none, some (chD ch), none, some p, none, none], false, .consN (.consN (.consS dch6 (.consN (.consS dv6 (.consN (.consN .nil)))))), by simp [notB, btest, callF, consF, nilF, gv, K6.isp, asB], fun H7 s7 => iteF ?_⟩
    have b7 := s7 _ _ hb6
    have dch7 := Dp.same s7 _ _ dch6
    have dp7 := Dp.same s7 _ _ dv6
    -- dealt
    obtain ⟨q7, xq7, rfl, hq7, haq7⟩ := dch7.tup_inv
    rw [haq7.ints] at hq7
    refine ⟨_, rfl, _, rfl, _, rfl, _, rfl, _, rfl, pb, q7, x6, ch, B, rfl, b7, hq7, hl3, by omega, okn x6 200 (by omega) (by omega) (by omega), fun v8 H8 x8 row out many sb8 hb8 c7 c8 R hrl dv8 => ?_⟩
    have ts8 := sb8.tsame b7
    have dch8 : Dp K H8 (.ref q7) (chD ch) := Dp.tsame ts8 _ _ (nl_ch ch) dch7
    have dp8 := Dp.tsame ts8 _ _ hnp dp7
    have sb08 := (sb06.trans (SameB.of s7)).trans sb8
    refine ⟨_, rfl, [chD ch, .int B, .tuple (row.map encD), p], .bool true, .cons dch8 (.cons (.int _) (.cons dv8 (.cons dp8 .nil))), K6.dealt row out many R hrl, fun v9 H9 s9 d9 => ⟨true, d9.bl_inv, iteF ?_⟩⟩
    obtain ⟨m, l, hm, hl, hml⟩ := K6.more
    have dch9 := Dp.same s9 _ _ dch8
    have dp9 := Dp.same s9 _ _ dp8
    refine ⟨[none, none, some (chD ch), some (.int B), some p, none, none], .int m, .consN (.consN (.consS dch9 (.consS (.int _) (.consS dp9 (.consN (.consN .nil)))))), by simp [callF, consF, nilF, gv, hm], fun v10 H10 s10 d10 => ?_⟩
    cases d10.int_inv
    have dch10 := Dp.same s10 _ _ dch9
    have m1 : mulD (.int 2) (.int B) = some (.int (2 * B)) := mulD_l ⟨by omega, by omega⟩
    have m2 : mulD (.int (2 * B)) (.int (ch.length : Nat)) = some (.int (2 * B * (ch.length : Nat))) := mulD_r ⟨by omega, by omega⟩
    refine ⟨[none, none, some (chD ch), some (.int B), none, none, none], .int (2 * B * (ch.length : Nat)), .consN (.consN (.consS dch10 (.consS (.int _) (.consN (.consN (.consN .nil)))))), by simp [bin2, callF, consF, nilF, gv, m1, lenD, seqD, chD, m2], fun v11 H11 s11 d11 => ?_⟩
    cases d11.int_inv
    have dch11 := Dp.same s11 _ _ dch10
    refine ⟨[none, none, some (chD ch), some (.int B), none, some (.int m), none], false, .consN (.consN (.consS dch11 (.consS (.int _) (.consN (.consS (.int _) (.consN .nil)))))), by simp [btest, bin2, callF, consF, nilF, gv, hl, ltD, asB]; omega, fun H12 s12 => iteF ?_⟩
    have dch12 := Dp.same s12 _ _ dch11
    refine ⟨[none, none, some (chD ch), some (.int B), none, none, some (.int (2 * B * (ch.length : Nat)))], false, .consN (.consN (.consS dch12 (.consS (.int _) (.consN (.consN (.consS (.int _) .nil)))))), by simp [notB, btest, callF, consF, nilF, gv, tupF, small, K6.best, asB], fun H13 s13 => iteF ?_⟩
    have sAll := s9.trans (s10.trans (s11.trans (s12.trans s13)))
    exact ⟨x8, _, _, _, _, _, _, rfl, sb08.trans (SameB.of sAll), sAll _ _ hb8, by omega, by omega⟩
end
end Lb
end
section
set_option Elab.async false
set_option linter.all false
set_option maxRecDepth 100000
set_option maxHeartbeats 4000000
/-! F9: law. -/
namespace Lb
open PySem PySem.Spec PyProof.Rows L2 StX RZ NdefX LamX
section
variable {P : Program} {w : World} {K : PySem.W.Frag} {mg : Str → Option Value} {base : Heap}
abbrev N_law : List Str := ["_law_script", "_law_cells_so", "_law_k"]
theorem sc_law : FnScope N_law ["_law_script"] (defScope s_law) := ⟨rfl, rfl, rfl, by decide +kernel, rfl, by decide +kernel, by decide +kernel⟩
def spHand (Ts : List NTab) : Sp := fun vs H Q _ => vs = [] ∧ TabsN Ts H ∧ ∀ H', ExtN H H' → Q (.bl true) H'
def spLaw (K : PySem.W.Frag) (Ts : List NTab) : Sp := fun vs H Q _ => ∃ (a : Addr) (ns : List Int), vs = [.ref a] ∧ TabsN Ts H ∧ SqL K H a (ns.map V.int) ∧ ns.length ≤ 63 ∧ ∀ H', Q (.bl true) H'
theorem pe_has0 {X : Cx} {k j : Nat} {x : Str} {sp : Sp} {p pos : Pos} (G : Has X.prog X.w X.K X.mg X.base k x sp) (hr : Room j X.A) (hg : Gl X x) (hk : k ≤ j := by decide)
    (hd : (x == ("__debug__" : Str)) = false := by decide) : PE X (.Call (.Name x p) [] [] pos) (fun σ H Q => sp [] H Q C8.E0) := by
  obtain ⟨fa, fd, ps, G, hm, hkp, hb⟩ := G.ex
  exact pe_call0 (CX := C8.CX0) (E := C8.E0) G (hr.mono hk) hg hm hkp hb .nil (fun _ _ _ _ _ _ _ h => h.elim) hd
theorem seqL_new {K : PySem.W.Frag} {pb L : Addr} {H2 H3 H4 : Hp} {xs : List V} (h : SqL K H2 L xs) (n : H2 pb = none) (s : Same H2 H3) (b : SameB pb H3 H4) : SqL K H4 L xs := by
  rcases h with (h | ⟨o, h⟩) | h
  · exact .inl (.inl (b _ _ (s _ _ h) (fun z => by rw [z, n] at h; cases h)))
  · exact .inl (.inr ⟨o, b _ _ (s _ _ h) (fun z => by rw [z, n] at h; cases h)⟩)
  · exact .inr h
theorem has_law {Ts : List NTab} (T : Txt K mg) (G_law_cells : Has P w K mg base 1 "_law_cells" (spCells K)) (G_law_by_hand_right : Has P w K mg base 8 "_law_by_hand_right" (spHand Ts)) (G_law_right : Has P w K mg base 7 "_law_right" (spRight K)) (G_law_box : Has P w K mg base 1 "_law_box" (spBox K)) : Has P w K mg base 9 "law" (spLaw K Ts) := by
  refine has_of T.d_law sc_law (fun _ _ _ _ _ _ us hl => match us, hl with | [_], _ => rfl) (fun vs H Q E ⟨_, _, h, _⟩ => by rw [h]; rfl) fun fa cdv A outer s0 H vs Q E hr ⟨a, ns, hvs, hT, ha, hl, fin⟩ => ?_
  subst hvs
  refine ⟨_, pss_cons (ps_set (i := 1) sc_law.nd rfl (.inr rfl) (pe_has G_law_cells hr (by rfl) (pa_cons (pv 0) (pa_cons pe_int pa_nil))))
    (pss_cons (ps_if (pt_not (pt_val (pe_has0 G_law_by_hand_right hr (by rfl)))) (pss_one (ps_ret pe_bl)) pss_nil)
    (pss_one (ps_ret (pe_callB (cr_all rfl) (by rfl) T.b_all (by decide +kernel) (pa_cons (pe_lc (g := gName 2) (tt := tYes) (te := fun σ H Q => tCons (fun σ H Q => tCons (tVar 1) (tCons (tVar 2) tNil) σ H fun vs H1 => spBox K vs H1 Q C8.E0) tNil σ H fun vs H1 => spRight K vs H1 Q C8.E0) (own := [("_law_k", 2)]) rfl sc_law.nd (pi_range1 (by rfl) T.b_range (pa_cons (pe_callB call_len_seq (by rfl) T.b_len (by decide +kernel) (pa_cons (pv 1) pa_nil)) pa_nil)) (blkOk_by (N := N_law) (sc := defScope s_law) (by decide +kernel)) (fun _ _ _ _ _ => pg_name (i := 2) sc_law.nd rfl (.inl rfl)) (fun _ _ _ _ _ => pts_nil) (fun _ _ _ _ _ => pe_has G_law_right hr (by rfl) (pa_cons (pe_has G_law_box hr (by rfl) (pa_cons (pv 1) (pa_cons (pv 2) pa_nil))) pa_nil))) pa_nil))))), ?_⟩
  refine ⟨_, rfl, a, ns, rfl, ha, hl, fun L H1 ms m1 m3 s1 hL0 hL1 => ?_⟩
  refine ⟨rfl, hT.ext s1, fun H2 e2 => ⟨true, rfl, iteF ?_⟩⟩
  have hL2 : SqL K H2 L (ms.map V.int) := (ExtD.of e2).seqL (SqL.of hL1)
  refine ⟨_, rfl, L, _, rfl, .inl hL2, _, rfl, by rw [List.length_map]; omega, by rw [List.length_map]; omega, fun D hD => ?_⟩
  have hn : ((ms.map V.int).length : Int).toNat = ms.length := by rw [List.length_map]; rfl
  rw [hn]
  refine lc_it (J := Itr 0 ms.length) walk_range (g := gName 2) (tt := tYes) (te := fun σ H Q => tCons (fun σ H Q => tCons (tVar 1) (tCons (tVar 2) tNil) σ H fun vs H1 => spBox K vs H1 Q C8.E0) tNil σ H fun vs H1 => spRight K vs H1 Q C8.E0) (vs := [2]) (σ := [some (.ref a), some (.ref L), none]) (H1 := H2) (D := D) (Qd := fun H' => rAll K [.ref D] H' Q) (fun i H' => Same H2 H' ∧ ∃ bs : List Bool, H' D = some (.lst (bs.map V.bl)) ∧ bs.all id = true ∧ bs.length ≤ i)
    ⟨same_new hD, [], upd_same, rfl, by simp⟩ (fun _ _ _ _ => trivial) ?step ?done
  case done =>
    rintro H' ⟨_, bs, h1, h2, _⟩
    refine ⟨D, bs, rfl, SqL.of h1, ?_⟩
    have := fin H'
    rw [← h2] at this
    exact this
  case step =>
    rintro i x H' H3 hi ⟨h1, bs, h2, h3, h4⟩ ⟨rfl, rfl⟩
    refine ⟨(wipe_set (i := 2) (by decide)).trans wipe_idem, ?_⟩
    unfold tYes
    dsimp only
    rw [if_pos rfl]
    refine ⟨_, rfl, _, rfl, L, ms, i, by rw [Int.zero_add], h1.seq hL2, hi, by omega, fun pb H4 x hx0 hpb s4 hb => ?_⟩
    refine ⟨pb, x, rfl, hb, by unfold Box.ok; omega, fun H5 sb5 => ?_⟩
    have hDp : D ≠ pb := fun z => by rw [z, hpb] at h2; cases h2
    have h5 : H5 D = some (.lst (bs.map V.bl)) := sb5 _ _ (s4 _ _ h2) hDp
    have s25 : Same H2 H5 := fun b o e => sb5 _ _ (s4 _ _ (h1 _ _ e)) (fun z => by
      have := h1 _ _ e
      rw [z, hpb] at this
      cases this)
    exact ⟨_, h5, by rw [List.length_map, sizeLine_eq]; omega, same_mut s25 hD, bs ++ [true], by rw [upd_same, List.map_append]; rfl, by rw [List.all_append, h3]; rfl, by simp; omega⟩
end
end Lb
end
section
set_option Elab.async false
set_option linter.all false
set_option maxRecDepth 100000
set_option maxHeartbeats 4000000
/-! P1: first fit, the plain law: what stands below a place that is taken. -/
namespace Lb
def metB (b : Blk) (s : Int) (t : Nat) : Prop := b.1 < ((t : Int) + 1) * s ∧ (t : Int) * s < b.1 + b.2
theorem mul_lt_of {a b s : Int} (hs : 0 < s) (h : a * s < b * s) : a < b := Int.lt_of_mul_lt_mul_right h (Int.le_of_lt hs)
theorem mul_le_of {a b s : Int} (hs : 0 < s) (h : a ≤ b) : a * s ≤ b * s := Int.mul_le_mul_of_nonneg_right h (Int.le_of_lt hs)
theorem raisedI_spec {x s : Int} (hs : 0 < s) : raisedI x s % s = 0 ∧ x ≤ raisedI x s ∧ ∀ t : Int, t * s < raisedI x s → t * s < x := by
  unfold raisedI
  have h1 := Int.emod_add_mul_ediv (x + s - 1) s
  have h2 := Int.emod_nonneg (x + s - 1) (Int.ne_of_gt hs)
  have h3 := Int.emod_lt_of_pos (x + s - 1) hs
  have h4 : s * ((x + s - 1) / s) = (x + s - 1) / s * s := Int.mul_comm _ _
  generalize hq : (x + s - 1) / s = q at *
  refine ⟨Int.mul_emod_left q s, by omega, fun t ht => ?_⟩
  have h5 := mul_lt_of hs ht
  have h6 : t * s ≤ (q - 1) * s := mul_le_of hs (by omega)
  have h7 : (q - 1) * s = q * s - s := by rw [Int.sub_mul, Int.one_mul]
  omega
theorem le_max2 (i j : Int) : i ≤ max2 i j ∧ j ≤ max2 i j := by
  unfold max2
  split <;> omega
theorem ffGo_met {s : Int} (hs : 0 < s) : ∀ (bs : List Blk) (pl : Int), pl % s = 0 → pl ≤ ffGo s pl bs ∧ ffGo s pl bs % s = 0 ∧ ∀ t : Nat, pl ≤ (t : Int) * s → (t : Int) * s < ffGo s pl bs → ∃ b ∈ bs, metB b s t
  | [], pl, h => ⟨Int.le_refl _, h, fun t h1 h2 => by unfold ffGo at h2; omega⟩
  | (f, w) :: r, pl, h => by
    unfold ffGo
    split
    · exact ⟨Int.le_refl _, h, fun t h1 h2 => by omega⟩
    · rename_i hc
      obtain ⟨r1, r2, r3⟩ := raisedI_spec (x := f + w) hs
      obtain ⟨m1, m2⟩ := le_max2 pl (raisedI (f + w) s)
      have hm : max2 pl (raisedI (f + w) s) % s = 0 := by
        unfold max2
        split
        · exact r1
        · exact h
      obtain ⟨i1, i2, i3⟩ := ffGo_met hs r _ hm
      refine ⟨Int.le_trans m1 i1, i2, fun t h1 h2 => ?_⟩
      by_cases h3 : max2 pl (raisedI (f + w) s) ≤ (t : Int) * s
      · obtain ⟨b, hb, hm⟩ := i3 t h3 h2
        exact ⟨b, List.mem_cons_of_mem _ hb, hm⟩
      · refine ⟨(f, w), List.mem_cons_self, ?_, ?_⟩
        · show f < ((t : Int) + 1) * s
          rw [Int.add_mul, Int.one_mul]
          omega
        · show (t : Int) * s < f + w
          refine r3 t ?_
          unfold max2 at h3
          split at h3 <;> omega
theorem ffGo_ge {s : Int} : ∀ (bs : List Blk) (pl : Int), pl ≤ ffGo s pl bs
  | [], pl => Int.le_refl _
  | (f, w) :: r, pl => by
    unfold ffGo
    split
    · exact Int.le_refl _
    · exact Int.le_trans (le_max2 _ _).1 (ffGo_ge r _)
theorem ffGo_free {s : Int} (hs : 0 < s) : ∀ (bs : List Blk) (pl : Int), bs.Pairwise (fun a b => a.1 ≤ b.1) → (∀ b ∈ bs, 0 < b.2) → ∀ b ∈ bs, b.1 ≠ ffGo s pl bs
  | (f, w) :: r, pl, hp, hw, b, hb => by
    unfold ffGo
    rw [List.pairwise_cons] at hp
    split
    · rename_i hc
      rcases List.mem_cons.mp hb with z | z
      · rw [z]; show f ≠ pl; omega
      · have := hp.1 b z
        have : f ≤ b.1 := this
        omega
    · rcases List.mem_cons.mp hb with z | z
      · have h1 := hw (f, w) List.mem_cons_self
        have h2 := (raisedI_spec (x := f + w) hs).2.1
        have h3 := (le_max2 pl (raisedI (f + w) s)).2
        have h4 := ffGo_ge (s := s) r (max2 pl (raisedI (f + w) s))
        have h1' : 0 < w := h1
        rw [z]
        show f ≠ _
        omega
      · exact ffGo_free hs r _ hp.2 (fun c hc => hw c (List.mem_cons_of_mem _ hc)) b z
/-! ### counting -/
def sumN (f : Nat → Int) : Nat → Int
  | 0 => 0
  | n + 1 => sumN f n + f n
theorem sumN_le {f g : Nat → Int} : ∀ n, (∀ t, t < n → f t ≤ g t) → sumN f n ≤ sumN g n
  | 0, _ => Int.le_refl _
  | n + 1, h => Int.add_le_add (sumN_le n fun t ht => h t (Nat.lt_succ_of_lt ht)) (h n (Nat.lt_succ_self n))
theorem sumN_add {f g : Nat → Int} : ∀ n, sumN (fun t => f t + g t) n = sumN f n + sumN g n
  | 0 => rfl
  | n + 1 => by
    show sumN (fun t => f t + g t) n + (f n + g n) = (sumN f n + f n) + (sumN g n + g n)
    rw [sumN_add n]; omega
theorem sumN_zero : ∀ n, sumN (fun _ => 0) n = 0
  | 0 => rfl
  | n + 1 => by
    show sumN (fun _ => 0) n + 0 = 0
    rw [sumN_zero n]; rfl
def cutB (b : Blk) (x : Int) : Int := if x ≤ b.1 then b.1 else if x ≤ b.1 + b.2 then x else b.1 + b.2
def ovB (s : Int) (b : Blk) (t : Nat) : Int := cutB b (((t : Int) + 1) * s) - cutB b ((t : Int) * s)
theorem sum_ov (s : Int) (b : Blk) : ∀ n : Nat, sumN (ovB s b) n = cutB b ((n : Int) * s) - cutB b 0
  | 0 => by
    show (0 : Int) = _
    rw [show ((0 : Nat) : Int) * s = 0 by simp]; omega
  | n + 1 => by
    show sumN (ovB s b) n + ovB s b n = _
    rw [sum_ov s b n]
    unfold ovB
    have : ((n + 1 : Nat) : Int) = (n : Int) + 1 := by omega
    rw [this]
    omega
theorem sum_ov_le {s : Int} {b : Blk} (hb : 0 ≤ b.2) (n : Nat) : sumN (ovB s b) n ≤ b.2 := by
  rw [sum_ov]
  unfold cutB
  split <;> split <;> (try split) <;> (try split) <;> omega
theorem ov_nonneg {s : Int} {b : Blk} (hb : 0 ≤ b.2) (hs : 0 < s) (t : Nat) : 0 ≤ ovB s b t := by
  unfold ovB cutB
  have h : ((t : Int) + 1) * s = (t : Int) * s + s := by rw [Int.add_mul, Int.one_mul]
  rw [h]
  split <;> split <;> (try split) <;> (try split) <;> omega
def sumL (bs : List Blk) : Int := (bs.map (·.2)).sum
theorem sum_blocks {s : Int} (hs : 0 < s) {n : Nat} : ∀ (bs : List Blk), (∀ b ∈ bs, 0 ≤ b.2) → sumN (fun t => (bs.map fun b => ovB s b t).sum) n ≤ sumL bs
  | [], _ => by
    show sumN (fun _ => 0) n ≤ 0
    rw [sumN_zero]; exact Int.le_refl _
  | b :: bs, h => by
    have ih := sum_blocks hs (n := n) bs fun c hc => h c (List.mem_cons_of_mem _ hc)
    have e : sumN (fun t => ((b :: bs).map fun b => ovB s b t).sum) n = sumN (ovB s b) n + sumN (fun t => (bs.map fun b => ovB s b t).sum) n := by
      rw [← sumN_add]
      rfl
    rw [e]
    have := sum_ov_le (s := s) (h b List.mem_cons_self) n
    show _ ≤ b.2 + sumL bs
    omega
theorem ov_mem {s : Int} (hs : 0 < s) {t : Nat} : ∀ {bs : List Blk} {b : Blk}, b ∈ bs → (∀ b ∈ bs, 0 ≤ b.2) → ovB s b t ≤ (bs.map fun b => ovB s b t).sum
  | c :: bs, b, hb, h => by
    have nn : 0 ≤ (bs.map fun b => ovB s b t).sum := by
      have : ∀ (l : List Blk), (∀ b ∈ l, 0 ≤ b.2) → 0 ≤ (l.map fun b => ovB s b t).sum := by
        intro l hl
        induction l with
        | nil => exact Int.le_refl _
        | cons d l ih =>
          have h1 := ov_nonneg (hl d List.mem_cons_self) hs t
          have h2 := ih fun e he => hl e (List.mem_cons_of_mem _ he)
          show 0 ≤ ovB s d t + (l.map fun b => ovB s b t).sum
          omega
      exact this bs fun e he => h e (List.mem_cons_of_mem _ he)
    show _ ≤ ovB s c t + (bs.map fun b => ovB s b t).sum
    rcases List.mem_cons.mp hb with z | z
    · rw [z]; omega
    · have h1 := ov_nonneg (h c List.mem_cons_self) hs t
      have h2 := ov_mem (t := t) hs z fun e he => h e (List.mem_cons_of_mem _ he)
      omega
/-- a block of a size that goes into s, or s into it, where it meets a slot, takes its own or the whole slot -/
theorem met_ov {s w p : Int} {t : Nat} (hs : 0 < s) (hw : 0 < w) (ha : p % w = 0) (hd : s % w = 0 ∨ w % s = 0) (hm : metB (p, w) s t) : (if w ≤ s then w else s) ≤ ovB s (p, w) t := by
  obtain ⟨m1, m2⟩ := hm
  have m1 : p < ((t : Int) + 1) * s := m1
  have m2 : (t : Int) * s < p + w := m2
  have e1 : ((t : Int) + 1) * s = (t : Int) * s + s := by rw [Int.add_mul, Int.one_mul]
  have key : (p ≤ (t : Int) * s ∧ (t : Int) * s + s ≤ p + w ∧ s ≤ w) ∨ ((t : Int) * s ≤ p ∧ p + w ≤ (t : Int) * s + s ∧ w ≤ s) := by
    obtain ⟨a, ha⟩ := Int.dvd_of_emod_eq_zero ha
    rcases hd with hd | hd
    · obtain ⟨c, hc⟩ := Int.dvd_of_emod_eq_zero hd
      right
      have hcp : 0 < c := by
        rcases Int.lt_or_le 0 c with z | z
        · exact z
        · have z1 : c * w ≤ 0 * w := mul_le_of hw z
          rw [Int.zero_mul, Int.mul_comm, ← hc] at z1
          omega
      have q1 : (t : Int) * s = (t * c) * w := by rw [hc, Int.mul_comm w c, Int.mul_assoc]
      have q2 : p = a * w := by rw [ha, Int.mul_comm]
      have q3 : s = c * w := by rw [hc, Int.mul_comm]
      have l1 : a < t * c + c := by
        refine mul_lt_of hw ?_
        rw [Int.add_mul, ← q1, ← q2, ← q3]; omega
      have l2 : t * c < a + 1 := by
        refine mul_lt_of hw ?_
        rw [Int.add_mul, Int.one_mul, ← q1, ← q2]; exact m2
      have l3 : (t * c) * w ≤ a * w := mul_le_of hw (by omega)
      have l4 : (a + 1) * w ≤ (t * c + c) * w := mul_le_of hw (by omega)
      have l5 : 1 * w ≤ c * w := mul_le_of hw (by omega)
      rw [Int.add_mul, Int.add_mul, Int.one_mul, ← q1, ← q2, ← q3] at l4
      rw [← q1, ← q2] at l3
      rw [Int.one_mul, ← q3] at l5
      exact ⟨l3, l4, l5⟩
    · obtain ⟨c, hc⟩ := Int.dvd_of_emod_eq_zero hd
      left
      have q2 : p = (c * a) * s := by rw [ha, hc, Int.mul_comm (c * a) s, Int.mul_assoc]
      have q3 : w = c * s := by rw [hc, Int.mul_comm]
      have hcp : 0 < c := by
        rcases Int.lt_or_le 0 c with z | z
        · exact z
        · have z1 : c * s ≤ 0 * s := mul_le_of hs z
          rw [Int.zero_mul, Int.mul_comm, ← hc] at z1
          omega
      have l1 : c * a < (t : Int) + 1 := by
        refine mul_lt_of hs ?_
        rw [← q2]; exact m1
      have l2 : (t : Int) < c * a + c := by
        refine mul_lt_of hs ?_
        rw [Int.add_mul, ← q2, ← q3]; exact m2
      have l3 : (c * a) * s ≤ (t : Int) * s := mul_le_of hs (by omega)
      have l4 : ((t : Int) + 1) * s ≤ (c * a + c) * s := mul_le_of hs (by omega)
      have l5 : 1 * s ≤ c * s := mul_le_of hs (by omega)
      rw [Int.add_mul (c * a), ← q2, ← q3] at l4
      rw [← q2] at l3
      rw [Int.one_mul, ← q3] at l5
      exact ⟨l3, by omega, l5⟩
  unfold ovB cutB
  rw [e1]
  show (if w ≤ s then w else s) ≤ (if (t : Int) * s + s ≤ p then p else if (t : Int) * s + s ≤ p + w then (t : Int) * s + s else p + w) - (if (t : Int) * s ≤ p then p else if (t : Int) * s ≤ p + w then (t : Int) * s else p + w)
  rcases key with ⟨k1, k2, k3⟩ | ⟨k1, k2, k3⟩
  · split <;> split <;> (try split) <;> (try split) <;> (try split) <;> omega
  · split <;> split <;> (try split) <;> (try split) <;> (try split) <;> omega
end Lb
end
section
set_option Elab.async false
set_option linter.all false
set_option maxRecDepth 100000
set_option maxHeartbeats 4000000
/-! P2: rows of a budget are played below the lines. -/
namespace Lb
open PySem PySem.Spec PyProof.Rows L2
def wMin (w s : Int) : Int := if w ≤ s then w else s
def wgt (ls : List (Int × Int)) (s : Int) (t : Nat) : Int := ls.foldr (fun p acc => if (t : Int) * s < p.2 then (if wMin p.1 s ≤ acc then wMin p.1 s else acc) else acc) s
theorem wgt_le {s : Int} {t : Nat} : ∀ {ls : List (Int × Int)} {p : Int × Int}, p ∈ ls → (t : Int) * s < p.2 → wgt ls s t ≤ wMin p.1 s
  | q :: ls, p, hp, ht => by
    show (if (t : Int) * s < q.2 then (if wMin q.1 s ≤ wgt ls s t then wMin q.1 s else wgt ls s t) else wgt ls s t) ≤ _
    rcases List.mem_cons.mp hp with z | z
    · subst z
      rw [if_pos ht]
      split <;> omega
    · have ih := wgt_le z ht
      split
      · split <;> omega
      · exact ih
def cfgB (ls : List (Int × Int)) (B : Int) : Bool := ls.all fun p => decide (0 < p.1) && decide (p.1 < 1073741824) && decide (p.2 % p.1 = 0) && decide (0 ≤ p.2) && decide (B < sumN (wgt ls p.1) (p.2 / p.1).toNat + p.1) && ls.all fun q => decide (p.1 % q.1 = 0) || decide (q.1 % p.1 = 0)
def BlkIn (ls : List (Int × Int)) (b : Blk) : Prop := ∃ l, (b.2, l) ∈ ls ∧ b.1 % b.2 = 0 ∧ 0 ≤ b.1 ∧ b.1 + b.2 ≤ l
structure CfgP (ls : List (Int × Int)) (B : Int) : Prop where
  pos : ∀ p ∈ ls, 0 < p.1
  small : ∀ p ∈ ls, p.1 < 1073741824
  mul : ∀ p ∈ ls, p.2 % p.1 = 0
  nn : ∀ p ∈ ls, 0 ≤ p.2
  sum : ∀ p ∈ ls, B < sumN (wgt ls p.1) (p.2 / p.1).toNat + p.1
  div : ∀ p ∈ ls, ∀ q ∈ ls, p.1 % q.1 = 0 ∨ q.1 % p.1 = 0
theorem cfg_of {ls : List (Int × Int)} {B : Int} (h : cfgB ls B = true) : CfgP ls B := by
  unfold cfgB at h
  simp only [List.all_eq_true, Bool.and_eq_true, Bool.or_eq_true, decide_eq_true_eq] at h
  exact ⟨fun p hp => (h p hp).1.1.1.1.1, fun p hp => (h p hp).1.1.1.1.2, fun p hp => (h p hp).1.1.1.2, fun p hp => (h p hp).1.1.2, fun p hp => (h p hp).1.2, fun p hp q hq => (h p hp).2 q hq⟩
theorem place_ok {ls : List (Int × Int)} {B s l : Int} {bs : List Blk} (C : CfgP ls B) (hs : (s, l) ∈ ls) (hb : ∀ b ∈ bs, BlkIn ls b) (hB : sumL bs + s ≤ B) : ffGo s 0 bs % s = 0 ∧ 0 ≤ ffGo s 0 bs ∧ ffGo s 0 bs + s ≤ l := by
  have hs0 : 0 < s := C.pos _ hs
  obtain ⟨m1, m2, m3⟩ := ffGo_met hs0 bs 0 (Int.zero_emod s)
  refine ⟨m2, m1, ?_⟩
  rcases Int.lt_or_le l (ffGo s 0 bs + s) with hlt | hle
  rotate_left
  · exact hle
  exfalso
  generalize ffGo s 0 bs = p at *
  have hl0 : 0 ≤ l := C.nn _ hs
  obtain ⟨a, ha⟩ := Int.dvd_of_emod_eq_zero m2
  obtain ⟨c, hc⟩ := Int.dvd_of_emod_eq_zero (C.mul _ hs)
  have hc : l = s * c := hc
  have hlp : l ≤ p := by
    have h1 : c * s < (a + 1) * s := by
      rw [Int.add_mul, Int.one_mul, Int.mul_comm c s, Int.mul_comm a s, ← hc, ← ha]; exact hlt
    have h2 := mul_lt_of hs0 h1
    have h3 : c * s ≤ a * s := mul_le_of hs0 (by omega)
    rw [Int.mul_comm c s, Int.mul_comm a s, ← hc, ← ha] at h3
    exact h3
  have hn : ((l / s).toNat : Int) * s = l := by
    have h1 : l / s = c := by rw [hc]; exact Int.mul_ediv_cancel_left c (Int.ne_of_gt hs0)
    have h2 : 0 ≤ c := by
      rcases Int.lt_or_le c 0 with z | z
      · have h3 : (c + 1) * s ≤ 0 * s := mul_le_of hs0 (by omega)
        rw [Int.add_mul, Int.one_mul, Int.zero_mul, Int.mul_comm c s, ← hc] at h3
        omega
      · exact z
    rw [h1, Int.toNat_of_nonneg h2, Int.mul_comm, ← hc]
  have hb2 : ∀ b ∈ bs, 0 ≤ b.2 := fun b h => by
    obtain ⟨lb, h1, _⟩ := hb b h
    exact Int.le_of_lt (C.pos _ h1)
  have key : sumN (wgt ls s) (l / s).toNat ≤ sumL bs := by
    refine Int.le_trans (sumN_le _ fun t ht => ?_) (sum_blocks hs0 (n := (l / s).toNat) bs hb2)
    have h1 : (t : Int) * s < ((l / s).toNat : Int) * s := by
      have h2 : ((t : Int) + 1) * s ≤ ((l / s).toNat : Int) * s := mul_le_of hs0 (by omega)
      rw [Int.add_mul, Int.one_mul] at h2
      omega
    rw [hn] at h1
    have h0 : 0 ≤ (t : Int) * s := Int.mul_nonneg (by omega) (Int.le_of_lt hs0)
    obtain ⟨b, hbm, hmet⟩ := m3 t h0 (by omega)
    obtain ⟨lb, hb1, hb3, hb4, hb5⟩ := hb b hbm
    have hw : 0 < b.2 := C.pos _ hb1
    have e1 := met_ov (p := b.1) (w := b.2) hs0 hw hb3 (C.div _ hs _ hb1) hmet
    have e2 : wgt ls s t ≤ wMin b.2 s := wgt_le hb1 (by have := hmet.2; show (t : Int) * s < lb; omega)
    exact Int.le_trans e2 (Int.le_trans e1 (ov_mem hs0 hbm hb2))
  have := C.sum _ hs
  have : B < sumN (wgt ls s) (l / s).toNat + s := this
  omega
/-! ### sorted -/
theorem ins_perm (x : Blk) : ∀ ys : List Blk, (insD leP x ys).Perm (x :: ys)
  | [] => .refl _
  | y :: ys => by
    unfold insD
    split
    · exact .refl _
    · exact ((ins_perm x ys).cons y).trans (List.Perm.swap x y ys)
theorem isP_perm : ∀ h : List Blk, (isP h).Perm h
  | [] => .refl _
  | b :: h => (ins_perm b (isP h)).trans ((isP_perm h).cons b)
theorem leP_le {a b : Blk} (h : leP a b = true) : a.1 ≤ b.1 := by
  unfold leP at h
  simp at h
  omega
theorem leP_not {a b : Blk} (h : ¬ leP a b = true) : b.1 ≤ a.1 := by
  unfold leP at h
  simp at h
  omega
theorem ins_sorted (x : Blk) : ∀ ys : List Blk, ys.Pairwise (fun a b => a.1 ≤ b.1) → (insD leP x ys).Pairwise (fun a b => a.1 ≤ b.1)
  | [], _ => by simp [insD]
  | y :: ys, h => by
    have h' := List.pairwise_cons.mp h
    unfold insD
    split
    · rename_i hle
      refine List.pairwise_cons.mpr ⟨fun b hb => ?_, h⟩
      have h1 := leP_le hle
      rcases List.mem_cons.mp hb with z | z
      · rw [z]; exact h1
      · exact Int.le_trans h1 (h'.1 b z)
    · rename_i hle
      refine List.pairwise_cons.mpr ⟨fun b hb => ?_, ins_sorted x ys h'.2⟩
      rcases List.mem_cons.mp ((ins_perm x ys).mem_iff.mp hb) with z | z
      · rw [z]; exact leP_not hle
      · exact h'.1 b z
theorem isP_sorted : ∀ h : List Blk, (isP h).Pairwise (fun a b => a.1 ≤ b.1)
  | [] => .nil
  | b :: h => ins_sorted b _ (isP_sorted h)
end Lb
end
section
set_option Elab.async false
set_option linter.all false
set_option maxRecDepth 100000
set_option maxHeartbeats 4000000
/-! P3: a row that a budget allows, played. -/
namespace Lb
open PySem PySem.Spec PyProof.Rows L2
def stepP (szs : List Int) (st : List Int × List Blk) : Deed → Option (List Int × List Blk)
  | (true, n) => if 0 < n ∧ n < 1073741824 then some (st.1 ++ [ffGo n 0 st.2], isP (st.2 ++ [(ffGo n 0 st.2, n)])) else none
  | (false, k) => (atI st.1 k).bind fun p => (atI szs k).bind fun s => some (st.1, st.2.filter fun q => !decide (q = (p, s)))
def runP (szs : List Int) : List Deed → List Int × List Blk → Option (List Int × List Blk)
  | [], st => some st
  | d :: r, st => (stepP szs st d).bind fun st' => runP szs r st'
theorem runP_snoc (szs : List Int) (d : Deed) : ∀ (r : List Deed) (st : List Int × List Blk), runP szs (r ++ [d]) st = (runP szs r st).bind fun st' => stepP szs st' d
  | [], st => by
    show (stepP szs st d).bind (fun st' => some st') = stepP szs st d
    cases stepP szs st d <;> rfl
  | e :: r, st => by
    show (stepP szs st e).bind (fun st' => runP szs (r ++ [d]) st') = ((stepP szs st e).bind fun st' => runP szs r st').bind _
    rw [Option.bind_assoc]
    congr 1
    funext st'
    exact runP_snoc szs d r st'
theorem plGo_run (szs : List Int) : ∀ (r : List Deed) (ps : List Int) (h : List Blk), plGo szs r ps h = (runP szs r (ps, h)).map (·.1)
  | [], ps, h => rfl
  | (true, n) :: r, ps, h => by
    show (if 0 < n ∧ n < 1073741824 then plGo szs r (ps ++ [ffGo n 0 h]) (isP (h ++ [(ffGo n 0 h, n)])) else none) = ((if 0 < n ∧ n < 1073741824 then some (ps ++ [ffGo n 0 h], isP (h ++ [(ffGo n 0 h, n)])) else none).bind fun st' => runP szs r st').map (·.1)
    split
    · exact plGo_run szs r _ _
    · rfl
  | (false, k) :: r, ps, h => by
    show ((atI ps k).bind fun p => (atI szs k).bind fun s => plGo szs r ps (h.filter fun q => !decide (q = (p, s)))) = ((((atI ps k).bind fun p => (atI szs k).bind fun s => some (ps, h.filter fun q => !decide (q = (p, s))))).bind fun st' => runP szs r st').map (·.1)
    cases atI ps k with
    | none => rfl
    | some p =>
      cases atI szs k with
      | none => rfl
      | some s => exact plGo_run szs r _ _
theorem asksL_app : ∀ (a b : List Deed), asksL (a ++ b) = asksL a ++ asksL b
  | [], b => rfl
  | (true, n) :: a, b => by
    show n :: asksL (a ++ b) = _
    rw [asksL_app a b]; rfl
  | (false, n) :: a, b => asksL_app a b
theorem nodup_inj {α β : Type} {f : α → β} : ∀ {l : List α}, (l.map f).Nodup → ∀ a ∈ l, ∀ b ∈ l, f a = f b → a = b
  | c :: l, h, a, ha, b, hb, e => by
    rw [List.map_cons, List.nodup_cons] at h
    rcases List.mem_cons.mp ha with z | z <;> rcases List.mem_cons.mp hb with y | y
    · rw [z, y]
    · exact absurd (by rw [← z, e]; exact List.mem_map.mpr ⟨b, y, rfl⟩) h.1
    · exact absurd (by rw [← y, ← e]; exact List.mem_map.mpr ⟨a, z, rfl⟩) h.1
    · exact nodup_inj h.2 a z b y e
theorem sum_perm {a b : List Int} (h : a.Perm b) : a.sum = b.sum := by
  induction h with
  | nil => rfl
  | cons x _ ih => rw [List.sum_cons, List.sum_cons, ih]
  | swap x y l => rw [List.sum_cons, List.sum_cons, List.sum_cons, List.sum_cons]; omega
  | trans _ _ h1 h2 => rw [h1, h2]
structure RunOk (ls : List (Int × Int)) (N : Int) (A : List Int) (out : DkI) (many : Int) (ps : List Int) (here : List Blk) (live : List (Int × Blk)) : Prop where
  len : ps.length = A.length
  many : (A.length : Int) = many
  out : out = live.map fun e => (e.1, e.2.2)
  at_ : ∀ e ∈ live, ∃ j : Nat, e.1 = j ∧ ps[j]? = some e.2.1 ∧ A[j]? = some e.2.2
  perm : here.Perm (live.map (·.2))
  nd : (live.map (·.2)).Nodup
  srt : here.Pairwise (fun a b => a.1 ≤ b.1)
  blk : ∀ b ∈ here, BlkIn ls b
  ends : ∀ (j : Nat) (p n : Int), ps[j]? = some p → A[j]? = some n → 0 ≤ p ∧ 0 < n ∧ p + n ≤ N
theorem run_ok {ls : List (Int × Int)} {B N : Int} (C : CfgP ls B) (hN : ∀ p ∈ ls, p.2 ≤ N) {row : List Deed} {out : DkI} {many : Int} (R : RowTo (ls.map (·.1)) B row out many) :
    ∀ tail : List Int, ∃ ps here live, runP (asksL row ++ tail) row ([], []) = some (ps, here) ∧ RunOk ls N (asksL row) out many ps here live := by
  induction R with
  | nil => exact fun tail => ⟨[], [], [], rfl, rfl, rfl, rfl, (fun e h => nomatch h), .refl _, .nil, .nil, (fun b h => nomatch h), fun j p n h => by simp at h⟩
  | @ask row out many n R hn hb ih =>
    intro tail
    obtain ⟨ps, here, live, hr, O⟩ := ih (n :: tail)
    obtain ⟨⟨s, l⟩, hsl, rfl⟩ := List.mem_map.mp hn
    have hsum : sumL here = sumO out := by
      unfold sumL sumO
      rw [O.out, List.map_map]
      have := sum_perm (O.perm.map (·.2))
      rw [this, List.map_map]
      rfl
    obtain ⟨p1, p2, p3⟩ := place_ok C hsl O.blk (by rw [hsum]; exact hb)
    have hs0 : 0 < s := C.pos _ hsl
    have fresh : ∀ b ∈ here, b.1 ≠ ffGo s 0 here := ffGo_free hs0 here 0 O.srt fun b hb => by
      obtain ⟨lb, h1, _⟩ := O.blk b hb
      exact C.pos _ h1
    have hrun : runP (asksL (row ++ [(true, s)]) ++ tail) (row ++ [(true, s)]) ([], []) = some (ps ++ [ffGo s 0 here], isP (here ++ [(ffGo s 0 here, s)])) := by
      rw [asksL_app]
      show runP ((asksL row ++ [s]) ++ tail) _ _ = _
      rw [List.append_assoc]
      show runP (asksL row ++ s :: tail) _ _ = _
      rw [runP_snoc, hr]
      show stepP (asksL row ++ s :: tail) (ps, here) (true, s) = _
      show (if 0 < s ∧ s < 1073741824 then some (ps ++ [ffGo s 0 here], isP (here ++ [(ffGo s 0 here, s)])) else none) = _
      rw [if_pos ⟨hs0, C.small _ hsl⟩]
    generalize ffGo s 0 here = p at *
    refine ⟨_, _, live ++ [(many, (p, s))], hrun, ?_⟩
    have hA : asksL (row ++ [(true, s)]) = asksL row ++ [s] := asksL_app row _
    rw [hA]
    have hmn : (asksL row).length = ps.length := O.len.symm
    refine ⟨by rw [List.length_append, List.length_append, O.len]; rfl, by rw [List.length_append]; have := O.many; simp; omega, by rw [O.out, List.map_append]; rfl, fun e he => ?_, ?_, ?_, isP_sorted _, fun b hb => ?_, fun j pp nn h1 h2 => ?_⟩
    · rcases List.mem_append.mp he with z | z
      · obtain ⟨j, j1, j2, j3⟩ := O.at_ e z
        have l1 := (List.getElem?_eq_some_iff.mp j2).1
        have l2 := (List.getElem?_eq_some_iff.mp j3).1
        exact ⟨j, j1, by rw [List.getElem?_append_left l1]; exact j2, by rw [List.getElem?_append_left l2]; exact j3⟩
      · rw [List.mem_singleton.mp z]
        refine ⟨ps.length, ?_, by simp, ?_⟩
        · show many = _
          rw [← O.many, hmn]
        · rw [← hmn]; simp
    · rw [List.map_append]
      exact (isP_perm _).trans (List.Perm.append O.perm (.refl _))
    · rw [List.map_append, List.nodup_append]
      refine ⟨O.nd, by simp, fun b hb c hc => ?_⟩
      have hbh : b ∈ here := O.perm.mem_iff.mpr hb
      have hcp : c = (p, s) := by simpa using hc
      rw [hcp]
      intro z
      exact fresh b hbh (by rw [z])
    · rcases List.mem_append.mp ((isP_perm _).mem_iff.mp hb) with z | z
      · exact O.blk b z
      · rw [List.mem_singleton.mp z]
        exact ⟨l, hsl, p1, p2, p3⟩
    · by_cases hj : j < ps.length
      · rw [List.getElem?_append_left hj] at h1
        rw [List.getElem?_append_left (by omega)] at h2
        exact O.ends j pp nn h1 h2
      · have hj2 : j = ps.length := by
          have := (List.getElem?_eq_some_iff.mp h1).1
          rw [List.length_append] at this
          simp at this
          omega
        rw [hj2] at h1
        rw [hj2, ← hmn] at h2
        simp at h1 h2
        have := hN _ hsl
        have : l ≤ N := this
        omega
  | @back row out many k n R hk ih =>
    intro tail
    obtain ⟨ps, here, live, hr, O⟩ := ih tail
    rw [O.out] at hk
    obtain ⟨e, he, hek⟩ := List.mem_map.mp hk
    obtain ⟨k', p, n'⟩ := e
    have e1 : k = k' := (congrArg Prod.fst hek).symm
    have e2 : n = n' := (congrArg Prod.snd hek).symm
    subst e1
    subst e2
    obtain ⟨j, hj, j2, j3⟩ := O.at_ _ he
    have hj : k = (j : Int) := hj
    have j2 : ps[j]? = some p := j2
    have j3 : (asksL row)[j]? = some n := j3
    have l3 := (List.getElem?_eq_some_iff.mp j3).1
    have hrun : runP (asksL (row ++ [(false, k)]) ++ tail) (row ++ [(false, k)]) ([], []) = some (ps, here.filter fun q => !decide (q = (p, n))) := by
      rw [asksL_app]
      show runP ((asksL row ++ []) ++ tail) _ _ = _
      rw [List.append_nil, runP_snoc, hr]
      show ((atI ps k).bind fun p => (atI (asksL row ++ tail) k).bind fun s => some (ps, here.filter fun q => !decide (q = (p, s)))) = _
      rw [hj, atI_nat j2, atI_nat (show (asksL row ++ tail)[j]? = some n by rw [List.getElem?_append_left l3]; exact j3)]
      rfl
    have hA : asksL (row ++ [(false, k)]) = asksL row := by
      rw [asksL_app]
      show asksL row ++ [] = _
      rw [List.append_nil]
    have hiff : ∀ e ∈ live, (!decide (e.2 = (p, n))) = decide (e.1 ≠ k) := fun e hel => by
      by_cases h : e.1 = k
      · obtain ⟨j', h1, h2, h3⟩ := O.at_ e hel
        have hjj : j' = j := by omega
        rw [hjj, j2] at h2
        rw [hjj, j3] at h3
        have e2 : e.2 = (p, n) := Prod.ext (Option.some.inj h2).symm (Option.some.inj h3).symm
        simp [e2, h]
      · have : ¬ e.2 = (p, n) := fun z => h (by
          have := nodup_inj O.nd e hel (k, (p, n)) he z
          rw [this])
        simp [this, h]
    refine ⟨ps, _, live.filter fun e => decide (e.1 ≠ k), hrun, ?_⟩
    rw [hA]
    have hmf : (live.filter fun e => decide (e.1 ≠ k)).map (·.2) = (live.map (·.2)).filter fun q => !decide (q = (p, n)) := by
      rw [List.filter_map]
      congr 1
      exact List.filter_congr fun e hel => (hiff e hel).symm
    refine ⟨O.len, O.many, ?_, fun e he' => O.at_ e (List.mem_filter.mp he').1, ?_, ?_, O.srt.sublist List.filter_sublist, fun b hb => O.blk b (List.mem_filter.mp hb).1, O.ends⟩
    · rw [O.out, List.filter_map]
      rfl
    · rw [hmf]
      exact O.perm.filter _
    · rw [hmf]
      exact O.nd.sublist List.filter_sublist
end Lb
end
section
set_option Elab.async false
set_option linter.all false
set_option maxRecDepth 100000
set_option maxHeartbeats 4000000
/-! P4: a row dealt out to a part and counted in its least size. -/
namespace Lb
open PySem PySem.Spec PyProof.Rows L2
structure DSt where
  found : List Deed
  own : DkI
  seen : Int
  many : Int
def stepD (szs : List Int) (s : DSt) : Deed → DSt
  | (true, n) => if (szs.any fun z => decide (z = n)) = true then ⟨s.found ++ [(true, n)], putI s.own s.seen s.many, s.seen + 1, s.many + 1⟩ else ⟨s.found, s.own, s.seen + 1, s.many⟩
  | (false, k) => match lookI s.own k with
    | some m => ⟨s.found ++ [(false, m)], s.own, s.seen, s.many⟩
    | none => s
theorem dealt_run (szs : List Int) : ∀ (r : List Deed) (s : DSt), dealtGo szs r s.found s.own s.seen s.many = (r.foldl (stepD szs) s).found
  | [], s => rfl
  | (true, n) :: r, s => by
    rw [List.foldl_cons, ← dealt_run szs r]
    show (if (szs.any fun z => decide (z = n)) = true then dealtGo szs r (s.found ++ [(true, n)]) (putI s.own s.seen s.many) (s.seen + 1) (s.many + 1) else dealtGo szs r s.found s.own (s.seen + 1) s.many) = _
    have e : stepD szs s (true, n) = if (szs.any fun z => decide (z = n)) = true then ⟨s.found ++ [(true, n)], putI s.own s.seen s.many, s.seen + 1, s.many + 1⟩ else ⟨s.found, s.own, s.seen + 1, s.many⟩ := rfl
    rw [e]
    split <;> rfl
  | (false, k) :: r, s => by
    rw [List.foldl_cons, ← dealt_run szs r]
    show (match lookI s.own k with
      | some m => dealtGo szs r (s.found ++ [(false, m)]) s.own s.seen s.many
      | none => dealtGo szs r s.found s.own s.seen s.many) = _
    have e : stepD szs s (false, k) = match lookI s.own k with
      | some m => ⟨s.found ++ [(false, m)], s.own, s.seen, s.many⟩
      | none => s := rfl
    rw [e]
    cases lookI s.own k with
    | some m => rfl
    | none => rfl
def scaleD (g : Int) (d : Deed) : Deed := if d.1 = true then (true, d.2 / g) else d
theorem lookI_app {own : DkI} {k m k' m' : Int} (h : lookI own k = some m) : lookI (own ++ [(k', m')]) k = some m := by
  unfold lookI at h ⊢
  rw [List.find?_append]
  cases e : own.find? fun p => decide (p.1 = k) with
  | none => rw [e] at h; cases h
  | some p => rw [e] at h; exact h
theorem lookI_new {own : DkI} {k m : Int} (h : ∀ p ∈ own, p.1 < k) : lookI own k = none := by
  unfold lookI
  rw [List.find?_eq_none.mpr fun p hp => ?_]
  · rfl
  · have := h p hp
    simp; omega
theorem lookI_app_new {own : DkI} {k m : Int} (h : ∀ p ∈ own, p.1 < k) : lookI (own ++ [(k, m)]) k = some m := by
  have := lookI_new (m := 0) h
  unfold lookI at this ⊢
  rw [List.find?_append]
  cases e : own.find? fun p => decide (p.1 = k) with
  | none => simp
  | some p => rw [e] at this; cases this
theorem lookI_app_ne {own : DkI} {k k' m' : Int} (h : lookI own k = none) (n : k' ≠ k) : lookI (own ++ [(k', m')]) k = none := by
  unfold lookI at h ⊢
  rw [List.find?_append]
  cases e : own.find? fun p => decide (p.1 = k) with
  | none => simp [n]
  | some p => rw [e] at h; cases h
theorem sum_filter_le {f : Int × Int → Bool} : ∀ {out : DkI}, (∀ p ∈ out, 0 ≤ p.2) → sumO (out.filter f) ≤ sumO out
  | [], _ => Int.le_refl _
  | p :: out, h => by
    have ih := sum_filter_le (f := f) fun q hq => h q (List.mem_cons_of_mem _ hq)
    have h0 := h p List.mem_cons_self
    by_cases hf : f p = true
    · rw [List.filter_cons_of_pos hf]
      show p.2 + sumO (out.filter f) ≤ p.2 + sumO out
      omega
    · rw [List.filter_cons_of_neg hf]
      show _ ≤ p.2 + sumO out
      omega
theorem RowTo.mem {ch : List Int} {B : Int} {row : List Deed} {out : DkI} {many : Int} (h : RowTo ch B row out many) : ∀ p ∈ out, p.2 ∈ ch := by
  induction h with
  | nil => exact fun p hp => nomatch hp
  | ask h hn hb ih =>
    intro p hp
    rcases List.mem_append.mp hp with z | z
    · exact ih p z
    · rw [List.mem_singleton.mp z]; exact hn
  | back h hk ih => exact fun p hp => ih p (List.mem_filter.mp hp).1
def inS (szs : List Int) (n : Int) : Bool := szs.any fun z => decide (z = n)
theorem inS_iff {szs : List Int} {n : Int} : inS szs n = true ↔ n ∈ szs := by
  unfold inS
  rw [List.any_eq_true]
  exact ⟨fun ⟨z, hz, e⟩ => by rw [← of_decide_eq_true e]; exact hz, fun h => ⟨n, h, by simp⟩⟩
structure DealtOk (szs : List Int) (g B : Int) (out : DkI) (many : Int) (s : DSt) (lv : List (Int × Int × Int)) : Prop where
  seen : s.seen = many
  flt : out.filter (fun p => inS szs p.2) = lv.map fun e => (e.1, e.2.1)
  look : ∀ e ∈ lv, lookI s.own e.1 = some e.2.2
  no : ∀ p ∈ out, inS szs p.2 = false → lookI s.own p.1 = none
  keys : ∀ p ∈ s.own, p.1 < many ∧ p.2 < s.many
  nd : (lv.map fun e => e.2.2).Nodup
  lt : ∀ e ∈ lv, e.2.2 < s.many
  row : RowTo (szs.map fun z => z / g) (B / g) (s.found.map (scaleD g)) (lv.map fun e => (e.2.2, e.2.1 / g)) s.many
theorem sum_scaled {g : Int} : ∀ {lv : List (Int × Int × Int)}, (∀ e ∈ lv, e.2.1 % g = 0) → g * sumO (lv.map fun e => (e.2.2, e.2.1 / g)) = sumO (lv.map fun e => (e.1, e.2.1))
  | [], _ => by simp [sumO]
  | e :: lv, h => by
    have ih := sum_scaled fun f hf => h f (List.mem_cons_of_mem _ hf)
    have h0 := Int.mul_ediv_cancel' (Int.dvd_of_emod_eq_zero (h e List.mem_cons_self))
    show g * (e.2.1 / g + sumO (lv.map fun e => (e.2.2, e.2.1 / g))) = e.2.1 + sumO (lv.map fun e => (e.1, e.2.1))
    rw [Int.mul_add, h0, ih]
theorem dealt_ok {ch szs : List Int} {g B : Int} (hg : 0 < g) (hch : ∀ n ∈ ch, 0 ≤ n) (hsz : ∀ n ∈ szs, n % g = 0) {row : List Deed} {out : DkI} {many : Int} (R : RowTo ch B row out many) :
    ∃ lv, DealtOk szs g B out many (row.foldl (stepD szs) ⟨[], [], 0, 0⟩) lv := by
  induction R with
  | nil => exact ⟨[], rfl, rfl, (fun e h => nomatch h), (fun p h => nomatch h), (fun p h => nomatch h), .nil, (fun e h => nomatch h), .nil⟩
  | @ask row out many n R hn hb ih =>
    obtain ⟨lv, O⟩ := ih
    rw [List.foldl_append, List.foldl_cons, List.foldl_nil]
    generalize row.foldl (stepD szs) ⟨[], [], 0, 0⟩ = s at O
    have kR := R.keys.1
    have kO : ∀ p ∈ s.own, p.1 < many := fun p hp => (O.keys p hp).1
    by_cases hin : inS szs n = true
    · have hst : stepD szs s (true, n) = ⟨s.found ++ [(true, n)], s.own ++ [(many, s.many)], s.seen + 1, s.many + 1⟩ := by
        show (if inS szs n = true then (⟨s.found ++ [(true, n)], putI s.own s.seen s.many, s.seen + 1, s.many + 1⟩ : DSt) else _) = _
        rw [if_pos hin, O.seen, putI_new kO]
      rw [hst]
      refine ⟨lv ++ [(many, n, s.many)], by show s.seen + 1 = _; rw [O.seen], ?_, fun e he => ?_, fun p hp hi => ?_, fun p hp => ?_, ?_, fun e he => ?_, ?_⟩
      · rw [List.filter_append, List.filter_cons_of_pos (by exact hin), List.filter_nil, O.flt, List.map_append]; rfl
      · rcases List.mem_append.mp he with z | z
        · exact lookI_app (O.look e z)
        · rw [List.mem_singleton.mp z]
          exact lookI_app_new kO
      · rcases List.mem_append.mp hp with z | z
        · exact lookI_app_ne (O.no p z hi) (fun e => by have := kR p z; omega)
        · rw [List.mem_singleton.mp z] at hi
          rw [show inS szs ((many, n) : Int × Int).2 = inS szs n from rfl, hin] at hi
          cases hi
      · rcases List.mem_append.mp hp with z | z
        · have := O.keys p z
          show p.1 < many + 1 ∧ p.2 < s.many + 1
          omega
        · rw [List.mem_singleton.mp z]
          show many < many + 1 ∧ s.many < s.many + 1
          omega
      · rw [List.map_append, List.nodup_append]
        refine ⟨O.nd, by simp, fun a ha b hb' => ?_⟩
        obtain ⟨e, he, rfl⟩ := List.mem_map.mp ha
        have hbm : b = s.many := by simpa using hb'
        have := O.lt e he
        omega
      · rcases List.mem_append.mp he with z | z
        · have := O.lt e z
          show e.2.2 < s.many + 1
          omega
        · rw [List.mem_singleton.mp z]
          show s.many < s.many + 1
          omega
      · rw [List.map_append, List.map_append]
        have hmem : n ∈ szs := inS_iff.mp hin
        refine RowTo.ask O.row (List.mem_map.mpr ⟨n, hmem, rfl⟩) ?_
        have hdv : ∀ e ∈ lv, e.2.1 % g = 0 := fun e he => by
          have : (e.1, e.2.1) ∈ out.filter (fun p => inS szs p.2) := by rw [O.flt]; exact List.mem_map.mpr ⟨e, he, rfl⟩
          exact hsz _ (inS_iff.mp (List.mem_filter.mp this).2)
        have e1 := sum_scaled hdv
        rw [← O.flt] at e1
        have e2 := sum_filter_le (f := fun p => inS szs p.2) (out := out) fun p hp => hch _ (R.mem p hp)
        have e3 := Int.mul_ediv_cancel' (Int.dvd_of_emod_eq_zero (hsz n hmem))
        refine (Int.le_ediv_iff_mul_le hg).mpr ?_
        rw [Int.mul_comm, Int.mul_add, e1, e3]
        omega
    · have hin' : inS szs n = false := Bool.eq_false_iff.mpr hin
      have hst : stepD szs s (true, n) = ⟨s.found, s.own, s.seen + 1, s.many⟩ := by
        show (if inS szs n = true then _ else (⟨s.found, s.own, s.seen + 1, s.many⟩ : DSt)) = _
        rw [if_neg hin]
      rw [hst]
      refine ⟨lv, by show s.seen + 1 = _; rw [O.seen], ?_, O.look, fun p hp hi => ?_, fun p hp => ?_, O.nd, O.lt, O.row⟩
      · rw [List.filter_append, List.filter_cons_of_neg (by simpa using hin'), List.filter_nil, List.append_nil, O.flt]
      · rcases List.mem_append.mp hp with z | z
        · exact O.no p z hi
        · rw [List.mem_singleton.mp z]
          exact lookI_new (m := 0) kO
      · have := O.keys p hp
        show p.1 < many + 1 ∧ p.2 < s.many
        omega
  | @back row out many k n R hk ih =>
    obtain ⟨lv, O⟩ := ih
    rw [List.foldl_append, List.foldl_cons, List.foldl_nil]
    generalize row.foldl (stepD szs) ⟨[], [], 0, 0⟩ = s at O
    have hsw : (out.filter fun p => decide (p.1 ≠ k)).filter (fun p => inS szs p.2) = (lv.filter fun e => decide (e.1 ≠ k)).map fun e => (e.1, e.2.1) := by
      have h0 : (out.filter fun p => decide (p.1 ≠ k)).filter (fun p => inS szs p.2) = (out.filter fun p => inS szs p.2).filter fun p => decide (p.1 ≠ k) := by
        rw [List.filter_filter, List.filter_filter]
        exact List.filter_congr fun p _ => Bool.and_comm _ _
      rw [h0, O.flt, List.filter_map]
      rfl
    by_cases hin : inS szs n = true
    · have hmem : (k, n) ∈ out.filter (fun p => inS szs p.2) := List.mem_filter.mpr ⟨hk, hin⟩
      rw [O.flt] at hmem
      obtain ⟨e, he, hek⟩ := List.mem_map.mp hmem
      obtain ⟨k1, n1, m⟩ := e
      have e1 : k = k1 := (congrArg Prod.fst hek).symm
      have e2 : n = n1 := (congrArg Prod.snd hek).symm
      subst e1
      subst e2
      have hlk : lookI s.own k = some m := O.look _ he
      have hst : stepD szs s (false, k) = ⟨s.found ++ [(false, m)], s.own, s.seen, s.many⟩ := by
        unfold stepD
        simp only [hlk]
      rw [hst]
      have hiff : ∀ e ∈ lv, decide (e.1 ≠ k) = decide (e.2.2 ≠ m) := fun e hel => by
        by_cases h : e.1 = k
        · have h1 := O.look e hel
          rw [h, hlk] at h1
          simp [h, (Option.some.inj h1).symm]
        · have : ¬ e.2.2 = m := fun z => h (by rw [nodup_inj O.nd e hel _ he z])
          simp [h, this]
      refine ⟨lv.filter fun e => decide (e.1 ≠ k), O.seen, hsw, fun e he' => O.look e (List.mem_filter.mp he').1, fun p hp hi => O.no p (List.mem_filter.mp hp).1 hi, O.keys, O.nd.sublist (List.Sublist.map _ List.filter_sublist), fun e he' => O.lt e (List.mem_filter.mp he').1, ?_⟩
      rw [List.map_append, List.filter_congr hiff]
      have hrow := RowTo.back (k := m) (n := n / g) O.row (List.mem_map.mpr ⟨_, he, rfl⟩)
      rw [List.filter_map] at hrow
      exact hrow
    · have hin' : inS szs n = false := Bool.eq_false_iff.mpr hin
      have hlk : lookI s.own k = none := O.no _ hk hin'
      have hst : stepD szs s (false, k) = s := by
        unfold stepD
        simp only [hlk]
      rw [hst]
      have hall : (lv.filter fun e => decide (e.1 ≠ k)) = lv := List.filter_eq_self.mpr fun e he => by
        have h1 := O.look e he
        simp
        intro z
        rw [z, hlk] at h1
        cases h1
      rw [hall] at hsw
      exact ⟨lv, O.seen, hsw, O.look, fun p hp hi => O.no p (List.mem_filter.mp hp).1 hi, O.keys, O.nd, O.lt, O.row⟩
end Lb
end
section
set_option Elab.async false
set_option linter.all false
set_option maxRecDepth 100000
set_option maxHeartbeats 4000000
/-! P5: what _law_dealt_right gives. -/
namespace Lb
open PySem PySem.Spec PyProof.Rows L2
theorem scaled_comp {g : Int} (hg : 0 < g ∧ g < 1073741824) : ∀ (row : List Deed) (e0 : DEnv), e0.length = 4 → gv 1 e0 = some (.int g) →
    compD (bdTup 2 (bdsCons (bdName 2) (bdsCons (bdName 3) bdsNil))) yesB (tupF (consF (gv 2) (consF (ifD (btest (bin2 (gv 2) (fun _ => some (.str "ask")) eqD)) (bin2 (gv 3) (gv 1) divD) (gv 3)) nilF))) e0 (row.map encD) = some ((row.map (scaleD g)).map encD)
  | [], _, _, _ => rfl
  | (b, n) :: r, [x0, x1, x2, x3], h, h1 => by
    have h1' : x1 = some (.int g) := h1
    subst h1'
    rw [List.map_cons]
    unfold compD
    have ih := scaled_comp hg r [x0, some (.int g), x2, x3] h h1
    have hw := wd_ask b
    cases b <;> simp [encD, bdTup, bdsCons, bdName, bdsNil, yesB, tupF, consF, nilF, ifD, btest, bin2, gv, eqD, eqvD, hw, asB, nl, nlAll, small, divD, hg, ih, scaleD, wd] <;> rfl
theorem ret_tuple {f : DF} {e : DEnv} {ds : List PyData} (h : f e = some (.list ds)) : (retG (callF tupleD (consF f nilF))) e = some (.rt (.tuple ds)) := by
  unfold retG callF consF nilF
  rw [h]
  rfl
theorem F_scaled_eq {g : Int} (hg : 0 < g ∧ g < 1073741824) {row : List Deed} (hl : row.length ≤ 1000) : F_law_scaled [.tuple (row.map encD), .int g] = some (.tuple ((row.map (scaleD g)).map encD)) := by
  have hs : small (row.map encD).length = true := by simp [small]; omega
  have hc := scaled_comp hg row (wipeE [some (.tuple (row.map encD)), some (.int g), none, none] [2, 3]) (by simp [wipeE]) (by simp [wipeE, gv])
  have hq : compF (seqI (gv 0)) (bdTup 2 (bdsCons (bdName 2) (bdsCons (bdName 3) bdsNil))) [2, 3] yesB (tupF (consF (gv 2) (consF (ifD (btest (bin2 (gv 2) (fun _ => some (.str "ask")) eqD)) (bin2 (gv 3) (gv 1) divD) (gv 3)) nilF))) [some (.tuple (row.map encD)), some (.int g), none, none] = some ((row.map (scaleD g)).map encD) := by
    unfold compF
    show (some (row.map encD)).bind _ = _
    rw [Option.bind_some, if_pos hs]
    exact hc
  unfold F_law_scaled defD g_law_scaled
  show (if 2 = 2 then _ else none) = _
  rw [if_pos rfl]
  show ((retG _) [some (.tuple (row.map encD)), some (.int g), none, none]).map _ = _
  rw [ret_tuple (ds := (row.map (scaleD g)).map encD)]
  · rfl
  · unfold asL
    rw [hq]
    rfl
theorem zip_enc : ∀ ps as : List Int, zipL (ps.map .int) (as.map .int) = (ps.zip as).map encP
  | [], as => by cases as <;> rfl
  | p :: ps, [] => rfl
  | p :: ps, a :: as => by
    show PyData.tuple [.int p, .int a] :: zipL (ps.map .int) (as.map .int) = _
    rw [zip_enc ps as]; rfl
theorem ends_comp : ∀ (zs : List Blk) (e0 : DEnv), e0.length = 3 → compD (bdTup 2 (bdsCons (bdName 1) (bdsCons (bdName 2) bdsNil))) yesB (bin2 (gv 1) (gv 2) addD) e0 (zs.map encP) = some ((zs.map fun p => p.1 + p.2).map .int)
  | [], _, _ => rfl
  | (a, b) :: r, [x0, x1, x2], h => by
    rw [List.map_cons]
    unfold compD
    have ih := ends_comp r [x0, x1, x2] h
    simp [encP, bdTup, bdsCons, bdName, bdsNil, yesB, bin2, gv, addD, nl, ih]
def endsL (ps as : List Int) : List Int := (ps.zip as).map fun p => p.1 + p.2
theorem F_ends_eq {near : List Deed} {ps : List Int} (hl : near.length ≤ 900) (hp : playedL near = some ps) : F_ends_of [.tuple (near.map encD)] = some (.list ((endsL ps (asksL near)).map .int)) := by
  have h1 : F_played0 [.tuple (near.map encD)] = some (.tuple (ps.map .int)) := by
    show (decDeeds (near.map encD)).bind _ = _
    rw [decDeeds_enc, Option.bind_some, hp]; rfl
  have h2 := F_asks_eq (row := near) (by omega)
  have hal := asksL_len near
  have hs : small ((ps.zip (asksL near)).map encP).length = true := by simp [small]; omega
  have hq : compF (zipI (consF (callF F_played0 (consF (gv 0) nilF)) (consF (callF F_asks_of (consF (gv 0) nilF)) nilF))) (bdTup 2 (bdsCons (bdName 1) (bdsCons (bdName 2) bdsNil))) [1, 2] yesB (bin2 (gv 1) (gv 2) addD) [some (.tuple (near.map encD)), none, none] = some ((endsL ps (asksL near)).map .int) := by
    have hz : zipI (consF (callF F_played0 (consF (gv 0) nilF)) (consF (callF F_asks_of (consF (gv 0) nilF)) nilF)) [some (.tuple (near.map encD)), none, none] = some ((ps.zip (asksL near)).map encP) := by
      simp [zipI, consF, nilF, callF, gv, h1, h2, zip_enc]
    unfold compF
    rw [hz, Option.bind_some, if_pos hs]
    exact ends_comp _ _ (by simp [wipeE])
  unfold F_ends_of defD g_ends_of
  show (if 1 = 1 then _ else none) = _
  rw [if_pos rfl]
  show ((retG _) [some (.tuple (near.map encD)), none, none]).map _ = _
  unfold retG asL
  rw [hq]
  rfl
theorem max_eq (es : List Int) : maxD [.list (.int 0 :: es.map .int)] = some (.int (maxL (0 :: es))) := by
  have := intsOf_enc (0 :: es)
  rw [List.map_cons] at this
  show (intsOf _).bind _ = _
  rw [this]
  rfl
theorem F_serves_eq {c : PyData} {near : List Deed} {ps : List Int} {N : Int} (hl : near.length ≤ 900) (hp : playedL near = some ps) : F_serves_first [c, .int N, .tuple (near.map encD)] = some (.bool (decide (maxL (0 :: endsL ps (asksL near)) ≤ N))) := by
  have h1 := F_ends_eq hl hp
  have hel : (endsL ps (asksL near)).length ≤ 900 := by
    have := asksL_len near
    unfold endsL
    simp; omega
  have hm := max_eq (endsL ps (asksL near))
  simp [F_serves_first, defD, startE, g_serves_first, retG, bin2, callF, consF, nilF, lstF, starF, gv, h1, seqD, small, show (endsL ps (asksL near)).length + 1 ≤ 1000000 by omega, show (endsL ps (asksL near)).length ≤ 999999 by omega, hm, leD]
theorem F_first_pool_eq {S : List Int} {last : Int} {near : List Deed} {ps : List Int} (hl : near.length ≤ 900) (hp : playedL near = some ps) (ht : F_tupled [.tuple (S.map .int)] = some (.tuple (S.map .int))) (hla : atI (S.map PyData.int) (-1) = some (.int last)) (h0 : 0 < last) (h1 : last < 1073741824) :
    F_first_pool [.tuple (S.map .int), .tuple (near.map encD)] = some (.int (raisedI (maxL (0 :: endsL ps (asksL near))) last)) := by
  have h2 := F_ends_eq hl hp
  have hel : (endsL ps (asksL near)).length ≤ 900 := by
    have := asksL_len near
    unfold endsL
    simp; omega
  have hm := max_eq (endsL ps (asksL near))
  have hr := F_raised_eq (x := maxL (0 :: endsL ps (asksL near))) h0 h1
  simp [F_first_pool, defD, startE, g_first_pool, retG, bin2, callF, consF, nilF, lstF, starF, gv, h2, seqD, small, show (endsL ps (asksL near)).length ≤ 999999 by omega, hm, ht, negF, ixD, hla, hr]
end Lb
end
section
set_option Elab.async false
set_option linter.all false
set_option maxRecDepth 100000
set_option maxHeartbeats 4000000
/-! P6: all that is drawn is dealt right. -/
namespace Lb
open PySem PySem.Spec PyProof.Rows L2
mutual
def eqP : PyData → PyData → Bool
  | .none, .none => true
  | .bool a, .bool b => decide (a = b)
  | .int a, .int b => decide (a = b)
  | .str a, .str b => decide (a = b)
  | .list a, .list b => eqPs a b
  | .tuple a, .tuple b => eqPs a b
  | _, _ => false
def eqPs : List PyData → List PyData → Bool
  | [], [] => true
  | x :: xs, y :: ys => eqP x y && eqPs xs ys
  | _, _ => false
end
mutual
theorem eqP_ok : ∀ (x y : PyData), eqP x y = true → x = y
  | .none, y, h => by cases y <;> first | rfl | (unfold eqP at h; cases h)
  | .bool a, y, h => by cases y <;> first | (unfold eqP at h; rw [of_decide_eq_true h]) | (unfold eqP at h; cases h)
  | .int a, y, h => by cases y <;> first | (unfold eqP at h; rw [of_decide_eq_true h]) | (unfold eqP at h; cases h)
  | .str a, y, h => by cases y <;> first | (unfold eqP at h; rw [of_decide_eq_true h]) | (unfold eqP at h; cases h)
  | .list a, y, h => by cases y <;> first | (unfold eqP at h; rw [eqPs_ok a _ h]) | (unfold eqP at h; cases h)
  | .tuple a, y, h => by cases y <;> first | (unfold eqP at h; rw [eqPs_ok a _ h]) | (unfold eqP at h; cases h)
  | .dict a, y, h => by cases y <;> (unfold eqP at h; cases h)
theorem eqPs_ok : ∀ (xs ys : List PyData), eqPs xs ys = true → xs = ys
  | [], ys, h => by cases ys <;> first | rfl | (unfold eqPs at h; cases h)
  | x :: xs, ys, h => by
    cases ys with
    | nil => unfold eqPs at h; cases h
    | cons y ys =>
      unfold eqPs at h
      rw [Bool.and_eq_true] at h
      rw [eqP_ok x y h.1, eqPs_ok xs ys h.2]
end
def optEq (x : Option PyData) (d : PyData) : Bool := match x with
  | some y => eqP y d
  | none => false
theorem optEq_ok {x : Option PyData} {d : PyData} (h : optEq x d = true) : x = some d := by
  unfold optEq at h
  cases x with
  | none => cases h
  | some y => rw [eqP_ok y d h]
def bodyR : DG := (seqG (setG 5 (bin2 (gv 4) (fun _ => some (.int 0)) ixD))
  (seqG (setG 6 (callF F_law_scaled (consF (callF F_law_dealt (consF (gv 2) (consF (gv 4) nilF))) (consF (gv 5) nilF))))
  (seqG (setG 7 (callF tupleD (consF (asL (compF (seqI (gv 4)) (bdName 9) [9] yesB (bin2 (gv 9) (gv 5) divD))) nilF)))
  (seqG (setG 8 (callF F_pool_for (consF (gv 4) (consF (gv 1) nilF))))
  (seqG (ifG (notB (btest (callF F_law_same (consF (gv 8) (consF (callF F_law_need (consF (gv 4) (consF (gv 1) nilF))) nilF))))) (retG (fun _ => some (.bool false))) skipG)
  (seqG (ifG (notB (btest (callF F_serves_first (consF (gv 7) (consF (bin2 (gv 8) (gv 5) divD) (consF (gv 6) nilF)))))) (retG (fun _ => some (.bool false))) skipG)
  (ifG (btest (bin2 (bin2 (gv 5) (callF F_first_pool (consF (gv 7) (consF (gv 6) nilF))) mulD) (gv 8) gtD)) (retG (fun _ => some (.bool false))) skipG)))))))
theorem g_dealt_eq : g_law_dealt_right = seqG (forG (seqI (gv 3)) (bdName 4) bodyR) (retG (fun _ => some (.bool true))) := rfl
/-- the least sizes, as the comprehension gives them -/
def smallF : DF := callF tupleD (consF (asL (compF (seqI (gv 4)) (bdName 9) [9] yesB (bin2 (gv 9) (gv 5) divD))) nilF)
structure PartOk (B : Int) (szs : List Int) (g N pool last : Int) (S : List Int) (ls : List (Int × Int)) : Prop where
  g0 : 0 < g ∧ g < 1073741824
  hd : szs[0]? = some g
  sS : szs.map (fun z => z / g) = S
  dv : ∀ n ∈ szs, n % g = 0
  cfg : CfgP ls (B / g)
  lsS : ls.map (·.1) = S
  lsN : ∀ p ∈ ls, p.2 ≤ N
  nn : 0 ≤ N
  poolF : F_pool_for [.tuple (szs.map .int), .int B] = some (.int pool)
  need : ∃ nd, F_law_need [.tuple (szs.map .int), .int B] = some nd ∧ F_law_same [.int pool, nd] = some (.bool true)
  pg : pool / g = N
  gN : g * N ≤ pool
  lt : atI (S.map PyData.int) (-1) = some (.int last)
  l0 : 0 < last ∧ last < 1073741824
  ml : N % last = 0
  tup : F_tupled [.tuple (S.map .int)] = some (.tuple (S.map .int))
  len : szs.length ≤ 1000
theorem small_comp {g : Int} (hg : 0 < g ∧ g < 1073741824) : ∀ (zs : List Int) (e0 : DEnv), e0.length = 10 → gv 5 e0 = some (.int g) → compD (bdName 9) yesB (bin2 (gv 9) (gv 5) divD) e0 (zs.map .int) = some ((zs.map fun z => z / g).map .int)
  | [], _, _, _ => rfl
  | z :: r, [x0, x1, x2, x3, x4, x5, x6, x7, x8, x9], h, h5 => by
    have h5' : x5 = some (.int g) := h5
    subst h5'
    rw [List.map_cons]
    unfold compD
    have ih := small_comp hg r [x0, x1, x2, x3, x4, some (.int g), x6, x7, x8, x9] h h5
    simp [bdName, yesB, bin2, gv, divD, hg, nl, ih]
theorem found_len (szs : List Int) : ∀ (r : List Deed) (s : DSt), (r.foldl (stepD szs) s).found.length ≤ s.found.length + r.length
  | [], s => by simp
  | d :: r, s => by
    rw [List.foldl_cons]
    have ih := found_len szs r (stepD szs s d)
    have h1 : (stepD szs s d).found.length ≤ s.found.length + 1 := by
      obtain ⟨b, n⟩ := d
      cases b with
      | true =>
        show (if (szs.any fun z => decide (z = n)) = true then (⟨s.found ++ [(true, n)], putI s.own s.seen s.many, s.seen + 1, s.many + 1⟩ : DSt) else ⟨s.found, s.own, s.seen + 1, s.many⟩).found.length ≤ _
        split
        · simp
        · simp
      | false =>
        show (match lookI s.own n with
          | some m => (⟨s.found ++ [(false, m)], s.own, s.seen, s.many⟩ : DSt)
          | none => s).found.length ≤ _
        cases lookI s.own n <;> simp
    rw [List.length_cons]
    omega
theorem maxL_le : ∀ {ns : List Int} {N : Int}, ns ≠ [] → (∀ n ∈ ns, n ≤ N) → maxL ns ≤ N := fun hne h => h _ (maxL_mem hne)
/-- a part of a row is played below the need -/
theorem part_play {ch szs S : List Int} {B g N pool last : Int} {ls : List (Int × Int)} (O : PartOk B szs g N pool last S ls) (hch : ∀ n ∈ ch, 0 ≤ n) {row : List Deed} {out : DkI} {many : Int} (R : RowTo ch B row out many) (hl : row.length ≤ 39) :
    ∃ near ps, near = (dealtGo szs row [] [] 0 0).map (scaleD g) ∧ near.length ≤ 39 ∧ playedL near = some ps ∧ maxL (0 :: endsL ps (asksL near)) ≤ N := by
  obtain ⟨lv, D⟩ := dealt_ok O.g0.1 hch O.dv R
  have hfd := dealt_run szs row ⟨[], [], 0, 0⟩
  have hlen := found_len szs row ⟨[], [], 0, 0⟩
  have hrow := D.row
  rw [O.sS, ← O.lsS] at hrow
  obtain ⟨ps, here, live, hr, K⟩ := run_ok O.cfg O.lsN hrow []
  rw [List.append_nil] at hr
  refine ⟨_, ps, rfl, ?_, ?_, ?_⟩
  · rw [List.length_map, show dealtGo szs row [] [] 0 0 = _ from hfd]
    simp at hlen
    omega
  · have hn : ((dealtGo szs row [] [] 0 0).map (scaleD g)).length ≤ 900 := by
      rw [List.length_map, show dealtGo szs row [] [] 0 0 = _ from hfd]
      simp at hlen
      omega
    unfold playedL
    rw [if_pos hn, plGo_run, show dealtGo szs row [] [] 0 0 = _ from hfd, hr]
    rfl
  · rw [show dealtGo szs row [] [] 0 0 = _ from hfd]
    refine maxL_le (by simp) fun n hn => ?_
    rcases List.mem_cons.mp hn with z | z
    · rw [z]; exact O.nn
    · unfold endsL at z
      obtain ⟨q, hq, rfl⟩ := List.mem_map.mp z
      obtain ⟨j, hj, e⟩ := List.mem_iff_getElem.mp hq
      have hj1 : j < ps.length := by rw [List.length_zip] at hj; omega
      have hj2 : j < (asksL ((row.foldl (stepD szs) ⟨[], [], 0, 0⟩).found.map (scaleD g))).length := by rw [List.length_zip] at hj; omega
      rw [List.getElem_zip] at e
      have := K.ends j _ _ (List.getElem?_eq_getElem hj1) (List.getElem?_eq_getElem hj2)
      rw [← e]
      exact this.2.2
theorem body_ok {ch szs S : List Int} {B g N pool last : Int} {ls : List (Int × Int)} (O : PartOk B szs g N pool last S ls) (hch : ∀ n ∈ ch, 0 ≤ n) {row : List Deed} {out : DkI} {many : Int} (R : RowTo ch B row out many) (hl : row.length ≤ 39) {c ps : PyData} {x5 x6 x7 x8 x9 : Option PyData} :
    ∃ y5 y6 y7 y8 y9, bodyR [some c, some (.int B), some (.tuple (row.map encD)), some ps, some (.tuple (szs.map .int)), x5, x6, x7, x8, x9] = some (.nx [some c, some (.int B), some (.tuple (row.map encD)), some ps, some (.tuple (szs.map .int)), y5, y6, y7, y8, y9]) := by
  obtain ⟨near, pls, hne, hnl, hpl, hmx⟩ := part_play O hch R hl
  obtain ⟨nd, hnd, hsame⟩ := O.need
  have f1 : ixD (.tuple (szs.map .int)) (.int 0) = some (.int g) := by
    show (seqD (.tuple (szs.map .int))).bind (fun ds => atI ds 0) = _
    show atI (szs.map PyData.int) ((0 : Nat) : Int) = _
    exact atI_nat (by rw [List.getElem?_map, O.hd]; rfl)
  have f2 : F_law_dealt [.tuple (row.map encD), .tuple (szs.map .int)] = some (.tuple ((dealtGo szs row [] [] 0 0).map encD)) := by
    show (decDeeds (row.map encD)).bind _ = _
    rw [decDeeds_enc, Option.bind_some, intsOf_enc, Option.bind_some, if_pos (by omega)]
  have hdl : (dealtGo szs row [] [] 0 0).length ≤ 39 := by
    rw [hne, List.length_map] at hnl; exact hnl
  have f3 : F_law_scaled [.tuple ((dealtGo szs row [] [] 0 0).map encD), .int g] = some (.tuple (near.map encD)) := by
    rw [F_scaled_eq O.g0 (by omega), hne]
  have f4 : ∀ e : DEnv, e.length = 10 → gv 4 e = some (.tuple (szs.map .int)) → gv 5 e = some (.int g) → smallF e = some (.tuple (S.map .int)) := fun e he h4 h5 => by
    have hs : small (szs.map PyData.int).length = true := by
      have := O.len
      simp [small]; omega
    have hw : gv 5 (wipeE e [9]) = some (.int g) := by
      show gv 5 (e.set 9 none) = _
      rw [gv_set (by omega), if_neg (by decide)]
      exact h5
    have hq : compF (seqI (gv 4)) (bdName 9) [9] yesB (bin2 (gv 9) (gv 5) divD) e = some (S.map .int) := by
      unfold compF seqI
      rw [h4]
      show (if small (szs.map PyData.int).length = true then _ else none) = _
      rw [if_pos hs, small_comp O.g0 szs _ (by show (e.set 9 none).length = 10; rw [List.length_set]; exact he) hw, O.sS]
    unfold smallF callF consF asL
    rw [hq]
    rfl
  have f5 := O.poolF
  have f6 : divD (.int pool) (.int g) = some (.int N) := by rw [divD_ok O.g0, O.pg]
  have f7 : F_serves_first [.tuple (S.map .int), .int N, .tuple (near.map encD)] = some (.bool true) := by
    rw [F_serves_eq (by omega) hpl, decide_eq_true hmx]
  have f8 := F_first_pool_eq (S := S) (by omega : near.length ≤ 900) hpl O.tup O.lt O.l0.1 O.l0.2
  have hra : raisedI (maxL (0 :: endsL pls (asksL near))) last ≤ N := by
    obtain ⟨_, _, r3⟩ := raisedI_spec (x := maxL (0 :: endsL pls (asksL near))) O.l0.1
    obtain ⟨c, hc⟩ := Int.dvd_of_emod_eq_zero O.ml
    rcases Int.lt_or_le N (raisedI (maxL (0 :: endsL pls (asksL near))) last) with z | z
    · have := r3 c (by rw [Int.mul_comm, ← hc]; exact z)
      rw [Int.mul_comm, ← hc] at this
      omega
    · exact z
  generalize raisedI (maxL (0 :: endsL pls (asksL near))) last = rr at f8 hra
  have f9 : mulD (.int g) (.int rr) = some (.int (g * rr)) := mulD_l ⟨by have := O.g0; omega, by have := O.g0; omega⟩
  have f10 : ¬ pool < g * rr := by
    have h1 : rr * g ≤ N * g := mul_le_of O.g0.1 hra
    have h2 := O.gN
    rw [Int.mul_comm, Int.mul_comm N g] at h1
    omega
  have g7 : setG 7 smallF [some c, some (.int B), some (.tuple (row.map encD)), some ps, some (.tuple (szs.map .int)), some (.int g), some (.tuple (near.map encD)), x7, x8, x9] = some (.nx [some c, some (.int B), some (.tuple (row.map encD)), some ps, some (.tuple (szs.map .int)), some (.int g), some (.tuple (near.map encD)), some (.tuple (S.map .int)), x8, x9]) := by
    unfold setG
    rw [f4 _ rfl rfl rfl]
    rfl
  unfold smallF at g7
  refine ⟨some (.int g), some (.tuple (near.map encD)), some (.tuple (S.map .int)), some (.int pool), x9, ?_⟩
  unfold bodyR
  have g5 : setG 5 (bin2 (gv 4) (fun _ => some (.int 0)) ixD) [some c, some (.int B), some (.tuple (row.map encD)), some ps, some (.tuple (szs.map .int)), x5, x6, x7, x8, x9] = some (.nx [some c, some (.int B), some (.tuple (row.map encD)), some ps, some (.tuple (szs.map .int)), some (.int g), x6, x7, x8, x9]) := by
    simp [setG, bin2, gv, f1]
  have g6 : setG 6 (callF F_law_scaled (consF (callF F_law_dealt (consF (gv 2) (consF (gv 4) nilF))) (consF (gv 5) nilF))) [some c, some (.int B), some (.tuple (row.map encD)), some ps, some (.tuple (szs.map .int)), some (.int g), x6, x7, x8, x9] = some (.nx [some c, some (.int B), some (.tuple (row.map encD)), some ps, some (.tuple (szs.map .int)), some (.int g), some (.tuple (near.map encD)), x7, x8, x9]) := by
    simp [setG, callF, consF, nilF, gv, f2, f3]
  have g8 : setG 8 (callF F_pool_for (consF (gv 4) (consF (gv 1) nilF))) [some c, some (.int B), some (.tuple (row.map encD)), some ps, some (.tuple (szs.map .int)), some (.int g), some (.tuple (near.map encD)), some (.tuple (S.map .int)), x8, x9] = some (.nx [some c, some (.int B), some (.tuple (row.map encD)), some ps, some (.tuple (szs.map .int)), some (.int g), some (.tuple (near.map encD)), some (.tuple (S.map .int)), some (.int pool), x9]) := by
    simp [setG, callF, consF, nilF, gv, f5]
  have g9 : (ifG (notB (btest (callF F_law_same (consF (gv 8) (consF (callF F_law_need (consF (gv 4) (consF (gv 1) nilF))) nilF))))) (retG (fun _ => some (.bool false))) skipG) [some c, some (.int B), some (.tuple (row.map encD)), some ps, some (.tuple (szs.map .int)), some (.int g), some (.tuple (near.map encD)), some (.tuple (S.map .int)), some (.int pool), x9] = some (.nx [some c, some (.int B), some (.tuple (row.map encD)), some ps, some (.tuple (szs.map .int)), some (.int g), some (.tuple (near.map encD)), some (.tuple (S.map .int)), some (.int pool), x9]) := by
    simp [ifG, notB, btest, callF, consF, nilF, gv, hnd, hsame, asB, skipG]
  have g10 : (ifG (notB (btest (callF F_serves_first (consF (gv 7) (consF (bin2 (gv 8) (gv 5) divD) (consF (gv 6) nilF)))))) (retG (fun _ => some (.bool false))) skipG) [some c, some (.int B), some (.tuple (row.map encD)), some ps, some (.tuple (szs.map .int)), some (.int g), some (.tuple (near.map encD)), some (.tuple (S.map .int)), some (.int pool), x9] = some (.nx [some c, some (.int B), some (.tuple (row.map encD)), some ps, some (.tuple (szs.map .int)), some (.int g), some (.tuple (near.map encD)), some (.tuple (S.map .int)), some (.int pool), x9]) := by
    simp [ifG, notB, btest, callF, consF, nilF, gv, bin2, f6, f7, asB, skipG]
  have g11 : (ifG (btest (bin2 (bin2 (gv 5) (callF F_first_pool (consF (gv 7) (consF (gv 6) nilF))) mulD) (gv 8) gtD)) (retG (fun _ => some (.bool false))) skipG) [some c, some (.int B), some (.tuple (row.map encD)), some ps, some (.tuple (szs.map .int)), some (.int g), some (.tuple (near.map encD)), some (.tuple (S.map .int)), some (.int pool), x9] = some (.nx [some c, some (.int B), some (.tuple (row.map encD)), some ps, some (.tuple (szs.map .int)), some (.int g), some (.tuple (near.map encD)), some (.tuple (S.map .int)), some (.int pool), x9]) := by
    simp [ifG, btest, callF, consF, nilF, gv, bin2, f8, f9, gtD, f10, asB, skipG]
  simp only [seqG, g5, g6, g7, g8, g9, g10, g11, Option.bind_some]
end Lb
end
section
set_option Elab.async false
set_option linter.all false
set_option maxRecDepth 100000
set_option maxHeartbeats 4000000
/-! P7: AllCfg. -/
namespace Lb
open PySem PySem.Spec PyProof.Rows L2
theorem loop_ok {ch : List Int} {B : Int} (hch : ∀ n ∈ ch, 0 ≤ n) {row : List Deed} {out : DkI} {many : Int} (R : RowTo ch B row out many) (hl : row.length ≤ 39) {c ps : PyData} : ∀ (qs : List PyData) (x4 x5 x6 x7 x8 x9 : Option PyData),
    (∀ q ∈ qs, ∃ szs g N pool last S ls, q = .tuple (szs.map .int) ∧ PartOk B szs g N pool last S ls) →
    ∃ y4 y5 y6 y7 y8 y9, forD (bdName 4) bodyR qs [some c, some (.int B), some (.tuple (row.map encD)), some ps, x4, x5, x6, x7, x8, x9] = some (.nx [some c, some (.int B), some (.tuple (row.map encD)), some ps, y4, y5, y6, y7, y8, y9])
  | [], x4, x5, x6, x7, x8, x9, _ => ⟨x4, x5, x6, x7, x8, x9, rfl⟩
  | q :: qs, x4, x5, x6, x7, x8, x9, h => by
    obtain ⟨szs, g, N, pool, last, S, ls, rfl, O⟩ := h q List.mem_cons_self
    obtain ⟨y5, y6, y7, y8, y9, hb⟩ := body_ok O hch R hl (c := c) (ps := ps) (x5 := x5) (x6 := x6) (x7 := x7) (x8 := x8) (x9 := x9)
    obtain ⟨z4, z5, z6, z7, z8, z9, hz⟩ := loop_ok hch R hl (c := c) (ps := ps) qs (some (.tuple (szs.map .int))) y5 y6 y7 y8 y9 fun q hq => h q (List.mem_cons_of_mem _ hq)
    refine ⟨z4, z5, z6, z7, z8, z9, ?_⟩
    show ((bdName 4 (.tuple (szs.map .int)) [some c, some (.int B), some (.tuple (row.map encD)), some ps, x4, x5, x6, x7, x8, x9]).bind fun e1 => (bodyR e1).bind fun o => _) = _
    show ((bodyR [some c, some (.int B), some (.tuple (row.map encD)), some ps, some (.tuple (szs.map .int)), x5, x6, x7, x8, x9]).bind fun o => _) = _
    rw [hb]
    exact hz
theorem dealt_right_ok {ch : List Int} {B : Int} (hch : ∀ n ∈ ch, 0 ≤ n) {row : List Deed} {out : DkI} {many : Int} (R : RowTo ch B row out many) (hl : row.length ≤ 39) {c : PyData} {qs : List PyData} (h : ∀ q ∈ qs, ∃ szs g N pool last S ls, q = .tuple (szs.map .int) ∧ PartOk B szs g N pool last S ls) :
    F_law_dealt_right [c, .int B, .tuple (row.map encD), .tuple qs] = some (.bool true) := by
  obtain ⟨z4, z5, z6, z7, z8, z9, hz⟩ := loop_ok hch R hl (c := c) (ps := .tuple qs) qs none none none none none none h
  unfold F_law_dealt_right defD
  rw [g_dealt_eq]
  show (if 4 = 4 then _ else none) = _
  rw [if_pos rfl]
  show ((seqG (forG (seqI (gv 3)) (bdName 4) bodyR) (retG (fun _ => some (.bool true)))) [some c, some (.int B), some (.tuple (row.map encD)), some (.tuple qs), none, none, none, none, none, none]).map _ = _
  unfold seqG forG
  show (((some qs).bind fun ds => forD (bdName 4) bodyR ds [some c, some (.int B), some (.tuple (row.map encD)), some (.tuple qs), none, none, none, none, none, none]).bind _).map _ = _
  rw [Option.bind_some, hz]
  rfl
/-! ### the look at every chain, budget and part -/
def linesGo (B : Int) : Int → Int → List Int → List (Int × Int)
  | _, _, [] => []
  | l, s, s' :: r => (s', l + B - B * s / s') :: linesGo B (l + B - B * s / s') s' r
def linesFor (B : Int) : List Int → List (Int × Int)
  | [] => []
  | s :: r => (s, B) :: linesGo B B s r
def asInt : Option PyData → Int := fun x => match x with
  | some (.int i) => i
  | _ => 0
def partB (B : Int) (szs : List Int) : Bool :=
  let g := szs.headD 0
  let S := szs.map fun z => z / g
  let ls := linesFor (B / g) S
  let pool := asInt (F_pool_for [.tuple (szs.map .int), .int B])
  let N := pool / g
  let last := S.getLastD 0
  decide (0 < g) && decide (g < 1073741824) && decide (szs[0]? = some g) && szs.all (fun n => decide (n % g = 0)) && cfgB ls (B / g) && decide (ls.map (·.1) = S) && ls.all (fun p => decide (p.2 ≤ N)) && decide (0 ≤ N) &&
    optEq (F_pool_for [.tuple (szs.map .int), .int B]) (.int pool) && (match F_law_need [.tuple (szs.map .int), .int B] with
      | some nd => optEq (F_law_same [.int pool, nd]) (.bool true)
      | none => false) && decide (g * N ≤ pool) && optEq (atI (S.map PyData.int) (-1)) (.int last) && decide (0 < last) && decide (last < 1073741824) && decide (N % last = 0) && optEq (F_tupled [.tuple (S.map .int)]) (.tuple (S.map .int)) && decide (szs.length ≤ 1000)
theorem part_of {B : Int} {szs : List Int} (h : partB B szs = true) : ∃ g N pool last S ls, PartOk B szs g N pool last S ls := by
  unfold partB at h
  simp only [Bool.and_eq_true, decide_eq_true_eq, List.all_eq_true] at h
  obtain ⟨⟨⟨⟨⟨⟨⟨⟨⟨⟨⟨⟨⟨⟨⟨⟨h1, h2⟩, h3⟩, h4⟩, h5⟩, h6⟩, h7⟩, h8⟩, h9⟩, h10⟩, h11⟩, h12⟩, h13⟩, h14⟩, h15⟩, h16⟩, h17⟩ := h
  refine ⟨_, _, _, _, _, _, ⟨h1, h2⟩, h3, rfl, h4, cfg_of h5, h6, h7, h8, optEq_ok h9, ?_, rfl, h11, optEq_ok h12, ⟨h13, h14⟩, h15, optEq_ok h16, h17⟩
  split at h10
  · rename_i nd hnd
    exact ⟨nd, hnd, optEq_ok h10⟩
  · cases h10
def partsB (B : Int) : List PyData → Bool
  | [] => true
  | .tuple ns :: r => (match intsOf ns with
    | some szs => partB B szs
    | none => false) && partsB B r
  | _ :: _ => false
theorem parts_of {B : Int} : ∀ {qs : List PyData}, partsB B qs = true → ∀ q ∈ qs, ∃ szs g N pool last S ls, q = .tuple (szs.map .int) ∧ PartOk B szs g N pool last S ls
  | [], _, q, hq => nomatch hq
  | .tuple ns :: r, h, q, hq => by
    unfold partsB at h
    rw [Bool.and_eq_true] at h
    rcases List.mem_cons.mp hq with z | z
    · have h1 := h.1
      split at h1
      · rename_i szs hs
        obtain ⟨g, N, pool, last, S, ls, O⟩ := part_of h1
        exact ⟨szs, g, N, pool, last, S, ls, by rw [z, intsOf_inv hs], O⟩
      · cases h1
    · exact parts_of h.2 q z
  | .none :: _, h, _, _ => by unfold partsB at h; cases h
  | .bool _ :: _, h, _, _ => by unfold partsB at h; cases h
  | .int _ :: _, h, _, _ => by unfold partsB at h; cases h
  | .str _ :: _, h, _, _ => by unfold partsB at h; cases h
  | .list _ :: _, h, _, _ => by unfold partsB at h; cases h
  | .dict _ :: _, h, _, _ => by unfold partsB at h; cases h
def oneB (ch : List Int) (B : Int) (p : PyData) : Bool := optEq (F_is_parting [chD ch, p]) (.bool true) && (match p with
    | .tuple qs => partsB B qs
    | _ => false) && (match F_total_for [chD ch, p, .int B], F_least_pool [chD ch, .int B] with
    | some (.int m), some (.int l) => !decide (m < l)
    | _, _ => false) && optEq (F_is_best_parting [chD ch, .int B, .int (2 * B * (ch.length : Nat)), .tuple [chD ch]]) (.bool true)
theorem one_of {ch : List Int} {B : Int} {p : PyData} (hch : ∀ n ∈ ch, 0 ≤ n) (h : oneB ch B p = true) : CfgOk ch B p := by
  unfold oneB at h
  simp only [Bool.and_eq_true] at h
  obtain ⟨⟨⟨h1, h2⟩, h3⟩, h4⟩ := h
  refine ⟨optEq_ok h1, fun row out many R hl => ?_, ?_, optEq_ok h4⟩
  · split at h2
    · exact dealt_right_ok hch R hl (parts_of h2)
    · cases h2
  · split at h3
    · rename_i m l hm hl
      exact ⟨m, l, hm, hl, by simpa using h3⟩
    · cases h3
def chB (ch : List Int) : Bool := ch.all (fun n => decide (0 ≤ n)) && match F_all_partings [chD ch] with
  | some (.list ps) => nlAll ps && decide (0 < ps.length) && decide (ps.length ≤ 1000) && ps.all (fun p => match p with
      | .tuple _ => true
      | _ => false) && ps.all (fun p => oneB ch (lastI ch * lastI ch * (1 + 0)) p && oneB ch (lastI ch * lastI ch * (1 + 1)) p)
  | _ => false
theorem all_of (h : chainsL.all chB = true) : AllCfg := by
  intro ch hm
  have h := List.all_eq_true.mp h ch hm
  unfold chB at h
  rw [Bool.and_eq_true] at h
  have hch : ∀ n ∈ ch, 0 ≤ n := fun n hn => of_decide_eq_true (List.all_eq_true.mp h.1 n hn)
  have h2 := h.2
  split at h2
  rotate_left
  · cases h2
  rename_i ps hps
  simp only [Bool.and_eq_true, decide_eq_true_eq, List.all_eq_true] at h2
  obtain ⟨⟨⟨⟨g1, g2⟩, g3⟩, g4⟩, g5⟩ := h2
  refine ⟨ps, hps, g1, g2, g3, fun p hp => ?_, fun t t0 t1 p hp => ?_⟩
  · have := g4 p hp
    split at this
    · exact ⟨_, rfl⟩
    · cases this
  · have : t = 0 ∨ t = 1 := by omega
    rcases this with z | z
    · rw [z]; exact one_of hch (g5 p hp).1
    · rw [z]; exact one_of hch (g5 p hp).2
theorem allCfg : AllCfg := all_of (by decide +kernel)
end Lb
end
section
set_option Elab.async false
set_option linter.all false
set_option maxRecDepth 100000
set_option maxHeartbeats 4000000
/-! G1: opponent called with a lambda; tuples joined and repeated. -/
namespace L2
open PySem PySem.Spec PyProof.Rows StX RZ NdefX LamX
def catTD : PyData → PyData → Option PyData
  | .tuple xs, .tuple ys => if xs ≠ [] ∧ ys ≠ [] ∧ xs.length + ys.length ≤ 1000 then some (.tuple (xs ++ ys)) else none
  | _, _ => none
def repTD : PyData → PyData → Option PyData
  | .tuple xs, .int k => if xs ≠ [] ∧ 2 ≤ k ∧ k ≤ 1000 ∧ xs.length ≤ 1000 then some (.tuple (List.replicate k.toNat xs).flatten) else none
  | _, _ => none
theorem all_rep {K : PySem.W.Frag} {H : Hp} {vs : List V} {ds : List PyData} (h : DpAll K H vs ds) : ∀ n : Nat, DpAll K H (List.replicate n vs).flatten (List.replicate n ds).flatten
  | 0 => .nil
  | n + 1 => by
    rw [List.replicate_succ, List.replicate_succ, List.flatten_cons, List.flatten_cons]
    exact h.append (all_rep h n)
section
variable {X : Cx}
theorem od_catT : OD X (binaryOp .Add) catTD := OpR.imp op_catT fun x y H Q ⟨dx, dy, d, h1, h2, h3, q⟩ => by
  unfold catTD at h3
  split at h3
  · split at h3
    · rename_i c
      cases h3
      obtain ⟨a, us, rfl, s1, a1⟩ := h1.tup_inv
      obtain ⟨b, ws, rfl, s2, a2⟩ := h2.tup_inv
      refine ⟨a, b, us, ws, rfl, rfl, s1, s2, fun z => ?_, ?_, fun z => ?_, fun _ p hp => q _ _ (same_new hp) (.tup (.inl (.inl upd_same)) (DpAll.same (same_new hp) _ _ (a1.append a2)))⟩
      · subst z; cases a1; exact c.1 rfl
      · rw [a1.length, a2.length, sizeLine_eq]; omega
      · subst z; cases a2; exact absurd rfl c.2.1
    · cases h3
  · cases h3
theorem od_repT : OD X (binaryOp .Mult) repTD := OpR.imp op_repT fun x y H Q ⟨dx, dy, d, h1, h2, h3, q⟩ => by
  unfold repTD at h3
  split at h3
  · split at h3
    · rename_i c
      cases h3
      obtain ⟨a, us, rfl, s1, a1⟩ := h1.tup_inv
      cases h2.int_inv
      refine ⟨a, _, us, rfl, rfl, s1, fun z => ?_, c.2.1, c.2.2.1, by rw [a1.length]; exact c.2.2.2, fun p hp => q _ _ (same_new hp) (.tup (.inl (.inl upd_same)) (DpAll.same (same_new hp) _ _ (all_rep a1 _)))⟩
      subst z; cases a1; exact c.1 rfl
    · cases h3
  · cases h3
end
theorem tabs_drop {cs : List (Addr × Obj)} {T : List NTab} {H : Hp} (t : TabsN T H) (u : HeldC cs H) (n : ∀ c q, H c = some (CodeO c q) → cs.lookup c = none) : TabsN T (dropC cs H) := fun p hp => by
  obtain ⟨ps, h1, h2, h3⟩ := t p hp
  have hc : cs.lookup p.1 = none := u.out h1 fun o z => by cases z
  refine ⟨ps, by rw [drop_out hc]; exact h1, h2, fun pos cv e => ?_⟩
  obtain ⟨c, e1, e2⟩ := h3 pos cv e
  exact ⟨c, e1, by rw [drop_out (n c _ e2)]; exact e2⟩
end L2
namespace Lb
open PySem PySem.Spec PyProof.Rows L2 StX RZ NdefX LamX
/-- opponent(e1, e2, e3, lambda ..) -/
def tOpp (K : PySem.W.Frag) (Ts : List NTab) (j : Nat) (f1 f2 f3 : DF) : TE := fun σ H Q => ∃ (e : DEnv) (own : List Int) (pool n budget : Int) (d : PyData), SD K H σ e ∧ f1 e = some (chD own) ∧ f2 e = some (.int budget) ∧ f3 e = some (.int pool) ∧ σ[j]? = some (some (.int n)) ∧ TabsN Ts H ∧ opponentD (placeG n) own budget pool = some d ∧
  ∀ v H', ExtN H H' → TabsN Ts H' → Dp K H' v d → Q v H'
theorem pe_opp {X : Cx} {Ts : List NTab} {nm : Nat → Nat → Str} {c Pt : Addr} {params : Arguments} {body : Expr} {scope : Scope} {lpos p pos : Pos} {e1 e2 e3 : Expr} {f1 f2 f3 : DF} {y : Str} {j : Nat} {n k : Nat} {N : List Str}
    (G : Has X.prog X.w X.K X.mg X.base 7 "opponent" (spOpponent X.prog X.w X.K X.mg X.base Ts)) (hr : Room k X.A) (hk : 7 ≤ k) (hg : Gl X "opponent") (h1 : PD X e1 f1) (h2 : PD X e2 f2) (h3 : PD X e3 f3)
    (TB : TabB X.base X.mg c Pt) (hcode : X.env.code = .ref c) (hm : (Pt, nm) ∈ Ts) (hn : nm lpos.line lpos.col = X.env.qual ++ "<lambda>") (hu : ∀ p ∈ Ts, p.1 = Pt → p.2 = nm) (hdef : defaultsOf params X.env = ([], []))
    (hfree : ∀ y ∈ scope.names, y.2 = .free → X.env.scope.names.lookup y.1 = some .cell ∨ X.env.scope.names.lookup y.1 = some .free) (S : NScope N ["_law_stand", "_law_size"] [y] scope) (hN : N.length = 3) (hfr : (y, NameKind.free) ∈ scope.names) (hj : X.N[j]? = some y) (hfn : ∀ x, X.fn x = true)
    (hb : ∀ (F : NF) (pm ctv : Value) (us : List Value), us.length = 2 → bindArgs (PySem.W.kla_fn F.name F.qual params body F.scope F.cl pm (.ref F.c) ctv) ⟨us, []⟩ = pure ((["_law_stand", "_law_size"] : List Str).zip us))
    (hpd : ∀ (A : Around) (outer : List Env) (s : Shared) (H : Hp) (F : NF) (f : Addr), F.scope = scope → Room 3 (A.deeper (envF F f s.heap.objs.size)) → PD (ncx C8.CX0 X.prog X.w X.K X.mg X.base N F f A outer s H C8.E0) body (callF F_first_place (consF (gv 2) (consF (gv 0) (consF (gv 1) nilF)))))
    (hs1 : starEach [e1, e2, e3, .Lambda params body scope lpos] X.env = (false, eval e1 X.env) :: starEach [e2, e3, .Lambda params body scope lpos] X.env := by rfl) (hs2 : starEach [e2, e3, .Lambda params body scope lpos] X.env = (false, eval e2 X.env) :: starEach [e3, .Lambda params body scope lpos] X.env := by rfl)
    (hs3 : starEach [e3, .Lambda params body scope lpos] X.env = (false, eval e3 X.env) :: starEach [.Lambda params body scope lpos] X.env := by rfl)
    (hpl : (backTo pos (starEach [e2, e3, .Lambda params body scope lpos] X.env)).any (·.1) = false := by rfl) :
    PE X (.Call (.Name "opponent" p) [e1, e2, e3, .Lambda params body scope lpos] [] pos) (tOpp X.K Ts j f1 f2 f3) := by
  have cp : X.Ok → Caps X (cloFrom X.env.cells scope.names []) [y] [j] := fun ok => Caps.made ok hfree (fun z hz => by rw [List.mem_singleton.mp hz]; exact hfr) (by simp [hj])
  refine PE.imp (pe_hold (cl := cloFrom X.env.cells scope.names []) (fr := [y]) (js := [j]) G hr hg (pa_cons h1 (pa_cons h2 (pa_cons h3 (pa_cons (pe_lam TB hcode hm hn hu hdef hfree) pa_nil) hs3) hs2) hs1) cp (fun z c e => clo_fr S e) hfn hk (by decide) hs1 hpl) fun σ H Q ⟨e, own, pool, nn, budget, d, hsd, g1, g2, g3, hσ, hT, hg, q⟩ => ?_
  refine ⟨e, _, hsd, g1, fun v1 H1 s1 d1 => ⟨e, _, hsd.same s1, g2, fun v2 H2 s2 d2 => ⟨e, _, (hsd.same s1).same s2, g3, fun v3 H3 s3 d3 => ⟨hT.ext (s1.trans (s2.trans s3)), fun f c' H4 eN T4 f0 f1' c1' cs B sm => ?_⟩⟩⟩⟩
  cases d2.int_inv
  cases d3.int_inv
  obtain ⟨a, us, rfl, hus, hua⟩ := d1.tup_inv
  cases hua.ints
  have hws : [j].map (slotAt σ) = [some (.int nn)] := by
    show [slotAt σ j] = _
    rw [slotAt_of hσ]
  rw [hws] at B
  have x14 : ExtN H1 H4 := (extN_same (s2.trans s3)).trans eN
  have ac : Acts X.prog X.w X.K X.mg X.base 4 f (placeG nn) (hold cs H4) := by
    refine acts_lam (H := H4) (N := N) (ps := ["_law_stand", "_law_size"]) (fr := [y]) (ws := [some (.int nn)]) S (fun pm ctv us hl => hb ⟨"<lambda>", X.env.qual ++ "<lambda>", params, [], scope, cloFrom X.env.cells scope.names [], c'⟩ pm ctv us hl) B f1' c1' sm (fun ds d' h => ?_) fun A outer s Hh vs ds d' hr' hd' hG' => ⟨_, hpd A outer s Hh _ f rfl hr', ?_⟩
    · unfold placeG at h
      split at h
      · rfl
      · cases h
    · unfold placeG at hG'
      split at hG'
      · rename_i st sz
        obtain ⟨v0, v1, rfl, k0, k1⟩ := dpAll2 hd'
        refine ⟨[some st, some sz, some (.int nn)], ?_, by simp [callF, consF, nilF, gv, hG']⟩
        have : startF N [v0, v1] [some (.int nn)] = [some v0, some v1, some (.int nn)] := by
          unfold startF
          rw [hN]; rfl
        rw [this]
        exact .consS k0 (.consS k1 (.consS (.int _) .nil))
      · cases hG'
  refine ⟨a, f, own, budget, pool, placeG nn, d, rfl, (ExtD.of (x14.trans (extN_same sm))).seqT hus, ac, T4.ext sm, hg, fun v H5 e5 T5 d5 => ?_⟩
  have hc5 : HeldC cs H5 := fun b o z => e5 _ _ (HeldC.hold (H := H4) b o z) (fun _ w => by cases w)
  refine ⟨hc5, fun hcode5 => q v _ (fun b o z n => ?_) (tabs_drop T5 hc5 hcode5) (d5.extD (extD_drop hc5))⟩
  have z4 : H4 b = some o := ((extN_same (s1.trans (s2.trans s3))).trans eN) b o z n
  have hl : cs.lookup b = none := by
    cases w : cs.lookup b with
    | none => rfl
    | some o' => rw [B.free b o' w] at z4; cases z4
  rw [drop_out hl]
  exact e5 b o (sm b o z4) n
end Lb
end
section
set_option Elab.async false
set_option linter.all false
set_option maxRecDepth 100000
set_option maxHeartbeats 4000000
/-! G2: _law_by_hand_right. -/
namespace L2
open PySem PySem.Spec PyProof.Rows StX RZ NdefX LamX
theorem tabs_lst {T : List NTab} {H : Hp} {g : Addr} {xs : List V} {u : HO} (t : TabsN T H) (hg : H g = some (.lst xs)) : TabsN T (upd H g u) := fun p hp => by
  obtain ⟨ps, h1, h2, h3⟩ := t p hp
  refine ⟨ps, by rw [upd_ne (fun z => by rw [z, hg] at h1; cases h1)]; exact h1, h2, fun pos cv e => ?_⟩
  obtain ⟨c, e1, e2⟩ := h3 pos cv e
  have hne : c ≠ g := fun z => by
    rw [z, hg] at e2
    unfold CodeO at e2
    cases e2
  exact ⟨c, e1, by rw [upd_ne hne]; exact e2⟩
/-- a def by its body, its code object known -/
theorem hasC_of {P : Program} {w : World} {K : PySem.W.Frag} {mg : Str → Option Value} {base : Heap} {x : Str} {st : Stmt} {N ps : List Str} {k : Nat} {sp : Sp} {c : Addr} (F : DefC K mg x st c) (S : FnScope N ps (defScope st))
    (hb : ∀ (kV doc pm : Value) (an : Option Addr) (cdv ct : Value) (us : List Value), us.length = ps.length → bindArgs (PySem.W.fnOf x x (defArgs st) (defBody st) (defScope st) .none kV doc pm an cdv ct) ⟨us, []⟩ = pure (ps.zip us)) (len : ∀ vs H Q E, sp vs H Q E → vs.length = ps.length)
    (hbody : ∀ (fa : Addr) (A : Around) (outer : List Env) (s : Shared) (H : Hp) (vs : List V) (Q : VK) (E : XK), Room k (A.deeper (envOfC x (defScope st) s.heap.objs.size fa (.ref c))) → sp vs H Q E →
      ∃ t, PSs (cxOf C8.CX0 P w K mg base N x (defScope st) fa (.ref c) A outer s H E).nox (defBody st) t ∧ t { nx := fun _ H' => Q .non H', rt := Q } (L2.start N vs) H) : Has P w K mg base (k + 1) x sp := by
  obtain ⟨fa, oc, od, kV, doc, pm, an, ct, osl, lk, hcd, kp, hmg⟩ := F.ex
  refine ⟨fa, _, ps, fn_of lk hcd S len fun A outer s H vs Q E hr hsp => ?_, hmg, kp, .all (hb _ _ _ _ _ _)⟩
  obtain ⟨t, h, q⟩ := hbody fa A outer s H vs Q E hr hsp
  exact ⟨t, h.nox, q⟩
end L2
namespace Lb
open PySem PySem.Spec PyProof.Rows L2 StX RZ NdefX LamX
def lamArgs : Expr → Arguments
  | .Lambda a _ _ _ => a
  | _ => ⟨[], [], none, [], [], none, []⟩
def lamBody : Expr → Expr
  | .Lambda _ b _ _ => b
  | e => e
def lamScope : Expr → Scope
  | .Lambda _ _ s _ => s
  | _ => ⟨.function, [], false, false, []⟩
def lamPos : Expr → Pos
  | .Lambda _ _ _ p => p
  | _ => ⟨0, 0, 0, 0⟩
def callArg (n : Nat) : Expr → Expr
  | .Call _ as _ _ => as.getD n (.Constant .none 0 ⟨0, 0, 0, 0⟩)
  | e => e
def forBody : Stmt → List Stmt
  | .For (body := b) .. => b
  | _ => []
def stAt (n : Nat) (l : List Stmt) : Stmt := l.getD n (.Pass ⟨0, 0, 0, 0⟩)
def asgVal : Stmt → Expr
  | .Assign _ v _ => v
  | .Expr e _ => e
  | _ => .Constant .none 0 ⟨0, 0, 0, 0⟩
def subVal : Expr → Expr
  | .Subscript v _ _ => v
  | e => e
abbrev loopB : List Stmt := forBody (stAt 5 (defBody s_law_by_hand_right))
abbrev e_lam1 : Expr := callArg 3 (asgVal (stAt 1 loopB))
abbrev e_lam2 : Expr := callArg 3 (subVal (callArg 0 (asgVal (stAt 4 loopB))))
theorem e_lam1_eq : e_lam1 = .Lambda (lamArgs e_lam1) (lamBody e_lam1) (lamScope e_lam1) (lamPos e_lam1) := rfl
theorem e_lam2_eq : e_lam2 = .Lambda (lamArgs e_lam2) (lamBody e_lam2) (lamScope e_lam2) (lamPos e_lam2) := rfl
theorem ns_lam1 : NScope ["_law_stand", "_law_size", "_law_wide"] ["_law_stand", "_law_size"] ["_law_wide"] (lamScope e_lam1) := nscope_by (by decide +kernel)
theorem ns_lam2 : NScope ["_law_stand", "_law_size", "_law_less_so"] ["_law_stand", "_law_size"] ["_law_less_so"] (lamScope e_lam2) := nscope_by (by decide +kernel)
abbrev q_lam : Str := "_law_by_hand_right.<locals>.<lambda>"
abbrev N_law_by_hand_right : List Str := ["_law_got", "_law_due", "_law_own", "_law_chain_so", "_law_row_here", "_law_wide", "_law_told", "_law_less_so"]
theorem sc_law_by_hand_right : FnScope N_law_by_hand_right [] (defScope s_law_by_hand_right) := ⟨rfl, rfl, rfl, by decide +kernel, rfl, by decide +kernel, by decide +kernel⟩
def rowH : List Deed := [(true, 4), (true, 4), (true, 4), (true, 4), (false, 1), (true, 1), (true, 1), (true, 2), (false, 0)]
def rowHD : PyData := .tuple (rowH.map encD)
structure HandOk (own : List Int) (wide : Int) : Prop where
  pool : F_pool_for [chD own, .int 16] = some (.int wide)
  told : ∃ r pl, opponentD (placeG wide) own 16 wide = some (.tuple [r, pl, .str "served"]) ∧ F_first_pool [chD own, r] = some (.int wide)
  less : ∃ l, atI (own.map PyData.int) (-1) = some (.int l) ∧ ∃ r pl, opponentD (placeG (wide - l)) own 16 (wide - l) = some (.tuple [r, pl, .str "refused"])
def handB (own : List Int) (wide : Int) : Bool := optEq (F_pool_for [chD own, .int 16]) (.int wide) && (match opponentD (placeG wide) own 16 wide with
      | some (.tuple [r, _, s]) => eqP s (.str "served") && optEq (F_first_pool [chD own, r]) (.int wide)
      | _ => false) && match atI (own.map PyData.int) (-1) with
      | some (.int l) => (match opponentD (placeG (wide - l)) own 16 (wide - l) with
        | some (.tuple [_, _, s]) => eqP s (.str "refused")
        | _ => false)
      | _ => false
theorem hand_of {own : List Int} {wide : Int} (h : handB own wide = true) : HandOk own wide := by
  unfold handB at h
  rw [Bool.and_eq_true, Bool.and_eq_true] at h
  obtain ⟨⟨h0, h1⟩, h2⟩ := h
  refine ⟨optEq_ok h0, ?_, ?_⟩
  · split at h1
    · rename_i r pl s ho
      rw [Bool.and_eq_true] at h1
      exact ⟨r, pl, by rw [ho, eqP_ok _ _ h1.1], optEq_ok h1.2⟩
    · cases h1
  · split at h2
    · rename_i l hl
      refine ⟨l, hl, ?_⟩
      split at h2
      · rename_i r pl s ho
        exact ⟨r, pl, by rw [ho, eqP_ok _ _ h2]⟩
      · cases h2
    · cases h2
def ownW : List (List Int × Int) := [([1, 2], 24), ([1, 4], 28), ([1, 2, 4], 32)]
theorem handAll : ∀ p ∈ ownW, HandOk p.1 p.2 := fun p h => hand_of (List.all_eq_true.mp (show (ownW.all fun p => handB p.1 p.2) = true by decide +kernel) p h)
def listEq (x : Option (List PyData)) (ds : List PyData) : Bool := match x with
  | some y => eqPs y ds
  | none => false
theorem listEq_ok {x : Option (List PyData)} {ds : List PyData} (h : listEq x ds = true) : x = some ds := by
  unfold listEq at h
  cases x with
  | none => cases h
  | some y => rw [eqPs_ok y ds h]
def trip (w : Int) : List PyData := [.str "served", .int w, .str "refused"]
def handI (i : Nat) : List PyData := List.replicate 9 (.bool true) ++ ((ownW.take i).map fun p => trip p.2).flatten
theorem handI_top (i : Nat) : handI (i + 3) = handI 3 := by
  unfold handI
  rw [List.take_of_length_le (show ownW.length ≤ i + 3 from Nat.le_add_left 3 i), List.take_of_length_le (show ownW.length ≤ 3 from Nat.le_refl 3)]
theorem handI_nl : ∀ i, nlAll (handI i) = true := fun i => by
  match i with
  | 0 => rfl
  | 1 => rfl
  | 2 => rfl
  | i + 3 => rw [handI_top]; rfl
theorem handI_len (i : Nat) : (handI i).length ≤ 18 := by
  match i with
  | 0 => decide
  | 1 => decide
  | 2 => decide
  | i + 3 => rw [handI_top]; decide
theorem handI_succ {i : Nat} (h : i < ownW.length) : handI (i + 1) = handI i ++ trip ownW[i].2 := by
  unfold handI
  rw [List.take_add_one, List.getElem?_eq_getElem h, List.map_append, List.flatten_append, List.append_assoc]
  simp
/-- what is closed in the by-hand part -/
def e_hand : DEnv := [none, none, none, some (chD [1, 2, 4]), some rowHD, none, none, none]
theorem hand_row : (bin2 (bin2 (bin2 (bin2 (tupF (consF (tupF (consF (fun _ => some (.str "ask")) (consF (fun _ => some (.int 4)) nilF))) nilF)) (fun _ => some (.int 4)) repTD) (tupF (consF (tupF (consF (fun _ => some (.str "back")) (consF (fun _ => some (.int 1)) nilF))) nilF)) catTD) (bin2 (tupF (consF (tupF (consF (fun _ => some (.str "ask")) (consF (fun _ => some (.int 1)) nilF))) nilF)) (fun _ => some (.int 2)) repTD) catTD) (tupF (consF (tupF (consF (fun _ => some (.str "ask")) (consF (fun _ => some (.int 2)) nilF))) (consF (tupF (consF (fun _ => some (.str "back")) (consF (fun _ => some (.int 0)) nilF))) nilF))) catTD) [none, none, none, none, none, none, none, none] = some rowHD := optEq_ok (by decide +kernel)
theorem hand_got1 : (compF (seqI (tupF (consF (tupF (consF (fun _ => some (.int 1)) nilF)) (consF (tupF (consF (fun _ => some (.int 1)) (consF (fun _ => some (.int 2)) nilF))) (consF (tupF (consF (fun _ => some (.int 1)) (consF (fun _ => some (.int 4)) nilF))) (consF (gv 3) nilF)))))) (bdName 2) [2] yesB (bin2 (callF F_pool_for (consF (gv 2) (consF (fun _ => some (.int 16)) nilF))) (callF F_least_pool (consF (gv 2) (consF (fun _ => some (.int 16)) nilF))) eqD)) e_hand = some (List.replicate 4 (.bool true)) := listEq_ok (by decide +kernel)
theorem hand_got2 : (compF (seqI (callF F_all_partings (consF (gv 3) nilF))) (bdName 2) [2] yesB (callF F_law_dealt_right (consF (gv 3) (consF (fun _ => some (.int 16)) (consF (gv 4) (consF (gv 2) nilF)))))) e_hand = some (List.replicate 5 (.bool true)) := listEq_ok (by decide +kernel)
theorem hand_t7 : (callF F_total_for (consF (gv 3) (consF (callF F_best_parting (consF (gv 3) (consF (fun _ => some (.int 16)) (consF (fun _ => some (.int 31)) nilF)))) (consF (fun _ => some (.int 16)) nilF)))) e_hand = some (.int 40) := optEq_ok (by decide +kernel)
theorem hand_t8 : (bin2 (callF F_best_parting (consF (gv 3) (consF (fun _ => some (.int 16)) (consF (fun _ => some (.int 32)) nilF)))) (tupF (consF (gv 3) nilF)) eqD) e_hand = some (.bool true) := optEq_ok (by decide +kernel)
theorem hand_same : F_law_same [.list (handI 3 ++ [.int 40] ++ [.bool true]), .list (handI 3 ++ [.int 40, .bool true])] = some (.bool true) := optEq_ok (by decide +kernel)
end Lb
end
section
set_option Elab.async false
set_option linter.all false
set_option maxRecDepth 100000
set_option maxHeartbeats 4000000
/-! G3: _law_by_hand_right. -/
namespace Lb
open PySem PySem.Spec PyProof.Rows L2 StX RZ NdefX LamX
/-- where the loop stands: g, u the lists -/
structure HandAt (K : PySem.W.Frag) (Ts : List NTab) (H0 : Hp) (a : Addr) (xs : List V) (i : Nat) (g u : Addr) (v3 v4 : V) (H : Hp) : Prop where
  got : ∃ gv, H g = some (.lst gv) ∧ DpAll K H gv (handI i)
  due : ∃ uv, H u = some (.lst uv) ∧ DpAll K H uv (handI i)
  ne : g ≠ u
  c3 : Dp K H v3 (chD [1, 2, 4])
  c4 : Dp K H v4 rowHD
  ext : ExtN H0 H
  tab : TabsN Ts H
  src : SqT K H a xs
  xd : DpAll K H xs (ownW.map fun p => chD p.1)
section
variable {P : Program} {w : World} {K : PySem.W.Frag} {mg : Str → Option Value} {base : Heap}
theorem has_by_hand {c Pb : Addr} {Ts : List NTab} (T : Txt K mg) (D : DefC K mg "_law_by_hand_right" s_law_by_hand_right c) (TB : TabB base mg c Pb) (hm : (Pb, fun _ _ => q_lam) ∈ Ts) (hu : ∀ p ∈ Ts, p.1 = Pb → p.2 = fun _ _ => q_lam)
    (G_pool_for : Has P w K mg base 2 "pool_for" (spD K F_pool_for)) (G_least_pool : Has P w K mg base 6 "least_pool" (spD K F_least_pool)) (G_all_partings : Has P w K mg base 1 "all_partings" (spD K F_all_partings)) (G_law_dealt_right : Has P w K mg base 6 "_law_dealt_right" (spD K F_law_dealt_right))
    (G_opponent : Has P w K mg base 7 "opponent" (spOpponent P w K mg base Ts)) (G_first_place : Has P w K mg base 3 "first_place" (spD K F_first_place)) (G_first_pool : Has P w K mg base 5 "first_pool" (spD K F_first_pool)) (G_total_for : Has P w K mg base 4 "total_for" (spD K F_total_for)) (G_best_parting : Has P w K mg base 5 "best_parting" (spD K F_best_parting)) (G_law_same : Has P w K mg base 2 "_law_same" (spD K F_law_same)) :
    Has P w K mg base 8 "_law_by_hand_right" (spHand Ts) := by
  refine hasC_of D sc_law_by_hand_right (fun _ _ _ _ _ _ us hl => match us, hl with | [], _ => rfl) (fun vs H Q E ⟨h, _⟩ => by rw [h]; rfl) fun fa A outer s0 H vs Q E hr ⟨hvs, hT, fin⟩ => ?_
  subst hvs
  have hqq : ((cxOf C8.CX0 P w K mg base N_law_by_hand_right "_law_by_hand_right" (defScope s_law_by_hand_right) fa (.ref c) A outer s0 H E).nox.env.qual ++ ("<lambda>" : Str)) = q_lam := by
    show (("_law_by_hand_right" : Str) ++ ".<locals>.") ++ "<lambda>" = q_lam
    decide +kernel
  have hpd1 : ∀ (A : Around) (outer : List Env) (s : Shared) (H : Hp) (F : NF) (f : Addr), F.scope = lamScope e_lam1 → Room 3 (A.deeper (envF F f s.heap.objs.size)) → PD (ncx C8.CX0 P w K mg base ["_law_stand", "_law_size", "_law_wide"] F f A outer s H C8.E0) (lamBody e_lam1) (callF F_first_place (consF (gv 2) (consF (gv 0) (consF (gv 1) nilF)))) := fun A outer s H F f hF hr' => by
    obtain ⟨n1, n2, n3, n4, n5, n6, n7⟩ := F
    have hF : n5 = lamScope e_lam1 := hF
    subst hF
    exact pd_call (X := ncx C8.CX0 P w K mg base ["_law_stand", "_law_size", "_law_wide"] ⟨n1, n2, n3, n4, lamScope e_lam1, n6, n7⟩ f A outer s H C8.E0) G_first_place hr' (by rfl) (pad_cons (pd_var 2) (pad_cons (pd_var 0) (pad_cons (pd_var 1) pad_nil)))
  have hpd2 : ∀ (A : Around) (outer : List Env) (s : Shared) (H : Hp) (F : NF) (f : Addr), F.scope = lamScope e_lam2 → Room 3 (A.deeper (envF F f s.heap.objs.size)) → PD (ncx C8.CX0 P w K mg base ["_law_stand", "_law_size", "_law_less_so"] F f A outer s H C8.E0) (lamBody e_lam2) (callF F_first_place (consF (gv 2) (consF (gv 0) (consF (gv 1) nilF)))) := fun A outer s H F f hF hr' => by
    obtain ⟨n1, n2, n3, n4, n5, n6, n7⟩ := F
    have hF : n5 = lamScope e_lam2 := hF
    subst hF
    exact pd_call (X := ncx C8.CX0 P w K mg base ["_law_stand", "_law_size", "_law_less_so"] ⟨n1, n2, n3, n4, lamScope e_lam2, n6, n7⟩ f A outer s H C8.E0) G_first_place hr' (by rfl) (pad_cons (pd_var 2) (pad_cons (pd_var 0) (pad_cons (pd_var 1) pad_nil)))
  have p0 : PS (cxOf C8.CX0 P w K mg base N_law_by_hand_right "_law_by_hand_right" (defScope s_law_by_hand_right) fa (.ref c) A outer s0 H E).nox (stAt 0 (defBody s_law_by_hand_right)) _ := ps_asg (pe_tup (pa_cons (pd_tup (pad_cons pd_int (pad_cons pd_int (pad_cons pd_int pad_nil)))) (pa_cons (pd_bin od_catT (pd_bin od_catT (pd_bin od_catT (pd_bin od_repT (pd_tup (pad_cons (pd_tup (pad_cons pd_str (pad_cons pd_int pad_nil))) pad_nil)) pd_int) (pd_tup (pad_cons (pd_tup (pad_cons pd_str (pad_cons pd_int pad_nil))) pad_nil))) (pd_bin od_repT (pd_tup (pad_cons (pd_tup (pad_cons pd_str (pad_cons pd_int pad_nil))) pad_nil)) pd_int)) (pd_tup (pad_cons (pd_tup (pad_cons pd_str (pad_cons pd_int pad_nil))) (pad_cons (pd_tup (pad_cons pd_str (pad_cons pd_int pad_nil))) pad_nil)))) pa_nil))) (pg_tup rfl (pgs_cons (pg_name (i := 3) sc_law_by_hand_right.nd rfl (.inr rfl)) (pgs_cons (pg_name (i := 4) sc_law_by_hand_right.nd rfl (.inr rfl)) pgs_nil)))
  have p1 : PS (cxOf C8.CX0 P w K mg base N_law_by_hand_right "_law_by_hand_right" (defScope s_law_by_hand_right) fa (.ref c) A outer s0 H E).nox (stAt 1 (defBody s_law_by_hand_right)) _ := ps_setF 0 (own := [("_law_own", 2)]) rfl sc_law_by_hand_right.nd (pid_seq (pd_tup (pad_cons (pd_tup (pad_cons pd_int pad_nil)) (pad_cons (pd_tup (pad_cons pd_int (pad_cons pd_int pad_nil))) (pad_cons (pd_tup (pad_cons pd_int (pad_cons pd_int pad_nil))) (pad_cons (pd_var 3) pad_nil)))))) (blkOk_by (N := N_law_by_hand_right) (sc := defScope s_law_by_hand_right) (by decide +kernel)) (fun _ _ _ _ _ => (pgd_name 2 sc_law_by_hand_right.nd)) (fun _ _ _ _ _ => ptsd_nil) (fun _ _ _ _ _ => (pd_cmp (od_eq hr.units) (pd_call G_pool_for hr (by rfl) (pad_cons (pd_var 2) (pad_cons pd_int pad_nil))) (pd_call G_least_pool hr (by rfl) (pad_cons (pd_var 2) (pad_cons pd_int pad_nil)))))
  have p2 : PS (cxOf C8.CX0 P w K mg base N_law_by_hand_right "_law_by_hand_right" (defScope s_law_by_hand_right) fa (.ref c) A outer s0 H E).nox (stAt 2 (defBody s_law_by_hand_right)) _ := ps_set (i := 1) sc_law_by_hand_right.nd rfl (.inl rfl) (pe_op op_rep (pe_lst (pa_cons pe_bl pa_nil)) pe_int)
  have p3 : PS (cxOf C8.CX0 P w K mg base N_law_by_hand_right "_law_by_hand_right" (defScope s_law_by_hand_right) fa (.ref c) A outer s0 H E).nox (stAt 3 (defBody s_law_by_hand_right)) _ := ps_set (i := 0) sc_law_by_hand_right.nd rfl (.inl rfl) (pe_op op_cat (pv 0) (pf_lc (own := [("_law_own", 2)]) rfl sc_law_by_hand_right.nd (pid_seq (pd_call G_all_partings hr (by rfl) (pad_cons (pd_var 3) pad_nil))) (blkOk_by (N := N_law_by_hand_right) (sc := defScope s_law_by_hand_right) (by decide +kernel)) (fun _ _ _ _ _ => (pgd_name 2 sc_law_by_hand_right.nd)) (fun _ _ _ _ _ => ptsd_nil) (fun _ _ _ _ _ => (pd_call G_law_dealt_right hr (by rfl) (pad_cons (pd_var 3) (pad_cons pd_int (pad_cons (pd_var 4) (pad_cons (pd_var 2) pad_nil))))))))
  have p4 : PS (cxOf C8.CX0 P w K mg base N_law_by_hand_right "_law_by_hand_right" (defScope s_law_by_hand_right) fa (.ref c) A outer s0 H E).nox (stAt 4 (defBody s_law_by_hand_right)) _ := ps_set (i := 1) sc_law_by_hand_right.nd rfl (.inl rfl) (pe_op op_cat (pv 1) (pe_op op_rep (pe_lst (pa_cons pe_bl pa_nil)) pe_int))
  have p6 : PS (cxOf C8.CX0 P w K mg base N_law_by_hand_right "_law_by_hand_right" (defScope s_law_by_hand_right) fa (.ref c) A outer s0 H E).nox (stAt 6 (defBody s_law_by_hand_right)) _ := ps_set (i := 0) sc_law_by_hand_right.nd rfl (.inl rfl) (pe_op op_cat (pv 0) (pe_lst (pa_cons (pd_call G_total_for hr (by rfl) (pad_cons (pd_var 3) (pad_cons (pd_call G_best_parting hr (by rfl) (pad_cons (pd_var 3) (pad_cons pd_int (pad_cons pd_int pad_nil)))) (pad_cons pd_int pad_nil)))) pa_nil)))
  have p7 : PS (cxOf C8.CX0 P w K mg base N_law_by_hand_right "_law_by_hand_right" (defScope s_law_by_hand_right) fa (.ref c) A outer s0 H E).nox (stAt 7 (defBody s_law_by_hand_right)) _ := ps_set (i := 0) sc_law_by_hand_right.nd rfl (.inl rfl) (pe_op op_cat (pv 0) (pe_lst (pa_cons (pd_cmp (od_eq hr.units) (pd_call G_best_parting hr (by rfl) (pad_cons (pd_var 3) (pad_cons pd_int (pad_cons pd_int pad_nil)))) (pd_tup (pad_cons (pd_var 3) pad_nil))) pa_nil)))
  have p8 : PS (cxOf C8.CX0 P w K mg base N_law_by_hand_right "_law_by_hand_right" (defScope s_law_by_hand_right) fa (.ref c) A outer s0 H E).nox (stAt 8 (defBody s_law_by_hand_right)) _ := ps_ret (pe_has G_law_same hr (by rfl) (pa_cons (pv 0) (pa_cons (pe_op op_cat (pv 1) (pe_lst (pa_cons pe_int (pa_cons pe_bl pa_nil)))) pa_nil)))
  have l0 : PS (cxOf C8.CX0 P w K mg base N_law_by_hand_right "_law_by_hand_right" (defScope s_law_by_hand_right) fa (.ref c) A outer s0 H E).nox (stAt 0 loopB) _ := ps_set (i := 5) sc_law_by_hand_right.nd rfl (.inr rfl) (pd_call G_pool_for hr (by rfl) (pad_cons (pd_var 2) (pad_cons pd_int pad_nil)))
  have l1 : PS (cxOf C8.CX0 P w K mg base N_law_by_hand_right "_law_by_hand_right" (defScope s_law_by_hand_right) fa (.ref c) A outer s0 H E).nox (stAt 1 loopB) _ := ps_set (i := 6) sc_law_by_hand_right.nd rfl (.inl rfl) (pe_opp (n := 0) (Ts := Ts) (nm := fun _ _ => q_lam) (c := c) (Pt := Pb) (params := lamArgs e_lam1) (body := lamBody e_lam1) (scope := lamScope e_lam1) (lpos := lamPos e_lam1) (y := "_law_wide") (j := 5) (N := ["_law_stand", "_law_size", "_law_wide"]) G_opponent hr (by decide) (by rfl) (pd_var 2) pd_int (pd_var 5) TB rfl hm hqq.symm hu rfl (ndef_free (sc := defScope s_law_by_hand_right) (fr := ["_law_wide"]) (by decide +kernel)) ns_lam1 rfl (ndef_fr (sc := defScope s_law_by_hand_right) (fr := ["_law_wide"]) (by decide +kernel) _ List.mem_cons_self) rfl (fun _ => rfl) (fun F pm ctv us hl => match us, hl with | [_, _], _ => rfl) hpd1)
  have l2 : PS (cxOf C8.CX0 P w K mg base N_law_by_hand_right "_law_by_hand_right" (defScope s_law_by_hand_right) fa (.ref c) A outer s0 H E).nox (stAt 2 loopB) _ := ps_set (i := 0) sc_law_by_hand_right.nd rfl (.inl rfl) (pe_op op_cat (pv 0) (pe_lst (pa_cons (pd_ix (pd_var 6) pd_int) (pa_cons (pd_call G_first_pool hr (by rfl) (pad_cons (pd_var 2) (pad_cons (pd_ix (pd_var 6) pd_int) pad_nil))) pa_nil))))
  have l3 : PS (cxOf C8.CX0 P w K mg base N_law_by_hand_right "_law_by_hand_right" (defScope s_law_by_hand_right) fa (.ref c) A outer s0 H E).nox (stAt 3 loopB) _ := ps_set (i := 7) sc_law_by_hand_right.nd rfl (.inr rfl) (pd_bin od_sub (pd_var 5) (pd_ix (pd_var 2) (pd_neg pd_int)))
  have l4 : PS (cxOf C8.CX0 P w K mg base N_law_by_hand_right "_law_by_hand_right" (defScope s_law_by_hand_right) fa (.ref c) A outer s0 H E).nox (stAt 4 loopB) _ := ps_expr (pe_bm PySem.F.plainAttrs_list PySem.F.slot_list_append PySem.F.type_list_append mt_append (pv 0) (pa_cons (pe_ix ix_tup (pe_opp (n := 0) (Ts := Ts) (nm := fun _ _ => q_lam) (c := c) (Pt := Pb) (params := lamArgs e_lam2) (body := lamBody e_lam2) (scope := lamScope e_lam2) (lpos := lamPos e_lam2) (y := "_law_less_so") (j := 7) (N := ["_law_stand", "_law_size", "_law_less_so"]) G_opponent hr (by decide) (by rfl) (pd_var 2) pd_int (pd_var 7) TB rfl hm hqq.symm hu rfl (ndef_free (sc := defScope s_law_by_hand_right) (fr := ["_law_less_so"]) (by decide +kernel)) ns_lam2 rfl (ndef_fr (sc := defScope s_law_by_hand_right) (fr := ["_law_less_so"]) (by decide +kernel) _ List.mem_cons_self) rfl (fun _ => rfl) (fun F pm ctv us hl => match us, hl with | [_, _], _ => rfl) hpd2) pe_int (fun _ _ => rfl)) pa_nil))
  have l5 : PS (cxOf C8.CX0 P w K mg base N_law_by_hand_right "_law_by_hand_right" (defScope s_law_by_hand_right) fa (.ref c) A outer s0 H E).nox (stAt 5 loopB) _ := ps_set (i := 1) sc_law_by_hand_right.nd rfl (.inl rfl) (pe_op op_cat (pv 1) (pe_lst (pa_cons pe_str (pa_cons (pv 5) (pa_cons pe_str pa_nil)))))
  have p5 : PS (cxOf C8.CX0 P w K mg base N_law_by_hand_right "_law_by_hand_right" (defScope s_law_by_hand_right) fa (.ref c) A outer s0 H E).nox (stAt 5 (defBody s_law_by_hand_right)) _ := ps_for PassesOwn.never rfl (pi_tup (pd_tup (pad_cons (pd_tup (pad_cons pd_int (pad_cons pd_int pad_nil))) (pad_cons (pd_tup (pad_cons pd_int (pad_cons pd_int pad_nil))) (pad_cons (pd_var 3) pad_nil))))) (pg_name (i := 2) sc_law_by_hand_right.nd rfl (.inl rfl)) (pss_cons l0 (pss_cons l1 (pss_cons l2 (pss_cons l3 (pss_cons l4 (pss_one l5))))))
  refine ⟨_, pss_cons p0 (pss_cons p1 (pss_cons p2 (pss_cons p3 (pss_cons p4 (pss_cons p5 (pss_cons p6 (pss_cons p7 (pss_one p8)))))))), ?_⟩
  clear p0 p1 p2 p3 p4 p5 p6 p7 p8 l0 l1 l2 l3 l4 l5
  refine ⟨[none, none, none, none, none, none, none, none], chD [1, 2, 4], sd_none _, by rfl, fun v3 H1 s1 d3 => ⟨[none, none, none, none, none, none, none, none], rowHD, sd_none _, optEq_ok (by decide +kernel), fun v4 H2 s2 d4 => ⟨by show 2 ≤ sizeLine; decide, fun T1 hT1 => ⟨T1, _, rfl, .inl (.inl upd_same), rfl, _, _, rfl, _, _, rfl, rfl, ?_⟩⟩⟩⟩
  have sT := same_new (o := .tup [v3, v4]) hT1
  have d3' := Dp.same (s2.trans sT) _ _ d3
  have d4' := Dp.same sT _ _ d4
  have s02 := (s1.trans s2).trans sT
  generalize upd H2 T1 (.tup [v3, v4]) = H3 at sT d3' d4' s02
  have sd3 : SD K H3 [none, none, none, some v3, some v4, none, none, none] e_hand := .consN (.consN (.consN (.consS d3' (.consS d4' (.consN (.consN (.consN .nil)))))))
  refine ⟨e_hand, _, sd3, hand_got1, fun g1 gv1 H4 hg1 s4 hl4 hd4 => ?_⟩
  refine ⟨by show 1 ≤ sizeLine; decide, fun l hl => ⟨l, 4, _, rfl, rfl, upd_same, by decide, by decide, by show 1 * 4 ≤ sizeLine; decide, fun u1 hu1 => ?_⟩⟩
  have s5 := (same_new (o := .lst [V.bl true]) hl).trans (same_new (o := .lst (List.replicate (4 : Int).toNat [V.bl true]).flatten) hu1)
  have hU1 : (upd (upd H4 l (.lst [V.bl true])) u1 (.lst (List.replicate (4 : Int).toNat [V.bl true]).flatten)) u1 = some (.lst (List.replicate (4 : Int).toNat [V.bl true]).flatten) := upd_same
  have hg1' := s5 _ _ hl4
  have hd5 := DpAll.same s5 _ _ hd4
  have s45 := s4.trans s5
  generalize upd (upd H4 l (.lst [V.bl true])) u1 (.lst (List.replicate (4 : Int).toNat [V.bl true]).flatten) = H5 at s5 hU1 hg1' hd5 s45
  have sd5 : SD K H5 [some (.ref g1), some (.ref u1), none, some v3, some v4, none, none, none] e_hand := .consN (.consN (.consN (.consS (Dp.same s45 _ _ d3') (.consS (Dp.same s45 _ _ d4') (.consN (.consN (.consN .nil)))))))
  refine ⟨_, rfl, e_hand, _, sd5, hand_got2, fun q2 qv H6 hq2 s6 hl6 hd6 => ?_⟩
  have hgl : gv1.length = 4 := hd4.length
  have hql : qv.length = 5 := hd6.length
  refine ⟨g1, q2, gv1, qv, rfl, rfl, s6 _ _ hg1', hl6, by rw [hgl, hql, sizeLine_eq]; decide, fun g2 hg2 => ?_⟩
  have s7 := same_new (o := .lst (gv1 ++ qv)) hg2
  have hG2 : (upd H6 g2 (.lst (gv1 ++ qv))) g2 = some (.lst (gv1 ++ qv)) := upd_same
  have hd7 : DpAll K (upd H6 g2 (.lst (gv1 ++ qv))) (gv1 ++ qv) (handI 0) := (DpAll.same (s6.trans s7) _ _ hd5).append (DpAll.same s7 _ _ hd6)
  have hU7 := s7 _ _ (s6 _ _ hU1)
  have s47 := s45.trans (s6.trans s7)
  generalize upd H6 g2 (.lst (gv1 ++ qv)) = H7 at s7 hG2 hd7 hU7 s47
  refine ⟨_, rfl, by show 1 ≤ sizeLine; decide, fun l2 hl2 => ⟨l2, 5, _, rfl, rfl, upd_same, by decide, by decide, by show 1 * 5 ≤ sizeLine; decide, fun u2 hu2 => ?_⟩⟩
  have s8 := (same_new (o := .lst [V.bl true]) hl2).trans (same_new (o := .lst (List.replicate (5 : Int).toNat [V.bl true]).flatten) hu2)
  refine ⟨u1, u2, _, _, rfl, rfl, s8 _ _ hU7, upd_same, by show 4 + 5 ≤ sizeLine; decide, fun u3 hu3 => ?_⟩
  have s9 := s8.trans (same_new (o := .lst ((List.replicate (4 : Int).toNat [V.bl true]).flatten ++ (List.replicate (5 : Int).toNat [V.bl true]).flatten)) hu3)
  have hU9 : (upd (upd (upd H7 l2 (.lst [V.bl true])) u2 (.lst (List.replicate (5 : Int).toNat [V.bl true]).flatten)) u3 (.lst ((List.replicate (4 : Int).toNat [V.bl true]).flatten ++ (List.replicate (5 : Int).toNat [V.bl true]).flatten))) u3 = some (.lst ((List.replicate (4 : Int).toNat [V.bl true]).flatten ++ (List.replicate (5 : Int).toNat [V.bl true]).flatten)) := upd_same
  have hgu : g2 ≠ u3 := fun z => by
    have := s8 _ _ hG2
    rw [z, hu3] at this
    cases this
  generalize upd (upd (upd H7 l2 (.lst [V.bl true])) u2 (.lst (List.replicate (5 : Int).toNat [V.bl true]).flatten)) u3 (.lst ((List.replicate (4 : Int).toNat [V.bl true]).flatten ++ (List.replicate (5 : Int).toNat [V.bl true]).flatten)) = H9 at s9 hU9
  have s49 := s47.trans s9
  have sd9 : SD K H9 [some (.ref g2), some (.ref u3), none, some v3, some v4, none, none, none] e_hand := .consN (.consN (.consN (.consS (Dp.same s49 _ _ d3') (.consS (Dp.same s49 _ _ d4') (.consN (.consN (.consN .nil)))))))
  refine ⟨e_hand, .tuple (ownW.map fun p => chD p.1), sd9, by rfl, fun vT HA sA dT => ?_⟩
  obtain ⟨a, xs, rfl, hxs, hall⟩ := dT.tup_inv
  have sHA := s02.trans (s49.trans sA)
  have st0 : HandAt K Ts H a xs 0 g2 u3 v3 v4 HA := ⟨⟨_, (s9.trans sA) _ _ hG2, DpAll.same (s9.trans sA) _ _ hd7⟩, ⟨_, sA _ _ hU9, (all_rep (.cons (.bl true) .nil) 4).append (all_rep (.cons (.bl true) .nil) 5)⟩, hgu, Dp.same (s49.trans sA) _ _ d3', Dp.same (s49.trans sA) _ _ d4', extN_same sHA, hT.ext sHA, hxs, hall⟩
  refine ⟨a, rfl, ⟨xs, hxs⟩, for_it walk_tup (fun i σ' H' => ∃ (g u : Addr) (y2 y5 y6 y7 : Option V), σ' = [some (.ref g), some (.ref u), y2, some v3, some v4, y5, y6, y7] ∧ HandAt K Ts H a xs i g u v3 v4 H')
    ⟨g2, u3, none, none, none, none, rfl, st0⟩ (fun i σ' H' _ ⟨_, _, _, _, _, _, _, z⟩ => z.src) ?turn ?done⟩
  case done =>
    rintro σ' H' ⟨g, u, y2, y5, y6, y7, rfl, S⟩
    have hx3 : xs.length = 3 := hall.length
    rw [hx3] at S
    obtain ⟨gv, h1, h2⟩ := S.got
    obtain ⟨uv, h3, h4⟩ := S.due
    have n9 := handI_len 3
    refine ⟨_, rfl, e_hand, _, .consN (.consN (.consN (.consS S.c3 (.consS S.c4 (.consN (.consN (.consN .nil))))))), hand_t7, fun vt H8 s8 d8 => ?_⟩
    cases d8.int_inv
    refine ⟨by show 1 ≤ sizeLine; decide, fun l hl => ⟨g, l, gv, [V.int 40], rfl, rfl, (s8.trans (same_new hl)) _ _ h1, upd_same, by rw [h2.length, sizeLine_eq]; simp; omega, fun g3 hg3 => ?_⟩⟩
    have sb := (s8.trans (same_new (o := .lst [V.int 40]) hl)).trans (same_new (o := .lst (gv ++ [V.int 40])) hg3)
    have hg3' : (upd (upd H8 l (.lst [V.int 40])) g3 (.lst (gv ++ [V.int 40]))) g3 = some (.lst (gv ++ [V.int 40])) := upd_same
    have hd3 := (DpAll.same sb _ _ h2).append (.cons (.int 40) .nil)
    generalize upd (upd H8 l (.lst [V.int 40])) g3 (.lst (gv ++ [V.int 40])) = HB at sb hg3' hd3
    refine ⟨_, rfl, e_hand, _, .consN (.consN (.consN (.consS (Dp.same sb _ _ S.c3) (.consS (Dp.same sb _ _ S.c4) (.consN (.consN (.consN .nil))))))), hand_t8, fun vt H10 s10 d10 => ?_⟩
    cases d10.bl_inv
    refine ⟨by show 1 ≤ sizeLine; decide, fun l2 hl2 => ⟨g3, l2, _, [V.bl true], rfl, rfl, (s10.trans (same_new hl2)) _ _ hg3', upd_same, by rw [hd3.length, sizeLine_eq]; simp; omega, fun g4 hg4 => ?_⟩⟩
    have sc := (s10.trans (same_new (o := .lst [V.bl true]) hl2)).trans (same_new (o := .lst ((gv ++ [V.int 40]) ++ [V.bl true])) hg4)
    have hg4' : (upd (upd H10 l2 (.lst [V.bl true])) g4 (.lst ((gv ++ [V.int 40]) ++ [V.bl true]))) g4 = some (.lst ((gv ++ [V.int 40]) ++ [V.bl true])) := upd_same
    have hd4 := (DpAll.same sc _ _ hd3).append (.cons (.bl true) .nil)
    generalize upd (upd H10 l2 (.lst [V.bl true])) g4 (.lst ((gv ++ [V.int 40]) ++ [V.bl true])) = HC at sc hg4' hd4
    have sbc := sb.trans sc
    refine ⟨_, rfl, _, rfl, by show 2 ≤ sizeLine; decide, fun l3 hl3 => ⟨u, l3, uv, [V.int 40, V.bl true], rfl, rfl, (sbc.trans (same_new hl3)) _ _ h3, upd_same, by rw [h4.length, sizeLine_eq]; simp; omega, fun r hr => ?_⟩⟩
    have sd := (same_new (o := .lst [V.int 40, V.bl true]) hl3).trans (same_new (o := .lst (uv ++ [V.int 40, V.bl true])) hr)
    refine ⟨[.list (handI 3 ++ [.int 40] ++ [.bool true]), .list (handI 3 ++ [.int 40, .bool true])], .bool true, .cons (.lst (SqL.of (sd _ _ hg4')) (DpAll.same sd _ _ hd4)) (.cons (.lst (SqL.of upd_same) ((DpAll.same (sbc.trans sd) _ _ h4).append (.cons (.int 40) (.cons (.bl true) .nil)))) .nil), hand_same, fun v H' se d' => ?_⟩
    rw [d'.bl_inv]
    exact fin H' (S.ext.trans (extN_same (sbc.trans (sd.trans se))))
  case turn =>
    rintro i x σ' H' H2' hi ⟨g, u, y2, y5, y6, y7, rfl, S⟩ ⟨rfl, hx⟩
    have hi' : i < ownW.length := by rw [hall.length, List.length_map] at hi; exact hi
    obtain ⟨dx, hdx, hdv⟩ := S.xd.getV hx
    rw [List.getElem?_map, List.getElem?_eq_getElem hi'] at hdx
    cases hdx
    have hok := handAll _ (List.getElem_mem hi')
    have hsu := handI_succ hi'
    generalize ownW[i] = pw at hok hsu hdv
    obtain ⟨own, wide⟩ := pw
    obtain ⟨hpool, ⟨r1, pl1, ht1, hf1⟩, lw, hlw, r2, pl2, ht2⟩ := hok
    have hdv : Dp K H2' x (chD own) := hdv
    obtain ⟨gl, h1, h2⟩ := S.got
    obtain ⟨uv, h3, h4⟩ := S.due
    have n9 := handI_len i
    -- wide
    refine ⟨[none, none, some (chD own), none, none, none, none, none], .int wide, .consN (.consN (.consS hdv (.consN (.consN (.consN (.consN (.consN .nil))))))), by simp [callF, consF, nilF, gv]; exact hpool, fun w0 HA sA dA => ?_⟩
    cases dA.int_inv
    have hdvA := Dp.same sA _ _ hdv
    -- told
    refine ⟨[none, none, some (chD own), none, none, some (.int wide), none, none], own, wide, wide, 16, _, .consN (.consN (.consS hdvA (.consN (.consN (.consS (.int _) (.consN (.consN .nil))))))), rfl, rfl, rfl, rfl, S.tab.ext sA, ht1, fun vt HB eB TB2 dB => ?_⟩
    have xB : ExtN H2' HB := (extN_same sA).trans eB
    have hdvB := hdvA.extD (ExtD.of eB)
    have gB := xB _ _ h1 (fun _ z => by cases z)
    have uB := xB _ _ h3 (fun _ z => by cases z)
    have g2B := DpAll.extD (ExtD.of xB) _ _ h2
    have u2B := DpAll.extD (ExtD.of xB) _ _ h4
    obtain ⟨tp, tus, rfl, htp, htall⟩ := dB.tup_inv
    -- got
    have sd6 : SD K HB [some (.ref g), some (.ref u), some x, some v3, some v4, some (.int wide), some (.ref tp), y7] [none, none, some (chD own), none, none, none, some (.tuple [r1, pl1, .str "served"]), none] := .consN (.consN (.consS hdvB (.consN (.consN (.consN (.consS (.tup htp htall) (.consN .nil)))))))
    refine ⟨_, rfl, _, .str "served", sd6, by rfl, fun w1 HC sC dC => ⟨_, .int wide, sd6.same sC, ?_, fun w2 HD sD dD => ⟨by show 2 ≤ sizeLine; decide, fun l hl => ⟨g, l, gl, [w1, w2], rfl, rfl, ((sC.trans sD).trans (same_new hl)) _ _ gB, upd_same, by rw [g2B.length, sizeLine_eq]; simp; omega, fun g2 hg2 => ?_⟩⟩⟩⟩
    · have i0 : ixD (.tuple [r1, pl1, .str "served"]) (.int 0) = some r1 := rfl
      simp [callF, consF, nilF, gv, bin2, i0]
      exact hf1
    cases dC.str_inv
    cases dD.int_inv
    have sE := ((sC.trans sD).trans (same_new (o := .lst [V.str "served", V.int wide]) hl)).trans (same_new (o := .lst (gl ++ [V.str "served", V.int wide])) hg2)
    have hg2' : (upd (upd HD l (.lst [V.str "served", V.int wide])) g2 (.lst (gl ++ [V.str "served", V.int wide]))) g2 = some (.lst (gl ++ [V.str "served", V.int wide])) := upd_same
    have g2E := (DpAll.same sE _ _ g2B).append (.cons (.str "served") (.cons (.int wide) .nil))
    have hg2u : ∀ o, HB g2 = some o → False := fun o z => by
      have := ((sC.trans sD).trans (same_new (o := .lst [V.str "served", V.int wide]) hl)) _ _ z
      rw [hg2] at this
      cases this
    generalize upd (upd HD l (.lst [V.str "served", V.int wide])) g2 (.lst (gl ++ [V.str "served", V.int wide])) = HE at sE hg2' g2E
    have hdvE := Dp.same sE _ _ hdvB
    -- less
    have hix : ixD (chD own) (.int (-1)) = some (.int lw) := hlw
    refine ⟨[none, none, some (chD own), none, none, some (.int wide), none, none], .int (wide - lw), .consN (.consN (.consS hdvE (.consN (.consN (.consS (.int _) (.consN (.consN .nil))))))), by simp [bin2, gv, negF, hix, subD], fun w3 HF sF dF => ?_⟩
    cases dF.int_inv
    have hdvF := Dp.same sF _ _ hdvE
    have hgF := sF _ _ hg2'
    have g2F := DpAll.same sF _ _ g2E
    refine ⟨.ref g2, rfl, .inl ⟨rfl, _, SqL.of hgF⟩, [none, none, some (chD own), none, none, none, none, some (.int (wide - lw))], own, wide - lw, wide - lw, 16, _, .consN (.consN (.consS hdvF (.consN (.consN (.consN (.consN (.consS (.int _) .nil))))))), rfl, rfl, rfl, rfl, TB2.ext (sE.trans sF), ht2, fun vt2 HG eG TG dG => ?_⟩
    obtain ⟨tp2, tus2, rfl, htp2, htall2⟩ := dG.tup_inv
    obtain ⟨vr, hvr, dvr⟩ := atI_all (i := 2) htall2 (show atI [r2, pl2, PyData.str "refused"] 2 = some (.str "refused") from rfl)
    cases dvr.str_inv
    have hgG := eG _ _ hgF (fun _ z => by cases z)
    have g2G := DpAll.extD (ExtD.of eG) _ _ g2F
    have hul : g2 ≠ u := fun z => hg2u _ (by rw [z]; exact uB)
    have huG : HG u = some (.lst uv) := eG _ _ ((sE.trans sF) _ _ uB) (fun _ z => by cases z)
    have xFG : ExtN HB HG := (extN_same (sE.trans sF)).trans eG
    refine ⟨tp2, tus2, 2, .str "refused", rfl, rfl, htp2, hvr, g2, _, .str "refused", rfl, rfl, hgG, by rw [g2F.length, sizeLine_eq]; simp; omega, ?_⟩
    -- due
    have ts := TSame.lst (u := .lst ((gl ++ [V.str "served", V.int wide]) ++ [V.str "refused"])) hgG
    have hnlg : nlAll (handI i ++ [.str "served", .int wide]) = true := nlAll_append (handI_nl i) (by rfl)
    have u2G := DpAll.extD (ExtD.of xFG) _ _ u2B
    have huH : (upd HG g2 (.lst ((gl ++ [V.str "served", V.int wide]) ++ [V.str "refused"]))) u = some (.lst uv) := by rw [upd_ne (Ne.symm hul)]; exact huG
    have hgH : (upd HG g2 (.lst ((gl ++ [V.str "served", V.int wide]) ++ [V.str "refused"]))) g2 = some (.lst ((gl ++ [V.str "served", V.int wide]) ++ [V.str "refused"])) := upd_same
    have gH := (DpAll.tsame ts _ _ hnlg g2G).append (.cons (.str "refused") .nil)
    have uH := DpAll.tsame ts _ _ (handI_nl i) u2G
    have xH : ExtN H (upd HG g2 (.lst ((gl ++ [V.str "served", V.int wide]) ++ [V.str "refused"]))) := fun b o z n => by
      have z1 := xB b o (S.ext b o z n) n
      rw [upd_ne (fun w => hg2u _ (by rw [← w]; exact z1))]
      exact xFG b o z1 n
    have tH := tabs_lst (u := .lst ((gl ++ [V.str "served", V.int wide]) ++ [V.str "refused"])) TG hgG
    have c3H : Dp K (upd HG g2 (.lst ((gl ++ [V.str "served", V.int wide]) ++ [V.str "refused"]))) v3 (chD [1, 2, 4]) := Dp.tsame ts _ _ (nl_ch _) ((S.c3.extD (ExtD.of xB)).extD (ExtD.of xFG))
    have c4H : Dp K (upd HG g2 (.lst ((gl ++ [V.str "served", V.int wide]) ++ [V.str "refused"]))) v4 rowHD := Dp.tsame ts _ _ (by rfl) ((S.c4.extD (ExtD.of xB)).extD (ExtD.of xFG))
    have srcH : SqT K (upd HG g2 (.lst ((gl ++ [V.str "served", V.int wide]) ++ [V.str "refused"]))) a xs := by
      rcases (ExtD.of xFG).seqT ((ExtD.of xB).seqT S.src) with z | z
      · exact .inl (ts _ _ z)
      · exact .inr z
    have xdH := DpAll.tsame ts _ _ (by rfl : nlAll (ownW.map fun p => chD p.1) = true) (DpAll.extD (ExtD.of xFG) _ _ (DpAll.extD (ExtD.of xB) _ _ S.xd))
    generalize upd HG g2 (.lst ((gl ++ [V.str "served", V.int wide]) ++ [V.str "refused"])) = HH at huH hgH gH uH xH tH c3H c4H srcH xdH
    refine ⟨_, rfl, _, rfl, by show 3 ≤ sizeLine; decide, fun l5 hl5 => ⟨u, l5, uv, [V.str "served", V.int wide, V.str "refused"], rfl, rfl, (same_new hl5) _ _ huH, upd_same, by rw [uH.length, sizeLine_eq]; simp; omega, fun u2 hu2 => ?_⟩⟩
    have sI := (same_new (o := .lst [V.str "served", V.int wide, V.str "refused"]) hl5).trans (same_new (o := .lst (uv ++ [V.str "served", V.int wide, V.str "refused"])) hu2)
    have hne : g2 ≠ u2 := fun z => by
      have := (same_new (o := .lst [V.str "served", V.int wide, V.str "refused"]) hl5) _ _ hgH
      rw [z, hu2] at this
      cases this
    refine ⟨g2, u2, _, _, _, _, rfl, ⟨_, sI _ _ hgH, ?_⟩, ⟨_, upd_same, ?_⟩, hne, Dp.same sI _ _ c3H, Dp.same sI _ _ c4H, xH.trans (extN_same sI), tH.ext sI, sqT_same sI srcH, DpAll.same sI _ _ xdH⟩
    · rw [hsu]
      have := DpAll.same sI _ _ gH
      rw [List.append_assoc] at this
      rw [List.append_assoc] at this ⊢
      exact this
    · rw [hsu]
      exact (DpAll.same sI _ _ uH).append (.cons (.str "served") (.cons (.int wide) (.cons (.str "refused") .nil)))
end
end Lb
end
section
set_option Elab.async false
set_option linter.all false
set_option maxRecDepth 100000
set_option maxHeartbeats 4000000
/-! J1: the join of the defs. -/
namespace Lb
open PySem PySem.Spec PyProof.Rows L2 StX RZ NdefX LamX
/-- the def x stands in the written part K -/
structure DefL (K : PySem.W.Frag) (x : Str) (st : Stmt) : Prop where
  ex : ∃ (f : Addr) (oc : Value) (od : Option Addr) (kV doc pm : Value) (an : Option Addr) (cdv ct : Value) (osl : Array (Option Value)), PySem.W.nsIn K mainGlobals x = some (some (.ref f)) ∧
    K.lookup f = some ⟨oc, od, .func (PySem.W.fnOf x x (defArgs st) (defBody st) (defScope st) .none kV doc pm an cdv ct), osl⟩ ∧ PySem.W.codeIn K cdv x = true ∧ PySem.W.keepIn K (.ref f) = true
theorem defL_mk {K : PySem.W.Frag} {x : Str} {st : Stmt} {f : Addr} {oc : Value} {od : Option Addr} {kV doc pm : Value} {an : Option Addr} {cdv ct : Value} {osl : Array (Option Value)} (a : PySem.W.nsIn K mainGlobals x = some (some (.ref f)))
    (l : K.lookup f = some ⟨oc, od, .func (PySem.W.fnOf x x (defArgs st) (defBody st) (defScope st) .none kV doc pm an cdv ct), osl⟩) (c : PySem.W.codeIn K cdv x = true) (k : PySem.W.keepIn K (.ref f) = true) : DefL K x st := ⟨f, oc, od, kV, doc, pm, an, cdv, ct, osl, a, l, c, k⟩
theorem DefL.at {K : PySem.W.Frag} {x : Str} {st : Stmt} {h : Heap} {mg : Str → Option Value} (D : DefL K x st) (X : K.In h) (G : h.Ns mainGlobals mg) : DefAt K mg x st := by
  obtain ⟨f, oc, od, kV, doc, pm, an, cdv, ct, osl, a, l, c, k⟩ := D.ex
  exact ⟨f, _, fun_mk (st := st) l c k, PySem.W.mg_of X G a⟩
/-- the same, its code object at c, whose table is at P -/
structure DefLC (K : PySem.W.Frag) (x : Str) (st : Stmt) (c P : Addr) : Prop where
  ex : ∃ (f : Addr) (oc : Value) (od : Option Addr) (kV doc pm : Value) (an : Option Addr) (ct : Value) (osl : Array (Option Value)), PySem.W.nsIn K mainGlobals x = some (some (.ref f)) ∧
    K.lookup f = some ⟨oc, od, .func (PySem.W.fnOf x x (defArgs st) (defBody st) (defScope st) .none kV doc pm an (.ref c) ct), osl⟩ ∧ PySem.W.codeIn K (.ref c) x = true ∧ PySem.W.keepIn K (.ref f) = true
  hd : PySem.W.codeHdIn K c P = true
  out : K.lookup P = none
theorem defLC_mk {K : PySem.W.Frag} {x : Str} {st : Stmt} {c P : Addr} {f : Addr} {oc : Value} {od : Option Addr} {kV doc pm : Value} {an : Option Addr} {ct : Value} {osl : Array (Option Value)} (a : PySem.W.nsIn K mainGlobals x = some (some (.ref f)))
    (l : K.lookup f = some ⟨oc, od, .func (PySem.W.fnOf x x (defArgs st) (defBody st) (defScope st) .none kV doc pm an (.ref c) ct), osl⟩) (cd : PySem.W.codeIn K (.ref c) x = true) (k : PySem.W.keepIn K (.ref f) = true) (hd : PySem.W.codeHdIn K c P = true) (out : K.lookup P = none) : DefLC K x st c P := ⟨⟨f, oc, od, kV, doc, pm, an, ct, osl, a, l, cd, k⟩, hd, out⟩
theorem DefLC.toL {K : PySem.W.Frag} {x : Str} {st : Stmt} {c P : Addr} (D : DefLC K x st c P) : DefL K x st := by
  obtain ⟨f, oc, od, kV, doc, pm, an, ct, osl, a, l, cd, k⟩ := D.ex
  exact ⟨f, oc, od, kV, doc, pm, an, .ref c, ct, osl, a, l, cd, k⟩
theorem DefLC.defC {K : PySem.W.Frag} {x : Str} {st : Stmt} {c P : Addr} {h : Heap} {mg : Str → Option Value} (D : DefLC K x st c P) (X : K.In h) (G : h.Ns mainGlobals mg) : DefC K mg x st c := by
  obtain ⟨f, oc, od, kV, doc, pm, an, ct, osl, a, l, cd, k⟩ := D.ex
  exact ⟨f, oc, od, kV, doc, pm, an, ct, osl, l, cd, k, PySem.W.mg_of X G a⟩
structure StrL (K : PySem.W.Frag) (x z : Str) : Prop where
  ex : ∃ t, PySem.W.nsIn K mainGlobals x = some (some (.str z t))
theorem strL_mk {K : PySem.W.Frag} {x z : Str} {t : Tok} (a : PySem.W.nsIn K mainGlobals x = some (some (.str z t))) : StrL K x z := ⟨t, a⟩
theorem StrL.at {K : PySem.W.Frag} {x z : Str} {h : Heap} {mg : Str → Option Value} (D : StrL K x z) (X : K.In h) (G : h.Ns mainGlobals mg) : ∃ t, mg x = some (.str z t) := by
  obtain ⟨t, a⟩ := D.ex
  exact ⟨t, PySem.W.mg_of X G a⟩

theorem txt_mk {K : PySem.W.Frag} {h : Heap} {mg : Str → Option Value} {cA PA cB PB : Addr} (X : K.In h) (G : h.Ns mainGlobals mg)
    (d_is_number : DefL K "is_number" s_is_number) (d_is_count : DefL K "is_count" s_is_count) (d_tupled : DefL K "tupled" s_tupled) (d_check_square : DefL K "check_square" s_check_square) (d_pool_for : DefL K "pool_for" s_pool_for) (d_is_parting : DefL K "is_parting" s_is_parting)
    (d_all_partings : DefL K "all_partings" s_all_partings) (d_pools_for : DefL K "pools_for" s_pools_for) (d_total_for : DefL K "total_for" s_total_for) (d_fitting : DefL K "fitting" s_fitting) (d_best_parting : DefL K "best_parting" s_best_parting) (d_is_best_parting : DefL K "is_best_parting" s_is_best_parting)
    (d_ratios : DefL K "ratios" s_ratios) (d_common_part : DefL K "common_part" s_common_part) (d_unit : DefL K "unit" s_unit) (d_is_even : DefL K "is_even" s_is_even) (d_check_even : DefL K "check_even" s_check_even) (d_lines : DefL K "lines" s_lines)
    (d_least_pool : DefL K "least_pool" s_least_pool) (d_asks_of : DefL K "asks_of" s_asks_of) (d_raised : DefL K "raised" s_raised) (d_first_free : DefL K "first_free" s_first_free) (d_first_place : DefL K "first_place" s_first_place) (d_played : DefL K "played" s_played)
    (d_ends_of : DefL K "ends_of" s_ends_of) (d_serves_first : DefL K "serves_first" s_serves_first) (d_first_pool : DefL K "first_pool" s_first_pool) (d_is_clear : DefL K "is_clear" s_is_clear) (d_is_answer : DefL K "is_answer" s_is_answer) (d_going_back : DefL K "going_back" s_going_back)
    (d_cells_met : DefL K "cells_met" s_cells_met) (d_opposed : DefL K "opposed" s_opposed) (d_check_budget : DefL K "check_budget" s_check_budget) (d_asker : DefLC K "asker" s_asker cA PA) (d_opponent : DefL K "opponent" s_opponent) (d_law_box : DefL K "_law_box" s_law_box)
    (d_law_take : DefL K "_law_take" s_law_take) (d_law_cells : DefL K "_law_cells" s_law_cells) (d_law_of : DefL K "_law_of" s_law_of) (d_law_same : DefL K "_law_same" s_law_same) (d_law_need : DefL K "_law_need" s_law_need) (d_law_dealt : DefL K "_law_dealt" s_law_dealt)
    (d_law_scaled : DefL K "_law_scaled" s_law_scaled) (d_law_row : DefL K "_law_row" s_law_row) (d_law_dealt_right : DefL K "_law_dealt_right" s_law_dealt_right) (d_law_by_hand_right : DefLC K "_law_by_hand_right" s_law_by_hand_right cB PB) (d_law_right : DefL K "_law_right" s_law_right) (d_law : DefL K "law" s_law)
    (b_len : PySem.W.nsIn K mainGlobals "len" = some none) (b_sum : PySem.W.nsIn K mainGlobals "sum" = some none) (b_max : PySem.W.nsIn K mainGlobals "max" = some none) (b_all : PySem.W.nsIn K mainGlobals "all" = some none) (b_abs : PySem.W.nsIn K mainGlobals "abs" = some none) (b_sorted : PySem.W.nsIn K mainGlobals "sorted" = some none)
    (b_tuple : PySem.W.nsIn K mainGlobals "tuple" = some none) (b_list : PySem.W.nsIn K mainGlobals "list" = some none) (b_int : PySem.W.nsIn K mainGlobals "int" = some none) (b_bool : PySem.W.nsIn K mainGlobals "bool" = some none) (b_str : PySem.W.nsIn K mainGlobals "str" = some none) (b_isinstance : PySem.W.nsIn K mainGlobals "isinstance" = some none)
    (b_zip : PySem.W.nsIn K mainGlobals "zip" = some none) (b_range : PySem.W.nsIn K mainGlobals "range" = some none) (b_enumerate : PySem.W.nsIn K mainGlobals "enumerate" = some none) (b_dict : PySem.W.nsIn K mainGlobals "dict" = some none) (b_set : PySem.W.nsIn K mainGlobals "set" = some none) (c_ASK_rows : StrL K "ASK_rows" "ask")
    (c_ASK_opponents : StrL K "ASK_opponents" "ask") (c_BACK : StrL K "BACK" "back") (c_REFUSED : StrL K "REFUSED" "refused") (c_SERVED : StrL K "SERVED" "served") : Txt K mg := ⟨d_is_number.at X G, d_is_count.at X G, d_tupled.at X G, d_check_square.at X G, d_pool_for.at X G, d_is_parting.at X G, d_all_partings.at X G, d_pools_for.at X G, d_total_for.at X G, d_fitting.at X G, d_best_parting.at X G, d_is_best_parting.at X G, d_ratios.at X G, d_common_part.at X G, d_unit.at X G, d_is_even.at X G, d_check_even.at X G, d_lines.at X G, d_least_pool.at X G, d_asks_of.at X G, d_raised.at X G, d_first_free.at X G, d_first_place.at X G, d_played.at X G, d_ends_of.at X G, d_serves_first.at X G, d_first_pool.at X G, d_is_clear.at X G, d_is_answer.at X G, d_going_back.at X G, d_cells_met.at X G, d_opposed.at X G, d_check_budget.at X G, d_asker.toL.at X G, d_opponent.at X G, d_law_box.at X G, d_law_take.at X G, d_law_cells.at X G, d_law_of.at X G, d_law_same.at X G, d_law_need.at X G, d_law_dealt.at X G, d_law_scaled.at X G, d_law_row.at X G, d_law_dealt_right.at X G, d_law_by_hand_right.toL.at X G, d_law_right.at X G, d_law.at X G, PySem.W.mg_none_of X G b_len, PySem.W.mg_none_of X G b_sum, PySem.W.mg_none_of X G b_max, PySem.W.mg_none_of X G b_all, PySem.W.mg_none_of X G b_abs, PySem.W.mg_none_of X G b_sorted, PySem.W.mg_none_of X G b_tuple, PySem.W.mg_none_of X G b_list, PySem.W.mg_none_of X G b_int, PySem.W.mg_none_of X G b_bool, PySem.W.mg_none_of X G b_str, PySem.W.mg_none_of X G b_isinstance, PySem.W.mg_none_of X G b_zip, PySem.W.mg_none_of X G b_range, PySem.W.mg_none_of X G b_enumerate, PySem.W.mg_none_of X G b_dict, PySem.W.mg_none_of X G b_set, c_ASK_rows.at X G, c_ASK_opponents.at X G, c_BACK.at X G, c_REFUSED.at X G, c_SERVED.at X G⟩

theorem law_ok {P : Program} {w : World} {K : PySem.W.Frag} {mg : Str → Option Value} {base : Heap} {Ts : List NTab} {fa : Addr} {fd : FuncData} (F : L2.Fun K "law" "law" s_law fa fd) (T : Txt K mg) (G_law_cells : Has P w K mg base 1 "_law_cells" (spCells K)) (G_law_by_hand_right : Has P w K mg base 8 "_law_by_hand_right" (spHand Ts)) (G_law_right : Has P w K mg base 7 "_law_right" (spRight K)) (G_law_box : Has P w K mg base 1 "_law_box" (spBox K)) : FnOk P w K mg base C8.CX0 9 fa fd ["_law_script"] (spLaw K Ts) := by
  refine F.ok sc_law (fun vs H Q E ⟨_, _, h, _⟩ => by rw [h]; rfl) fun cdv A outer s0 H vs Q E hr ⟨a, ns, hvs, hT, ha, hl, fin⟩ => ?_
  subst hvs
  refine ⟨_, pss_cons (ps_set (i := 1) sc_law.nd rfl (.inr rfl) (pe_has G_law_cells hr (by rfl) (pa_cons (pv 0) (pa_cons pe_int pa_nil))))
    (pss_cons (ps_if (pt_not (pt_val (pe_has0 G_law_by_hand_right hr (by rfl)))) (pss_one (ps_ret pe_bl)) pss_nil)
    (pss_one (ps_ret (pe_callB (cr_all rfl) (by rfl) T.b_all (by decide +kernel) (pa_cons (pe_lc (g := gName 2) (tt := tYes) (te := fun σ H Q => tCons (fun σ H Q => tCons (tVar 1) (tCons (tVar 2) tNil) σ H fun vs H1 => spBox K vs H1 Q C8.E0) tNil σ H fun vs H1 => spRight K vs H1 Q C8.E0) (own := [("_law_k", 2)]) rfl sc_law.nd (pi_range1 (by rfl) T.b_range (pa_cons (pe_callB call_len_seq (by rfl) T.b_len (by decide +kernel) (pa_cons (pv 1) pa_nil)) pa_nil)) (blkOk_by (N := N_law) (sc := defScope s_law) (by decide +kernel)) (fun _ _ _ _ _ => pg_name (i := 2) sc_law.nd rfl (.inl rfl)) (fun _ _ _ _ _ => pts_nil) (fun _ _ _ _ _ => pe_has G_law_right hr (by rfl) (pa_cons (pe_has G_law_box hr (by rfl) (pa_cons (pv 1) (pa_cons (pv 2) pa_nil))) pa_nil))) pa_nil))))), ?_⟩
  refine ⟨_, rfl, a, ns, rfl, ha, hl, fun L H1 ms m1 m3 s1 hL0 hL1 => ?_⟩
  refine ⟨rfl, hT.ext s1, fun H2 e2 => ⟨true, rfl, iteF ?_⟩⟩
  have hL2 : SqL K H2 L (ms.map V.int) := (ExtD.of e2).seqL (SqL.of hL1)
  refine ⟨_, rfl, L, _, rfl, .inl hL2, _, rfl, by rw [List.length_map]; omega, by rw [List.length_map]; omega, fun D hD => ?_⟩
  have hn : ((ms.map V.int).length : Int).toNat = ms.length := by rw [List.length_map]; rfl
  rw [hn]
  refine lc_it (J := Itr 0 ms.length) walk_range (g := gName 2) (tt := tYes) (te := fun σ H Q => tCons (fun σ H Q => tCons (tVar 1) (tCons (tVar 2) tNil) σ H fun vs H1 => spBox K vs H1 Q C8.E0) tNil σ H fun vs H1 => spRight K vs H1 Q C8.E0) (vs := [2]) (σ := [some (.ref a), some (.ref L), none]) (H1 := H2) (D := D) (Qd := fun H' => rAll K [.ref D] H' Q) (fun i H' => Same H2 H' ∧ ∃ bs : List Bool, H' D = some (.lst (bs.map V.bl)) ∧ bs.all id = true ∧ bs.length ≤ i)
    ⟨same_new hD, [], upd_same, rfl, by simp⟩ (fun _ _ _ _ => trivial) ?step ?done
  case done =>
    rintro H' ⟨_, bs, h1, h2, _⟩
    refine ⟨D, bs, rfl, SqL.of h1, ?_⟩
    have := fin H'
    rw [← h2] at this
    exact this
  case step =>
    rintro i x H' H3 hi ⟨h1, bs, h2, h3, h4⟩ ⟨rfl, rfl⟩
    refine ⟨(wipe_set (i := 2) (by decide)).trans wipe_idem, ?_⟩
    unfold tYes
    dsimp only
    rw [if_pos rfl]
    refine ⟨_, rfl, _, rfl, L, ms, i, by rw [Int.zero_add], h1.seq hL2, hi, by omega, fun pb H4 x hx0 hpb s4 hb => ?_⟩
    refine ⟨pb, x, rfl, hb, by unfold Box.ok; omega, fun H5 sb5 => ?_⟩
    have hDp : D ≠ pb := fun z => by rw [z, hpb] at h2; cases h2
    have h5 : H5 D = some (.lst (bs.map V.bl)) := sb5 _ _ (s4 _ _ h2) hDp
    have s25 : Same H2 H5 := fun b o e => sb5 _ _ (s4 _ _ (h1 _ _ e)) (fun z => by
      have := h1 _ _ e
      rw [z, hpb] at this
      cases this)
    exact ⟨_, h5, by rw [List.length_map, sizeLine_eq]; omega, same_mut s25 hD, bs ++ [true], by rw [upd_same, List.map_append]; rfl, by rw [List.all_append, h3]; rfl, by simp; omega⟩
theorem all_has {P : Program} {w : World} {K : PySem.W.Frag} {mg : Str → Option Value} {base : Heap} {cA PA cB PB : Addr} (T : Txt K mg) (DA : DefC K mg "asker" s_asker cA) (DB : DefC K mg "_law_by_hand_right" s_law_by_hand_right cB) (hne : PA ≠ PB)
    (TA : TabB base mg cA PA) (TB : TabB base mg cB PB) {fa : Addr} {fd : FuncData} (F : L2.Fun K "law" "law" s_law fa fd) : FnOk P w K mg base C8.CX0 9 fa fd ["_law_script"] (spLaw K [(PA, fun _ _ => q_choose), (PB, fun _ _ => q_lam)]) := by
  have G_is_number : Has P w K mg base 1 "is_number" _ := has_is_number T
  have G_is_count : Has P w K mg base 2 "is_count" _ := has_is_count T G_is_number
  have G_tupled0 : Has P w K mg base 1 "tupled" _ := has_tupled0 T
  have G_tupled : Has P w K mg base 2 "tupled" _ := has_tupled T G_tupled0
  have G_check_square : Has P w K mg base 1 "check_square" _ := has_check_square T
  have G_pool_for : Has P w K mg base 2 "pool_for" _ := has_pool_for T G_check_square
  have G_all_partings : Has P w K mg base 1 "all_partings" _ := has_all_partings T
  have G_is_parting : Has P w K mg base 2 "is_parting" _ := has_is_parting T G_all_partings G_is_number
  have G_pools_for : Has P w K mg base 3 "pools_for" _ := has_pools_for T G_pool_for
  have G_total_for : Has P w K mg base 4 "total_for" _ := has_total_for T G_check_square G_pools_for
  have G_fitting : Has P w K mg base 4 "fitting" _ := has_fitting T G_all_partings G_check_square G_pools_for
  have G_best_parting : Has P w K mg base 5 "best_parting" _ := has_best_parting T G_fitting G_total_for
  have G_is_best_parting : Has P w K mg base 6 "is_best_parting" _ := has_is_best_parting T G_best_parting G_fitting G_is_parting G_total_for
  have G_ratios : Has P w K mg base 1 "ratios" _ := has_ratios T
  have G_common_part : Has P w K mg base 1 "common_part" _ := has_common_part T
  have G_unit : Has P w K mg base 2 "unit" _ := has_unit T G_common_part G_ratios
  have G_is_even : Has P w K mg base 3 "is_even" _ := has_is_even T G_unit
  have G_check_even : Has P w K mg base 4 "check_even" _ := has_check_even T G_is_even
  have G_lines : Has P w K mg base 5 "lines" _ := has_lines T G_check_even G_ratios
  have G_least_pool : Has P w K mg base 6 "least_pool" _ := has_least_pool T G_lines
  have G_asks_of : Has P w K mg base 1 "asks_of" _ := has_asks_of T
  have G_raised : Has P w K mg base 1 "raised" _ := has_raised T
  have G_first_free : Has P w K mg base 2 "first_free" _ := has_first_free T G_raised
  have G_first_place : Has P w K mg base 3 "first_place" _ := has_first_place T G_first_free
  have G_played : Has P w K mg base 3 "played" _ := has_played T G_asks_of G_first_free
  have G_ends_of : Has P w K mg base 4 "ends_of" _ := has_ends_of T G_asks_of G_played
  have G_serves_first : Has P w K mg base 5 "serves_first" _ := has_serves_first T G_ends_of
  have G_first_pool : Has P w K mg base 5 "first_pool" _ := has_first_pool T G_ends_of G_raised G_tupled
  have G_is_clear : Has P w K mg base 1 "is_clear" _ := has_is_clear T
  have G_is_answer : Has P w K mg base 3 "is_answer" _ := has_is_answer T G_is_clear G_is_count
  have G_going_back : Has P w K mg base 1 "going_back" _ := has_going_back T
  have G_cells_met : Has P w K mg base 1 "cells_met" _ := has_cells_met T
  have G_opposed : Has P w K mg base 6 "opposed" _ := has_opposed T G_going_back G_cells_met
  have G_check_budget : Has P w K mg base 4 "check_budget" _ := has_check_budget T G_is_even
  have mA : (PA, fun _ _ => q_choose) ∈ ([(PA, fun _ _ => q_choose), (PB, fun _ _ => q_lam)] : List NTab) := List.mem_cons_self
  have mB : (PB, fun _ _ => q_lam) ∈ ([(PA, fun _ _ => q_choose), (PB, fun _ _ => q_lam)] : List NTab) := List.mem_cons_of_mem _ List.mem_cons_self
  have uA : ∀ p ∈ ([(PA, fun _ _ => q_choose), (PB, fun _ _ => q_lam)] : List NTab), p.1 = PA → p.2 = fun _ _ => q_choose := fun p hp e => by
    rcases List.mem_cons.mp hp with rfl | hp
    · rfl
    · rw [List.mem_singleton.mp hp] at e; exact absurd e.symm hne
  have uB : ∀ p ∈ ([(PA, fun _ _ => q_choose), (PB, fun _ _ => q_lam)] : List NTab), p.1 = PB → p.2 = fun _ _ => q_lam := fun p hp e => by
    rcases List.mem_cons.mp hp with rfl | hp
    · exact absurd e hne
    · rw [List.mem_singleton.mp hp]
  have G_asker := has_asker (P := P) (w := w) DA TA mA uA (fun cells f c' => nok_choose T G_is_answer cells f c')
  have G_opponent : Has P w K mg base 7 "opponent" _ := has_opponent T G_check_budget G_opposed G_asker
  have G_law_take : Has P w K mg base 1 "_law_take" _ := has_law_take T
  have G_law_of : Has P w K mg base 2 "_law_of" _ := has_law_of T G_law_take
  have G_law_box : Has P w K mg base 1 "_law_box" _ := has_law_box T
  have G_law_cells : Has P w K mg base 1 "_law_cells" _ := has_law_cells T
  have G_law_same0 : Has P w K mg base 1 "_law_same" _ := has_law_same0 T
  have G_law_same : Has P w K mg base 2 "_law_same" _ := has_law_same T G_law_same0
  have G_law_need : Has P w K mg base 1 "_law_need" _ := has_law_need T
  have G_law_dealt : Has P w K mg base 1 "_law_dealt" _ := has_law_dealt T
  have G_law_scaled : Has P w K mg base 1 "_law_scaled" _ := has_law_scaled T
  have G_law_row : Has P w K mg base 3 "_law_row" _ := has_law_row T G_law_take G_law_of
  have G_law_dealt_right : Has P w K mg base 6 "_law_dealt_right" _ := has_law_dealt_right T G_law_dealt G_law_need G_law_same G_law_scaled G_first_pool G_pool_for G_serves_first
  have G_law_right : Has P w K mg base 7 "_law_right" _ := has_law_right T allCfg G_law_take G_law_of G_law_row G_law_dealt_right G_all_partings G_is_parting G_total_for G_least_pool G_is_best_parting
  have G_law_by_hand_right : Has P w K mg base 8 "_law_by_hand_right" _ := has_by_hand T DB TB mB uB G_pool_for G_least_pool G_all_partings G_law_dealt_right G_opponent G_first_place G_first_pool G_total_for G_best_parting G_law_same
  exact law_ok F T G_law_cells G_law_by_hand_right G_law_right G_law_box

theorem all_mk {l : PySem.W.OpenLaw} {w : World} {K : PySem.W.Frag} {h : Heap} {mg : Str → Option Value} {fa cA cB : Addr} (PA PB : Addr) (hne : PA ≠ PB) (X : K.In h) (G : h.Ns mainGlobals mg) (hfa : mg "law" = some (.ref fa))
    (tA : h.get? PA = some { cls := .none, data := .fields #[] }) (tB : h.get? PB = some { cls := .none, data := .fields #[] })
    (d_is_number : DefL K "is_number" s_is_number) (d_is_count : DefL K "is_count" s_is_count) (d_tupled : DefL K "tupled" s_tupled) (d_check_square : DefL K "check_square" s_check_square) (d_pool_for : DefL K "pool_for" s_pool_for) (d_is_parting : DefL K "is_parting" s_is_parting)
    (d_all_partings : DefL K "all_partings" s_all_partings) (d_pools_for : DefL K "pools_for" s_pools_for) (d_total_for : DefL K "total_for" s_total_for) (d_fitting : DefL K "fitting" s_fitting) (d_best_parting : DefL K "best_parting" s_best_parting) (d_is_best_parting : DefL K "is_best_parting" s_is_best_parting)
    (d_ratios : DefL K "ratios" s_ratios) (d_common_part : DefL K "common_part" s_common_part) (d_unit : DefL K "unit" s_unit) (d_is_even : DefL K "is_even" s_is_even) (d_check_even : DefL K "check_even" s_check_even) (d_lines : DefL K "lines" s_lines)
    (d_least_pool : DefL K "least_pool" s_least_pool) (d_asks_of : DefL K "asks_of" s_asks_of) (d_raised : DefL K "raised" s_raised) (d_first_free : DefL K "first_free" s_first_free) (d_first_place : DefL K "first_place" s_first_place) (d_played : DefL K "played" s_played)
    (d_ends_of : DefL K "ends_of" s_ends_of) (d_serves_first : DefL K "serves_first" s_serves_first) (d_first_pool : DefL K "first_pool" s_first_pool) (d_is_clear : DefL K "is_clear" s_is_clear) (d_is_answer : DefL K "is_answer" s_is_answer) (d_going_back : DefL K "going_back" s_going_back)
    (d_cells_met : DefL K "cells_met" s_cells_met) (d_opposed : DefL K "opposed" s_opposed) (d_check_budget : DefL K "check_budget" s_check_budget) (d_asker : DefLC K "asker" s_asker cA PA) (d_opponent : DefL K "opponent" s_opponent) (d_law_box : DefL K "_law_box" s_law_box)
    (d_law_take : DefL K "_law_take" s_law_take) (d_law_cells : DefL K "_law_cells" s_law_cells) (d_law_of : DefL K "_law_of" s_law_of) (d_law_same : DefL K "_law_same" s_law_same) (d_law_need : DefL K "_law_need" s_law_need) (d_law_dealt : DefL K "_law_dealt" s_law_dealt)
    (d_law_scaled : DefL K "_law_scaled" s_law_scaled) (d_law_row : DefL K "_law_row" s_law_row) (d_law_dealt_right : DefL K "_law_dealt_right" s_law_dealt_right) (d_law_by_hand_right : DefLC K "_law_by_hand_right" s_law_by_hand_right cB PB) (d_law_right : DefL K "_law_right" s_law_right) (d_law : DefL K "law" s_law)
    (b_len : PySem.W.nsIn K mainGlobals "len" = some none) (b_sum : PySem.W.nsIn K mainGlobals "sum" = some none) (b_max : PySem.W.nsIn K mainGlobals "max" = some none) (b_all : PySem.W.nsIn K mainGlobals "all" = some none) (b_abs : PySem.W.nsIn K mainGlobals "abs" = some none) (b_sorted : PySem.W.nsIn K mainGlobals "sorted" = some none)
    (b_tuple : PySem.W.nsIn K mainGlobals "tuple" = some none) (b_list : PySem.W.nsIn K mainGlobals "list" = some none) (b_int : PySem.W.nsIn K mainGlobals "int" = some none) (b_bool : PySem.W.nsIn K mainGlobals "bool" = some none) (b_str : PySem.W.nsIn K mainGlobals "str" = some none) (b_isinstance : PySem.W.nsIn K mainGlobals "isinstance" = some none)
    (b_zip : PySem.W.nsIn K mainGlobals "zip" = some none) (b_range : PySem.W.nsIn K mainGlobals "range" = some none) (b_enumerate : PySem.W.nsIn K mainGlobals "enumerate" = some none) (b_dict : PySem.W.nsIn K mainGlobals "dict" = some none) (b_set : PySem.W.nsIn K mainGlobals "set" = some none) (c_ASK_rows : StrL K "ASK_rows" "ask")
    (c_ASK_opponents : StrL K "ASK_opponents" "ask") (c_BACK : StrL K "BACK" "back") (c_REFUSED : StrL K "REFUSED" "refused") (c_SERVED : StrL K "SERVED" "served") : LawAtS l w K C8.CX0 9 63 "_law_script" mg fa h := by
  have T : Txt K mg := txt_mk X G d_is_number d_is_count d_tupled d_check_square d_pool_for d_is_parting d_all_partings d_pools_for d_total_for d_fitting d_best_parting d_is_best_parting d_ratios d_common_part d_unit d_is_even d_check_even d_lines d_least_pool d_asks_of d_raised d_first_free d_first_place d_played d_ends_of d_serves_first d_first_pool d_is_clear d_is_answer d_going_back d_cells_met d_opposed d_check_budget d_asker d_opponent d_law_box d_law_take d_law_cells d_law_of d_law_same d_law_need d_law_dealt d_law_scaled d_law_row d_law_dealt_right d_law_by_hand_right d_law_right d_law b_len b_sum b_max b_all b_abs b_sorted b_tuple b_list b_int b_bool b_str b_isinstance b_zip b_range b_enumerate b_dict b_set c_ASK_rows c_ASK_opponents c_BACK c_REFUSED c_SERVED
  obtain ⟨f, oc, od, kV, doc, pm, an, cdv, ct, osl, a, lk, cd, k⟩ := d_law.ex
  have e := hfa.symm.trans (PySem.W.mg_of X G a)
  cases e
  have HP : ∀ p ∈ [(cA, PA), (cB, PB)], (p = (cA, PA) ∨ p = (cB, PB)) := fun p hp => by
    rcases List.mem_cons.mp hp with z | z
    · exact .inl z
    · exact .inr (List.mem_singleton.mp z)
  refine ⟨PySem.W.fnOf "law" "law" (defArgs s_law) (defBody s_law) (defScope s_law) .none kV doc pm an cdv ct, [(cA, PA), (cB, PB)], spLaw K [(PA, fun _ _ => q_choose), (PB, fun _ _ => q_lam)], ?_, ?_, ?_, fun s v => .of_eq rfl, ?_, ?_⟩
  · intro p hp
    rcases HP p hp with rfl | rfl
    · exact tA
    · exact tB
  · intro p hp
    rcases HP p hp with rfl | rfl
    · exact d_asker.out
    · exact d_law_by_hand_right.out
  · intro p hp
    rcases HP p hp with rfl | rfl
    · exact PySem.W.codeHd_of_K X d_asker.hd
    · exact PySem.W.codeHd_of_K X d_law_by_hand_right.hd
  · intro H a ns hl hb ht hS
    refine ⟨a, ns, rfl, fun p hp => ?_, hS, hl, fun _ => rfl⟩
    rcases List.mem_cons.mp hp with rfl | hp
    · exact TabN.nil (ht (cA, PA) List.mem_cons_self)
    · rw [List.mem_singleton.mp hp]
      exact TabN.nil (ht (cB, PB) (List.mem_cons_of_mem _ List.mem_cons_self))
  · intro base KB GB TBs
    exact all_has (P := l.prog) (w := w) (base := base) T (d_asker.defC X G) (d_law_by_hand_right.defC X G) hne (TBs (cA, PA) List.mem_cons_self) (TBs (cB, PB) (List.mem_cons_of_mem _ List.mem_cons_self)) (fun_mk (st := s_law) lk cd k)
end Lb
end
section
set_option Elab.async false
set_option maxRecDepth 100000
set_option maxHeartbeats 0
open PySem PySem.W PyProof.Rows
theorem PySem.Challenge.cw_lentblocks_k66_whole_pools_by_sizes_holds : PySem.Challenge.rw_lentblocks_k66_whole_pools_by_sizes.Holds := by
  w_on; o_law; k_head; (case hw => w_witness2)
  k_fill
  refine LamX.walk_ofTs (n := 63) (k := 9) (x := "_law_script") (CX := fun _ => C8.CX0) (l := PySem.Challenge.rw_lentblocks_k66_whole_pools_by_sizes) rfl (by decide) rfl ⟨rfl, by decide, by decide⟩ (fun w h Y => PySem.W.km_in_of Y) ?F (fun _ _ _ _ _ z => z)
  case F =>
    intro w mg fa h Y KX G hmg
    have hT := PySem.W.km_tabs_of Y
    refine' Lb.all_mk 268 344 (by decide) KX G hmg (hT 268 (by decide)) (hT 344 (by decide)) ?d_is_number ?d_is_count ?d_tupled ?d_check_square ?d_pool_for ?d_is_parting ?d_all_partings ?d_pools_for ?d_total_for ?d_fitting ?d_best_parting ?d_is_best_parting ?d_ratios ?d_common_part ?d_unit ?d_is_even ?d_check_even ?d_lines ?d_least_pool ?d_asks_of ?d_raised ?d_first_free ?d_first_place ?d_played ?d_ends_of ?d_serves_first ?d_first_pool ?d_is_clear ?d_is_answer ?d_going_back ?d_cells_met ?d_opposed ?d_check_budget ?d_asker ?d_opponent ?d_law_box ?d_law_take ?d_law_cells ?d_law_of ?d_law_same ?d_law_need ?d_law_dealt ?d_law_scaled ?d_law_row ?d_law_dealt_right ?d_law_by_hand_right ?d_law_right ?d_law ?b_len ?b_sum ?b_max ?b_all ?b_abs ?b_sorted ?b_tuple ?b_list ?b_int ?b_bool ?b_str ?b_isinstance ?b_zip ?b_range ?b_enumerate ?b_dict ?b_set ?c_ASK_rows ?c_ASK_opponents ?c_BACK ?c_REFUSED ?c_SERVED
    (case d_is_number => refine' Lb.defL_mk ?a ?l ?c ?k; (case a => k_is); (case l => k_is); (case c => k_is); (case k => k_is))
    (case d_is_count => refine' Lb.defL_mk ?a ?l ?c ?k; (case a => k_is); (case l => k_is); (case c => k_is); (case k => k_is))
    (case d_tupled => refine' Lb.defL_mk ?a ?l ?c ?k; (case a => k_is); (case l => k_is); (case c => k_is); (case k => k_is))
    (case d_check_square => refine' Lb.defL_mk ?a ?l ?c ?k; (case a => k_is); (case l => k_is); (case c => k_is); (case k => k_is))
    (case d_pool_for => refine' Lb.defL_mk ?a ?l ?c ?k; (case a => k_is); (case l => k_is); (case c => k_is); (case k => k_is))
    (case d_is_parting => refine' Lb.defL_mk ?a ?l ?c ?k; (case a => k_is); (case l => k_is); (case c => k_is); (case k => k_is))
    (case d_all_partings => refine' Lb.defL_mk ?a ?l ?c ?k; (case a => k_is); (case l => k_is); (case c => k_is); (case k => k_is))
    (case d_pools_for => refine' Lb.defL_mk ?a ?l ?c ?k; (case a => k_is); (case l => k_is); (case c => k_is); (case k => k_is))
    (case d_total_for => refine' Lb.defL_mk ?a ?l ?c ?k; (case a => k_is); (case l => k_is); (case c => k_is); (case k => k_is))
    (case d_fitting => refine' Lb.defL_mk ?a ?l ?c ?k; (case a => k_is); (case l => k_is); (case c => k_is); (case k => k_is))
    (case d_best_parting => refine' Lb.defL_mk ?a ?l ?c ?k; (case a => k_is); (case l => k_is); (case c => k_is); (case k => k_is))
    (case d_is_best_parting => refine' Lb.defL_mk ?a ?l ?c ?k; (case a => k_is); (case l => k_is); (case c => k_is); (case k => k_is))
    (case d_ratios => refine' Lb.defL_mk ?a ?l ?c ?k; (case a => k_is); (case l => k_is); (case c => k_is); (case k => k_is))
    (case d_common_part => refine' Lb.defL_mk ?a ?l ?c ?k; (case a => k_is); (case l => k_is); (case c => k_is); (case k => k_is))
    (case d_unit => refine' Lb.defL_mk ?a ?l ?c ?k; (case a => k_is); (case l => k_is); (case c => k_is); (case k => k_is))
    (case d_is_even => refine' Lb.defL_mk ?a ?l ?c ?k; (case a => k_is); (case l => k_is); (case c => k_is); (case k => k_is))
    (case d_check_even => refine' Lb.defL_mk ?a ?l ?c ?k; (case a => k_is); (case l => k_is); (case c => k_is); (case k => k_is))
    (case d_lines => refine' Lb.defL_mk ?a ?l ?c ?k; (case a => k_is); (case l => k_is); (case c => k_is); (case k => k_is))
    (case d_least_pool => refine' Lb.defL_mk ?a ?l ?c ?k; (case a => k_is); (case l => k_is); (case c => k_is); (case k => k_is))
    (case d_asks_of => refine' Lb.defL_mk ?a ?l ?c ?k; (case a => k_is); (case l => k_is); (case c => k_is); (case k => k_is))
    (case d_raised => refine' Lb.defL_mk ?a ?l ?c ?k; (case a => k_is); (case l => k_is); (case c => k_is); (case k => k_is))
    (case d_first_free => refine' Lb.defL_mk ?a ?l ?c ?k; (case a => k_is); (case l => k_is); (case c => k_is); (case k => k_is))
    (case d_first_place => refine' Lb.defL_mk ?a ?l ?c ?k; (case a => k_is); (case l => k_is); (case c => k_is); (case k => k_is))
    (case d_played => refine' Lb.defL_mk ?a ?l ?c ?k; (case a => k_is); (case l => k_is); (case c => k_is); (case k => k_is))
    (case d_ends_of => refine' Lb.defL_mk ?a ?l ?c ?k; (case a => k_is); (case l => k_is); (case c => k_is); (case k => k_is))
    (case d_serves_first => refine' Lb.defL_mk ?a ?l ?c ?k; (case a => k_is); (case l => k_is); (case c => k_is); (case k => k_is))
    (case d_first_pool => refine' Lb.defL_mk ?a ?l ?c ?k; (case a => k_is); (case l => k_is); (case c => k_is); (case k => k_is))
    (case d_is_clear => refine' Lb.defL_mk ?a ?l ?c ?k; (case a => k_is); (case l => k_is); (case c => k_is); (case k => k_is))
    (case d_is_answer => refine' Lb.defL_mk ?a ?l ?c ?k; (case a => k_is); (case l => k_is); (case c => k_is); (case k => k_is))
    (case d_going_back => refine' Lb.defL_mk ?a ?l ?c ?k; (case a => k_is); (case l => k_is); (case c => k_is); (case k => k_is))
    (case d_cells_met => refine' Lb.defL_mk ?a ?l ?c ?k; (case a => k_is); (case l => k_is); (case c => k_is); (case k => k_is))
    (case d_opposed => refine' Lb.defL_mk ?a ?l ?c ?k; (case a => k_is); (case l => k_is); (case c => k_is); (case k => k_is))
    (case d_check_budget => refine' Lb.defL_mk ?a ?l ?c ?k; (case a => k_is); (case l => k_is); (case c => k_is); (case k => k_is))
    (case d_asker => refine' Lb.defLC_mk ?a ?l ?c ?k ?h ?o; (case a => k_is); (case l => k_is); (case c => k_is); (case k => k_is); (case h => kernel_rfl); (case o => kernel_rfl))
    (case d_opponent => refine' Lb.defL_mk ?a ?l ?c ?k; (case a => k_is); (case l => k_is); (case c => k_is); (case k => k_is))
    (case d_law_box => refine' Lb.defL_mk ?a ?l ?c ?k; (case a => k_is); (case l => k_is); (case c => k_is); (case k => k_is))
    (case d_law_take => refine' Lb.defL_mk ?a ?l ?c ?k; (case a => k_is); (case l => k_is); (case c => k_is); (case k => k_is))
    (case d_law_cells => refine' Lb.defL_mk ?a ?l ?c ?k; (case a => k_is); (case l => k_is); (case c => k_is); (case k => k_is))
    (case d_law_of => refine' Lb.defL_mk ?a ?l ?c ?k; (case a => k_is); (case l => k_is); (case c => k_is); (case k => k_is))
    (case d_law_same => refine' Lb.defL_mk ?a ?l ?c ?k; (case a => k_is); (case l => k_is); (case c => k_is); (case k => k_is))
    (case d_law_need => refine' Lb.defL_mk ?a ?l ?c ?k; (case a => k_is); (case l => k_is); (case c => k_is); (case k => k_is))
    (case d_law_dealt => refine' Lb.defL_mk ?a ?l ?c ?k; (case a => k_is); (case l => k_is); (case c => k_is); (case k => k_is))
    (case d_law_scaled => refine' Lb.defL_mk ?a ?l ?c ?k; (case a => k_is); (case l => k_is); (case c => k_is); (case k => k_is))
    (case d_law_row => refine' Lb.defL_mk ?a ?l ?c ?k; (case a => k_is); (case l => k_is); (case c => k_is); (case k => k_is))
    (case d_law_dealt_right => refine' Lb.defL_mk ?a ?l ?c ?k; (case a => k_is); (case l => k_is); (case c => k_is); (case k => k_is))
    (case d_law_by_hand_right => refine' Lb.defLC_mk ?a ?l ?c ?k ?h ?o; (case a => k_is); (case l => k_is); (case c => k_is); (case k => k_is); (case h => kernel_rfl); (case o => kernel_rfl))
    (case d_law_right => refine' Lb.defL_mk ?a ?l ?c ?k; (case a => k_is); (case l => k_is); (case c => k_is); (case k => k_is))
    (case d_law => refine' Lb.defL_mk ?a ?l ?c ?k; (case a => k_is); (case l => k_is); (case c => k_is); (case k => k_is))
    (case b_len => k_is)
    (case b_sum => k_is)
    (case b_max => k_is)
    (case b_all => k_is)
    (case b_abs => k_is)
    (case b_sorted => k_is)
    (case b_tuple => k_is)
    (case b_list => k_is)
    (case b_int => k_is)
    (case b_bool => k_is)
    (case b_str => k_is)
    (case b_isinstance => k_is)
    (case b_zip => k_is)
    (case b_range => k_is)
    (case b_enumerate => k_is)
    (case b_dict => k_is)
    (case b_set => k_is)
    (case c_ASK_rows => refine' Lb.strL_mk ?a; (case a => k_is))
    (case c_ASK_opponents => refine' Lb.strL_mk ?a; (case a => k_is))
    (case c_BACK => refine' Lb.strL_mk ?a; (case a => k_is))
    (case c_REFUSED => refine' Lb.strL_mk ?a; (case a => k_is))
    (case c_SERVED => refine' Lb.strL_mk ?a; (case a => k_is))
#print axioms PySem.Challenge.cw_lentblocks_k66_whole_pools_by_sizes_holds
end
