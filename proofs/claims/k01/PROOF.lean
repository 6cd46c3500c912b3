import PyProof.Rows.All
import HandS.ForMost
import HandS.Defaults
import KE.GoesZip
import KE.GoesMore
import KE.GoesEnum
import HandS.Wide
import HandS.TupAny
import HandS.Deep
import HandS.IsInst
import HandS.Star
import HandS.Style
import HandS.More
import HandS.Text
import HandS.HeadEnd
import HandS.HeadHook2
import HandS.Head2
import PySem.Challenge.RW_unclearhands_k01_clocks_recognized
set_option Elab.async false
set_option linter.all false
set_option autoImplicit false
set_option maxRecDepth 100000
set_option maxHeartbeats 4000000
namespace DL
open PySem PySem.Spec PyProof.Rows L2
inductive D where
  | non | bl (b : Bool) | int (i : Int) | str (s : Str) | obj (i : Nat) | tup (xs : List D) | lst (xs : List D) | dct (kvs : List (D × D)) | scr (ns : List Int)
  deriving Inhabited
inductive Slot where
  | non | val (d : D) | own (d : D)
  deriving Inhabited
section
variable (K : PySem.W.Frag) (as : List Addr) (O : Addr → Prop) (H : Hp)
mutual
inductive Rp : V → D → Prop
  | non : Rp .non .non
  | bl (b : Bool) : Rp (.bl b) (.bl b)
  | int (i : Int) : Rp (.int i) (.int i)
  | str (x : Str) : Rp (.str x) (.str x)
  | obj {a : Addr} {i : Nat} : as[i]? = some a → Rp (.ref a) (.obj i)
  | tup {a : Addr} {vs : List V} {xs : List D} : SqT K H a vs → RpL vs xs → Rp (.ref a) (.tup xs)
  | lst {a : Addr} {vs : List V} {xs : List D} : ¬ O a → H a = some (.lst vs) → RpL vs xs → Rp (.ref a) (.lst xs)
  | scr {a : Addr} {ns : List Int} : (¬ O a ∧ Rd H a (.lst (ns.map V.int))) ∨ (∀ H' : Hp, SqL K H' a (ns.map V.int)) → Rp (.ref a) (.scr ns)
inductive RpL : List V → List D → Prop
  | nil : RpL [] []
  | cons {v : V} {vs : List V} {d : D} {ds : List D} : Rp v d → RpL vs ds → RpL (v :: vs) (d :: ds)
end
inductive CellR (a : Addr) : D → Prop
  | lst {vs : List V} {xs : List D} : H a = some (.lst vs) → RpL K as O H vs xs → CellR a (.lst xs)
end
structure Wf (as : List Addr) (O : Addr → Prop) (H : Hp) : Prop where
  sub : ∀ a ∈ as, O a
  mt : ∀ a, O a → Mut (H a)
  nd : as.Nodup
structure Cells (K : PySem.W.Frag) (as : List Addr) (O : Addr → Prop) (H : Hp) (S : List D) : Prop where
  len : as.length = S.length
  ix : ∀ (i : Nat) (a : Addr) (d : D), as[i]? = some a → S[i]? = some d → CellR K as O H a d
def Stp (as : List Addr) (H H' : Hp) : Prop := ∀ a u, a ∉ as → H a = some u → H' a = some u
theorem Stp.refl {as : List Addr} {H : Hp} : Stp as H H := fun _ _ _ h => h
theorem Stp.trans {as : List Addr} {H H1 H2 : Hp} (a : Stp as H H1) (b : Stp as H1 H2) : Stp as H H2 := fun c u n h => b c u n (a c u n h)
theorem Same.stp {as : List Addr} {H H' : Hp} (s : Same H H') : Stp as H H' := fun a u _ h => s a u h
section
variable {K : PySem.W.Frag} {as : List Addr} {O O' : Addr → Prop} {H H' : Hp}
theorem Wf.trk (w : Wf as O H) {a : Addr} (h : O a) : H a ≠ none := fun e => by
  have := w.mt a h
  rw [e] at this
  exact this
theorem Wf.nel (w : Wf as O H) {a : Addr} (h : H a = none) : ¬ O a := fun o => w.trk o h
def Nt (o : Option HO) : Prop := (∀ vs, o ≠ some (.tup vs)) ∧ ∀ b u, o ≠ some (.frz b u)
theorem nt_of_mut {o : Option HO} (m : Mut o) : Nt o := ⟨fun _ e => by rw [e] at m; exact m, fun _ _ e => by rw [e] at m; exact m⟩
theorem nt_none : Nt none := ⟨fun _ e => (nomatch e), fun _ _ e => (nomatch e)⟩
def Kp (O : Addr → Prop) (H H' : Hp) : Prop := ∀ a u, ¬ O a → H a = some u → H' a = some u
theorem Kp.sqT (k : Kp O H H') (m : ∀ a, O a → Nt (H a)) {a : Addr} {vs : List V} (h : SqT K H a vs) : SqT K H' a vs := by
  rcases h with (h | ⟨o, h⟩) | h
  · exact .inl (.inl (k _ _ (fun o => (m a o).1 _ h) h))
  · exact .inl (.inr ⟨o, k _ _ (fun p => (m a p).2 _ _ h) h⟩)
  · exact .inr h
theorem Kp.rd (k : Kp O H H') {a : Addr} {u : HO} (n : ¬ O a) (h : Rd H a u) : Rd H' a u := by
  rcases h with h | ⟨o, h⟩
  · exact .inl (k _ _ n h)
  · exact .inr ⟨o, k _ _ n h⟩
mutual
theorem Rp.kp (m : ∀ a, O a → Nt (H a)) (k : Kp O H H') : ∀ (v : V) (d : D), Rp K as O H v d → Rp K as O H' v d
  | _, _, .non => .non
  | _, _, .bl b => .bl b
  | _, _, .int i => .int i
  | _, _, .str x => .str x
  | _, _, .obj h => .obj h
  | _, _, .tup h r => .tup (k.sqT m h) (RpL.kp m k _ _ r)
  | _, _, .lst n h r => .lst n (k _ _ n h) (RpL.kp m k _ _ r)
  | _, _, .scr h => .scr (h.elim (fun z => .inl ⟨z.1, k.rd z.1 z.2⟩) .inr)
theorem RpL.kp (m : ∀ a, O a → Nt (H a)) (k : Kp O H H') : ∀ (vs : List V) (ds : List D), RpL K as O H vs ds → RpL K as O H' vs ds
  | _, _, .nil => .nil
  | _, _, .cons r t => .cons (Rp.kp m k _ _ r) (RpL.kp m k _ _ t)
end
mutual
theorem Rp.anti (s : ∀ a, O' a → O a) : ∀ (v : V) (d : D), Rp K as O H v d → Rp K as O' H v d
  | _, _, .non => .non
  | _, _, .bl b => .bl b
  | _, _, .int i => .int i
  | _, _, .str x => .str x
  | _, _, .obj h => .obj h
  | _, _, .tup h r => .tup h (RpL.anti s _ _ r)
  | _, _, .lst n h r => .lst (fun o => n (s _ o)) h (RpL.anti s _ _ r)
  | _, _, .scr h => .scr (h.elim (fun z => .inl ⟨fun o => z.1 (s _ o), z.2⟩) .inr)
theorem RpL.anti (s : ∀ a, O' a → O a) : ∀ (vs : List V) (ds : List D), RpL K as O H vs ds → RpL K as O' H vs ds
  | _, _, .nil => .nil
  | _, _, .cons r t => .cons (Rp.anti s _ _ r) (RpL.anti s _ _ t)
end
def ad (O : Addr → Prop) (p : Addr) : Addr → Prop := fun a => O a ∨ a = p
mutual
theorem Rp.ad {p : Addr} (hp : H p = none) : ∀ (v : V) (d : D), Rp K as O H v d → Rp K as (ad O p) H v d
  | _, _, .non => .non
  | _, _, .bl b => .bl b
  | _, _, .int i => .int i
  | _, _, .str x => .str x
  | _, _, .obj h => .obj h
  | _, _, .tup h r => .tup h (RpL.ad hp _ _ r)
  | _, _, .lst n h r => .lst (fun o => by
      rcases o with o | o
      · exact n o
      · rw [o, hp] at h; cases h) h (RpL.ad hp _ _ r)
  | _, _, .scr h => .scr (h.elim (fun ⟨n, h⟩ => .inl ⟨fun o => by
      rcases o with o | o
      · exact n o
      · rcases h with h | ⟨_, h⟩ <;> (rw [o, hp] at h; cases h), h⟩) .inr)
theorem RpL.ad {p : Addr} (hp : H p = none) : ∀ (vs : List V) (ds : List D), RpL K as O H vs ds → RpL K as (ad O p) H vs ds
  | _, _, .nil => .nil
  | _, _, .cons r t => .cons (Rp.ad hp _ _ r) (RpL.ad hp _ _ t)
end
end
end DL
namespace DL
open PySem PySem.Spec PyProof.Rows L2
section
variable {K : PySem.W.Frag} {as bs : List Addr} {O : Addr → Prop} {H : Hp}
mutual
theorem rpAs1 (h : ∀ (i : Nat) (a : Addr), as[i]? = some a → bs[i]? = some a) : ∀ (v : V) (d : D), Rp K as O H v d → Rp K bs O H v d
  | _, _, .non => .non
  | _, _, .bl b => .bl b
  | _, _, .int i => .int i
  | _, _, .str x => .str x
  | _, _, .obj q => .obj (h _ _ q)
  | _, _, .tup q r => .tup q (rpAs2 h _ _ r)
  | _, _, .lst n q r => .lst n q (rpAs2 h _ _ r)
  | _, _, .scr q => .scr q
theorem rpAs2 (h : ∀ (i : Nat) (a : Addr), as[i]? = some a → bs[i]? = some a) : ∀ (vs : List V) (ds : List D), RpL K as O H vs ds → RpL K bs O H vs ds
  | _, _, .nil => .nil
  | _, _, .cons r t => .cons (rpAs1 h _ _ r) (rpAs2 h _ _ t)
end
theorem rpAs (h : ∀ (i : Nat) (a : Addr), as[i]? = some a → bs[i]? = some a) : (∀ (v : V) (d : D), Rp K as O H v d → Rp K bs O H v d) ∧ ∀ (vs : List V) (ds : List D), RpL K as O H vs ds → RpL K bs O H vs ds := ⟨rpAs1 h, rpAs2 h⟩
end
end DL
namespace DL
open PySem PySem.Spec PyProof.Rows L2
section
variable {K : PySem.W.Frag} {as : List Addr} {O O' : Addr → Prop} {H H' : Hp} {S S' : List D}
theorem CellR.mt {a : Addr} {d : D} (c : CellR K as O H a d) : Mut (H a) := by
  cases c with
  | lst h r => rw [h]; trivial
theorem Cells.mt (c : Cells K as O H S) {a : Addr} (h : a ∈ as) : Mut (H a) := by
  obtain ⟨i, hi, e⟩ := List.getElem_of_mem h
  have hs : i < S.length := by rw [← c.len]; exact hi
  exact (c.ix i a S[i] (by rw [List.getElem?_eq_getElem hi, e]) (List.getElem?_eq_getElem hs)).mt
theorem Stp.kp (s : Stp as H H') (sub : ∀ a ∈ as, O a) : Kp O H H' := fun a u n h => s a u (fun m => n (sub a m)) h
theorem Wf.step (w : Wf as O H) (s : Stp as H H') (c : Cells K as O H' S') : Wf as O H' := by
  refine ⟨w.sub, fun a o => ?_, w.nd⟩
  by_cases m : a ∈ as
  · exact c.mt m
  · have q := w.mt a o
    cases e : H a with
    | none => rw [e] at q; exact q.elim
    | some u => rw [s a u m e, ← e]; exact q
theorem Wf.nt (w : Wf as O H) : ∀ a, O a → Nt (H a) := fun a o => nt_of_mut (w.mt a o)
theorem Rp.stp (w : Wf as O H) (s : Stp as H H') {v : V} {d : D} (r : Rp K as O H v d) : Rp K as O H' v d := Rp.kp w.nt (s.kp w.sub) v d r
theorem RpL.stp (w : Wf as O H) (s : Stp as H H') {v : List V} {d : List D} (r : RpL K as O H v d) : RpL K as O H' v d := RpL.kp w.nt (s.kp w.sub) v d r
theorem CellR.same (w : Wf as O H) (s : Stp as H H') {a : Addr} {d : D} (e : H' a = H a) (c : CellR K as O H a d) : CellR K as O H' a d := by
  cases c with
  | lst h r => exact .lst (e.trans h) (r.stp w s)
theorem Same.eq (s : Same H H') {a : Addr} (h : H a ≠ none) : H' a = H a := by
  cases e : H a with
  | none => exact absurd e h
  | some u => exact s a u e
theorem Cells.same (c : Cells K as O H S) (w : Wf as O H) (s : Same H H') : Cells K as O H' S :=
  ⟨c.len, fun i a d e1 e2 => (c.ix i a d e1 e2).same w (Same.stp s) (Same.eq s (w.trk (w.sub a (List.mem_of_getElem? e1))))⟩
theorem Wf.same (w : Wf as O H) (s : Same H H') : Wf as O H' := ⟨w.sub, fun a o => by rw [Same.eq s (w.trk o)]; exact w.mt a o, w.nd⟩
theorem CellR.stp (w : Wf as O H) (s : Stp as H H') {a : Addr} {d : D} (c : CellR K as O H a d) (n : a ∉ as) : CellR K as O H' a d := c.same w s (by
  cases q : H a with
  | none => have := c.mt; rw [q] at this; exact this.elim
  | some u => exact s a u n q)
def RpB (K : PySem.W.Frag) (as : List Addr) (O : Addr → Prop) (H : Hp) (v : V) (d : D) : Prop := Rp K as O H v d ∨ ∃ a, v = .ref a ∧ a ∉ as ∧ CellR K as O H a d
theorem RpB.stp (w : Wf as O H) (s : Stp as H H') {v : V} {d : D} (r : RpB K as O H v d) : RpB K as O H' v d := by
  rcases r with r | ⟨a, e, n, c⟩
  · exact .inl (r.stp w s)
  · refine .inr ⟨a, e, n, c.same w s ?_⟩
    cases q : H a with
    | none => have := c.mt; rw [q] at this; exact this.elim
    | some u => exact s a u n q
structure RelE (K : PySem.W.Frag) (as : List Addr) (O : Addr → Prop) (σ : L2.St) (H : Hp) (ρ : List Slot) (S : List D) : Prop where
  wf : Wf as O H
  cells : Cells K as O H S
  len : σ.length = ρ.length
  val : ∀ (i : Nat) (d : D), ρ[i]? = some (.val d) → ∃ v, σ[i]? = some (some v) ∧ Rp K as O H v d
  own : ∀ (i : Nat) (d : D), ρ[i]? = some (.own d) → ∃ a, σ[i]? = some (some (.ref a)) ∧ a ∉ as ∧ CellR K as O H a d
theorem RelE.step {σ : L2.St} {ρ : List Slot} (r : RelE K as O σ H ρ S) (s : Stp as H H') (c : Cells K as O H' S') : RelE K as O σ H' ρ S' :=
  ⟨r.wf.step s c, c, r.len, fun i d e => let ⟨v, h, q⟩ := r.val i d e; ⟨v, h, q.stp r.wf s⟩, fun i d e => let ⟨a, h, n, q⟩ := r.own i d e; ⟨a, h, n, q.stp r.wf s n⟩⟩
end
abbrev Ev := List Slot → List D → Option (D × List D)
abbrev Ea := List Slot → List D → Option (List D × List D)
abbrev Et := List Slot → List D → Option (Bool × List D)
def tOf (K : PySem.W.Frag) (f : Ev) : TE := fun σ H Q => ∃ as O ρ S d S', RelE K as O σ H ρ S ∧ f ρ S = some (d, S') ∧
  ∀ v H', Stp as H H' → Cells K as O H' S' → Rp K as O H' v d → Q v H'
def tOfB (K : PySem.W.Frag) (f : Ev) : TE := fun σ H Q => ∃ as O ρ S d S', RelE K as O σ H ρ S ∧ f ρ S = some (d, S') ∧
  ∀ v H', Stp as H H' → Cells K as O H' S' → RpB K as O H' v d → Q v H'
def tOfA (K : PySem.W.Frag) (f : Ea) : TA := fun σ H Q => ∃ as O ρ S ds S', RelE K as O σ H ρ S ∧ f ρ S = some (ds, S') ∧
  ∀ vs H', Stp as H H' → Cells K as O H' S' → RpL K as O H' vs ds → Q vs H'
def tOfT (K : PySem.W.Frag) (f : Et) : TT := fun σ H Q => ∃ as O ρ S b S', RelE K as O σ H ρ S ∧ f ρ S = some (b, S') ∧
  ∀ H', Stp as H H' → Cells K as O H' S' → Q b H'
theorem _root_.L2.PE.weak {X : Cx} {e : Expr} {t t' : TE} (h : PE X e t) (k : ∀ σ H Q, t' σ H Q → t σ H Q) : PE X e t' := ⟨fun pins s σ H Q I hw => h.run pins s σ H Q I (k _ _ _ hw)⟩
theorem _root_.L2.PT.weak {X : Cx} {e : Expr} {t t' : TT} (h : PT X e t) (k : ∀ σ H Q, t' σ H Q → t σ H Q) : PT X e t' := ⟨fun pins s σ H Q I hw => h.run pins s σ H Q I (k _ _ _ hw)⟩
theorem _root_.L2.PW.weak {X : Cx} {e : Expr} {t t' : TT} (h : PW X e t) (k : ∀ σ H Q, t' σ H Q → t σ H Q) : PW X e t' := ⟨fun wh pins s σ H Q I hw => h.run wh pins s σ H Q I (k _ _ _ hw)⟩
theorem _root_.L2.PA.weak {X : Cx} {e : List Expr} {t t' : TA} (h : PA X e t) (k : ∀ σ H Q, t' σ H Q → t σ H Q) : PA X e t' := ⟨fun ps pins s σ H Q I hw => h.run ps pins s σ H Q I (k _ _ _ hw)⟩
theorem _root_.L2.PS.weak {X : Cx} {e : Stmt} {t t' : TS} (h : PS X e t) (k : ∀ D σ H, t' D σ H → t D σ H) : PS X e t' := ⟨fun pins s σ H Q I hw => h.run pins s σ H Q I (k _ _ _ hw)⟩
theorem _root_.L2.PSs.weak {X : Cx} {e : List Stmt} {t t' : TS} (h : PSs X e t) (k : ∀ D σ H, t' D σ H → t D σ H) : PSs X e t' := ⟨fun pins s σ H Q I hw => h.run pins s σ H Q I (k _ _ _ hw)⟩
def eC (d : D) : Ev := fun _ S => some (d, S)
def eV (i : Nat) : Ev := fun ρ S => match ρ[i]? with
  | some (.val d) => some (d, S)
  | _ => none
def eB (i : Nat) : Ev := fun ρ S => match ρ[i]? with
  | some (.val d) => some (d, S)
  | some (.own d) => some (d, S)
  | _ => none
section
variable {X : Cx} {pos : Pos} {e a b c : Expr} {es : List Expr} {f fa fb : Ev} {fs : Ea} {fc fd : Et}
theorem me_con {v : V} {d : D} (h : PE X e (tC v)) (r : ∀ as O H, Rp X.K as O H v d) : PE X e (tOf X.K (eC d)) := h.weak fun σ H Q q => by
  obtain ⟨as, O, ρ, S, d', S', R, hf, k⟩ := q
  cases hf
  exact k v H Stp.refl R.cells (r _ _ _)
theorem me_int {i j pos} : PE X (.Constant (.int i) j pos) (tOf X.K (eC (.int i))) := me_con pe_int fun _ _ _ => .int i
theorem me_bl {i j pos} : PE X (.Constant (.bool i) j pos) (tOf X.K (eC (.bl i))) := me_con pe_bl fun _ _ _ => .bl i
theorem me_non {j pos} : PE X (.Constant .none j pos) (tOf X.K (eC .non)) := me_con pe_non fun _ _ _ => .non
theorem me_str {i j pos} : PE X (.Constant (.str i) j pos) (tOf X.K (eC (.str i))) := me_con pe_str fun _ _ _ => .str i
theorem me_v (i : Nat) {x : Str} {pos : Pos} (hN : X.N[i]? = some x := by rfl) (hv : Vis X.env.scope x := by first | exact Or.inl rfl | exact Or.inr (Or.inl rfl) | exact Or.inr (Or.inr rfl)) (hd : (x == ("__debug__" : Str)) = false := by decide)
    (hcd : (x == ("__classdict__" : Str)) = false := by decide) : PE X (.Name x pos) (tOf X.K (eV i)) := (pe_var hN hv hd hcd).weak fun σ H Q q => by
  obtain ⟨as, O, ρ, S, d, S', R, hf, k⟩ := q
  unfold eV at hf
  split at hf
  · rename_i d' hr
    cases hf
    obtain ⟨v, h, r⟩ := R.val i _ hr
    exact ⟨v, h, k v H Stp.refl R.cells r⟩
  · cases hf
theorem me_bv (i : Nat) {x : Str} {pos : Pos} (hN : X.N[i]? = some x := by rfl) (hv : Vis X.env.scope x := by first | exact Or.inl rfl | exact Or.inr (Or.inl rfl) | exact Or.inr (Or.inr rfl)) (hd : (x == ("__debug__" : Str)) = false := by decide)
    (hcd : (x == ("__classdict__" : Str)) = false := by decide) : PE X (.Name x pos) (tOfB X.K (eB i)) := (pe_var hN hv hd hcd).weak fun σ H Q q => by
  obtain ⟨as, O, ρ, S, d, S', R, hf, k⟩ := q
  unfold eB at hf
  split at hf
  · rename_i d' hr
    cases hf
    obtain ⟨v, h, r⟩ := R.val i _ hr
    exact ⟨v, h, k v H Stp.refl R.cells (.inl r)⟩
  · rename_i d' hr
    cases hf
    obtain ⟨a, h, n, r⟩ := R.own i _ hr
    exact ⟨_, h, k _ H Stp.refl R.cells (.inr ⟨a, rfl, n, r⟩)⟩
  · cases hf
theorem me_b (h : PE X e (tOf X.K f)) : PE X e (tOfB X.K f) := h.weak fun σ H Q q => by
  obtain ⟨as, O, ρ, S, d, S', R, hf, k⟩ := q
  exact ⟨as, O, ρ, S, d, S', R, hf, fun v H' s c r => k v H' s c (.inl r)⟩
def aN : Ea := fun _ S => some ([], S)
def aC (f : Ev) (fs : Ea) : Ea := fun ρ S => (f ρ S).bind fun p => (fs ρ p.2).bind fun q => some (p.1 :: q.1, q.2)
theorem ma_nil : PA X [] (tOfA X.K aN) := pa_nil.weak fun σ H Q q => by
  obtain ⟨as, O, ρ, S, d, S', R, hf, k⟩ := q
  cases hf
  exact k [] H Stp.refl R.cells .nil
theorem ma_cons (ha : PE X e (tOf X.K f)) (hr : PA X es (tOfA X.K fs)) (hs : starEach (e :: es) X.env = (false, eval e X.env) :: starEach es X.env := by rfl) : PA X (e :: es) (tOfA X.K (aC f fs)) := (pa_cons ha hr hs).weak fun σ H Q q => by
  obtain ⟨as, O, ρ, S, d, S', R, hf, k⟩ := q
  unfold aC at hf
  obtain ⟨⟨d1, S1⟩, h1, hf⟩ := Option.bind_eq_some_iff.mp hf
  obtain ⟨⟨d2, S2⟩, h2, hf⟩ := Option.bind_eq_some_iff.mp hf
  cases hf
  refine ⟨as, O, ρ, S, d1, S1, R, h1, fun v H1 s1 c1 r1 => ?_⟩
  have R1 := R.step s1 c1
  refine ⟨as, O, ρ, S1, d2, _, R1, h2, fun vs H2 s2 c2 r2 => ?_⟩
  exact k _ H2 (s1.trans s2) c2 (.cons (r1.stp R1.wf s2) r2)
theorem Rp.length {K : PySem.W.Frag} {as : List Addr} {O : Addr → Prop} {H : Hp} : ∀ {vs : List V} {ds : List D}, RpL K as O H vs ds → vs.length = ds.length
  | _, _, .nil => rfl
  | _, _, .cons _ t => congrArg (· + 1) (Rp.length t)
theorem same_new {H : Hp} {p : Addr} {o : HO} (h : H p = none) : Same H (upd H p o) := fun b u e => by rw [upd_ne (ne_of_none e h)]; exact e
def eTup (fs : Ea) : Ev := fun ρ S => (fs ρ S).bind fun p => if p.1.length ≤ 16777216 then some (.tup p.1, p.2) else none
def eLst (fs : Ea) : Ev := fun ρ S => (fs ρ S).bind fun p => if p.1.length ≤ 16777216 then some (.lst p.1, p.2) else none
theorem sizeLine_16 : sizeLine = 16777216 := by decide
theorem le_line {n : Nat} (h : n ≤ 16777216) : n ≤ sizeLine := by rw [sizeLine_16]; exact h
theorem me_tup {x1} (h : PA X es (tOfA X.K fs)) : PE X (.Tuple es x1 pos) (tOf X.K (eTup fs)) := (pe_tup h).weak fun σ H Q q => by
  obtain ⟨as, O, ρ, S, d, S', R, hf, k⟩ := q
  unfold eTup at hf
  obtain ⟨⟨d1, S1⟩, h1, hf⟩ := Option.bind_eq_some_iff.mp hf
  split at hf
  · rename_i hl
    cases hf
    refine ⟨as, O, ρ, S, d1, S1, R, h1, fun vs H1 s1 c1 r1 => ?_⟩
    have R1 := R.step s1 c1
    refine ⟨by rw [Rp.length r1]; exact le_line hl, fun p hp => ?_⟩
    have sm := same_new (o := .tup vs) hp
    exact k _ _ (s1.trans (Same.stp sm)) (c1.same R1.wf sm) (.tup (.inl (.inl upd_same)) (r1.stp R1.wf (Same.stp sm)))
  · cases hf
theorem me_lst (h : PA X es (tOfA X.K fs)) : PE X (.List es pos) (tOf X.K (eLst fs)) := (pe_lst h).weak fun σ H Q q => by
  obtain ⟨as, O, ρ, S, d, S', R, hf, k⟩ := q
  unfold eLst at hf
  obtain ⟨⟨d1, S1⟩, h1, hf⟩ := Option.bind_eq_some_iff.mp hf
  split at hf
  · rename_i hl
    cases hf
    refine ⟨as, O, ρ, S, d1, S1, R, h1, fun vs H1 s1 c1 r1 => ?_⟩
    have R1 := R.step s1 c1
    refine ⟨by rw [Rp.length r1]; exact le_line hl, fun p hp => ?_⟩
    have sm := same_new (o := .lst vs) hp
    exact k _ _ (s1.trans (Same.stp sm)) (c1.same R1.wf sm) (.lst (R1.wf.nel hp) upd_same (r1.stp R1.wf (Same.stp sm)))
  · cases hf
def r2D (K : PySem.W.Frag) (g : D → D → Option D) : R2 := fun x y H Q => ∃ as O d e r, Wf as O H ∧ RpB K as O H x d ∧ RpB K as O H y e ∧ g d e = some r ∧ ∀ v H', Same H H' → Rp K as O H' v r → Q v H'
def r1D (K : PySem.W.Frag) (g : D → Option D) : V → Hp → VK → Prop := fun x H Q => ∃ as O d r, Wf as O H ∧ RpB K as O H x d ∧ g d = some r ∧ ∀ v H', Same H H' → Rp K as O H' v r → Q v H'
def eBin (g : D → D → Option D) (fa fb : Ev) : Ev := fun ρ S => (fa ρ S).bind fun p => (fb ρ p.2).bind fun q => (g p.1 q.1).bind fun r => some (r, q.2)
def eUn (g : D → Option D) (fa : Ev) : Ev := fun ρ S => (fa ρ S).bind fun p => (g p.1).bind fun r => some (r, p.2)
theorem bin_weak {K : PySem.W.Frag} {g : D → D → Option D} {σ : L2.St} {H : Hp} {Q : VK} (q : tOf K (eBin g fa fb) σ H Q) : tOp (r2D K g) (tOfB K fa) (tOfB K fb) σ H Q := by
  obtain ⟨as, O, ρ, S, d, S', R, hf, k⟩ := q
  unfold eBin at hf
  obtain ⟨⟨d1, S1⟩, h1, hf⟩ := Option.bind_eq_some_iff.mp hf
  obtain ⟨⟨d2, S2⟩, h2, hf⟩ := Option.bind_eq_some_iff.mp hf
  obtain ⟨r, h3, hf⟩ := Option.bind_eq_some_iff.mp hf
  cases hf
  refine ⟨as, O, ρ, S, d1, S1, R, h1, fun v H1 s1 c1 r1 => ?_⟩
  have R1 := R.step s1 c1
  refine ⟨as, O, ρ, S1, d2, S2, R1, h2, fun w H2 s2 c2 r2 => ?_⟩
  have R2 := R1.step s2 c2
  exact ⟨as, O, d1, d2, _, R2.wf, r1.stp R1.wf s2, r2, h3, fun v H' sm r => k v H' ((s1.trans s2).trans (Same.stp sm)) (c2.same R2.wf sm) r⟩
theorem un_weak {K : PySem.W.Frag} {g : D → Option D} {σ : L2.St} {H : Hp} {Q : VK} (q : tOf K (eUn g fa) σ H Q) : tUn (r1D K g) (tOfB K fa) σ H Q := by
  obtain ⟨as, O, ρ, S, d, S', R, hf, k⟩ := q
  unfold eUn at hf
  obtain ⟨⟨d1, S1⟩, h1, hf⟩ := Option.bind_eq_some_iff.mp hf
  obtain ⟨r, h3, hf⟩ := Option.bind_eq_some_iff.mp hf
  cases hf
  refine ⟨as, O, ρ, S, d1, S1, R, h1, fun v H1 s1 c1 r1 => ?_⟩
  have R1 := R.step s1 c1
  exact ⟨as, O, d1, _, R1.wf, r1, h3, fun v H' sm r => k v H' (s1.trans (Same.stp sm)) (c1.same R1.wf sm) r⟩
theorem me_bin {op : Operator} {g : D → D → Option D} (ho : OpR X (binaryOp op) (r2D X.K g)) (ha : PE X a (tOfB X.K fa)) (hb : PE X b (tOfB X.K fb)) : PE X (.BinOp a op b pos) (tOf X.K (eBin g fa fb)) :=
  (pe_op ho ha hb).weak fun _ _ _ => bin_weak
theorem me_cmp {op : CmpOp} {g : D → D → Option D} (ho : OpR X (compareOp op) (r2D X.K g)) (ha : PE X a (tOfB X.K fa)) (hb : PE X b (tOfB X.K fb)) (hm : behindInMarks op b = false) : PE X (.Compare a [op] [b] pos) (tOf X.K (eBin g fa fb)) :=
  (pe_cmpR ho ha hb hm).weak fun _ _ _ => bin_weak
theorem me_un {op : UnaryOp} {g : D → Option D} (ho : UnR X (unaryOp op) (r1D X.K g)) (ha : PE X a (tOfB X.K fa)) : PE X (.UnaryOp op a pos) (tOf X.K (eUn g fa)) :=
  (pe_un ho ha).weak fun _ _ _ => un_weak
def cV (f : Ev) : Et := fun ρ S => (f ρ S).bind fun p => match p.1 with
  | .bl b => some (b, p.2)
  | _ => none
theorem mt_cmp {op : CmpOp} {g : D → D → Option D} (ho : OpR X (compareOp op) (r2D X.K g)) (ha : PE X a (tOfB X.K fa)) (hb : PE X b (tOfB X.K fb)) (hm : behindInMarks op b = false) : PT X (.Compare a [op] [b] pos) (tOfT X.K (cV (eBin g fa fb))) :=
  (pt_cmpR ho ha hb hm).weak fun σ H Q q => by
    obtain ⟨as, O, ρ, S, d, S', R, hf, k⟩ := q
    unfold cV at hf
    obtain ⟨⟨d1, S1⟩, h1, hf⟩ := Option.bind_eq_some_iff.mp hf
    refine bin_weak ⟨as, O, ρ, S, d1, S1, R, h1, fun v H' s c r => ?_⟩
    cases r with
    | bl b => cases hf; exact ⟨_, rfl, k H' s c⟩
    | _ => cases hf
theorem mt_val (h : PE X e (tOf X.K f)) (he : ∀ whole, isTrue e X.env whole = (do let v ← whole; standAt e.pos; holding [v] (truthy v)) := by intro _; rfl) : PT X e (tOfT X.K (cV f)) :=
  (pt_val h he).weak fun σ H Q q => by
    obtain ⟨as, O, ρ, S, d, S', R, hf, k⟩ := q
    unfold cV at hf
    obtain ⟨⟨d1, S1⟩, h1, hf⟩ := Option.bind_eq_some_iff.mp hf
    refine ⟨as, O, ρ, S, d1, S1, R, h1, fun v H' s c r => ?_⟩
    cases r with
    | bl b => cases hf; exact ⟨_, rfl, k H' s c⟩
    | _ => cases hf
def cAnd (fc fd : Et) : Et := fun ρ S => (fc ρ S).bind fun p => if p.1 = true then fd ρ p.2 else some (false, p.2)
def cOr (fc fd : Et) : Et := fun ρ S => (fc ρ S).bind fun p => if p.1 = true then some (true, p.2) else fd ρ p.2
def cNot (fc : Et) : Et := fun ρ S => (fc ρ S).bind fun p => some (!p.1, p.2)
theorem mw_and1 (h : PT X a (tOfT X.K fc)) : PW X (.BoolOp .And [a] pos) (tOfT X.K fc) := pw_and1 h
theorem mw_or1 (h : PT X a (tOfT X.K fc)) : PW X (.BoolOp .Or [a] pos) (tOfT X.K fc) := pw_or1 h
variable {rest : List Expr}
theorem mw_and (ha : PT X a (tOfT X.K fc)) (hb : PW X (.BoolOp .And (b :: rest) pos) (tOfT X.K fd)) : PW X (.BoolOp .And (a :: b :: rest) pos) (tOfT X.K (cAnd fc fd)) := (pw_and ha hb).weak fun σ H Q q => by
  obtain ⟨as, O, ρ, S, d, S', R, hf, k⟩ := q
  unfold cAnd at hf
  obtain ⟨⟨d1, S1⟩, h1, hf⟩ := Option.bind_eq_some_iff.mp hf
  refine ⟨as, O, ρ, S, d1, S1, R, h1, fun H1 s1 c1 => ?_⟩
  cases d1 with
  | true => exact ⟨as, O, ρ, S1, d, S', R.step s1 c1, hf, fun H2 s2 c2 => k H2 (s1.trans s2) c2⟩
  | false => cases hf; exact k H1 s1 c1
theorem mw_or (ha : PT X a (tOfT X.K fc)) (hb : PW X (.BoolOp .Or (b :: rest) pos) (tOfT X.K fd)) : PW X (.BoolOp .Or (a :: b :: rest) pos) (tOfT X.K (cOr fc fd)) := (pw_or ha hb).weak fun σ H Q q => by
  obtain ⟨as, O, ρ, S, d, S', R, hf, k⟩ := q
  unfold cOr at hf
  obtain ⟨⟨d1, S1⟩, h1, hf⟩ := Option.bind_eq_some_iff.mp hf
  refine ⟨as, O, ρ, S, d1, S1, R, h1, fun H1 s1 c1 => ?_⟩
  cases d1 with
  | false => exact ⟨as, O, ρ, S1, d, S', R.step s1 c1, hf, fun H2 s2 c2 => k H2 (s1.trans s2) c2⟩
  | true => cases hf; exact k H1 s1 c1
theorem mt_not (ha : PT X a (tOfT X.K fc)) : PT X (.UnaryOp .Not a pos) (tOfT X.K (cNot fc)) := (pt_not ha).weak fun σ H Q q => by
  obtain ⟨as, O, ρ, S, d, S', R, hf, k⟩ := q
  unfold cNot at hf
  obtain ⟨⟨d1, S1⟩, h1, hf⟩ := Option.bind_eq_some_iff.mp hf
  cases hf
  exact ⟨as, O, ρ, S, d1, S1, R, h1, fun H1 s1 c1 => k H1 s1 c1⟩
def eT (c : Et) : Ev := fun ρ S => (c ρ S).bind fun p => some (.bl p.1, p.2)
def eAnd (fa fb : Ev) : Ev := fun ρ S => (fa ρ S).bind fun p => match p.1 with
  | .bl true => fb ρ p.2
  | .bl false => some (.bl false, p.2)
  | _ => none
def eOr (fa fb : Ev) : Ev := fun ρ S => (fa ρ S).bind fun p => match p.1 with
  | .bl true => some (.bl true, p.2)
  | .bl false => fb ρ p.2
  | _ => none
def eNot (fa : Ev) : Ev := fun ρ S => (fa ρ S).bind fun p => match p.1 with
  | .bl b => some (.bl (!b), p.2)
  | _ => none
theorem me_and1 {op} (h : PE X a (tOf X.K fa)) : PE X (.BoolOp op [a] pos) (tOf X.K fa) := pe_one h
theorem me_and (ha : PE X a (tOf X.K fa)) (hb : PE X (.BoolOp .And (b :: rest) pos) (tOf X.K fb)) : PE X (.BoolOp .And (a :: b :: rest) pos) (tOf X.K (eAnd fa fb)) := (pe_and ha hb).weak fun σ H Q q => by
  obtain ⟨as, O, ρ, S, d, S', R, hf, k⟩ := q
  unfold eAnd at hf
  obtain ⟨⟨d1, S1⟩, h1, hf⟩ := Option.bind_eq_some_iff.mp hf
  refine ⟨as, O, ρ, S, d1, S1, R, h1, fun v H1 s1 c1 r1 => ?_⟩
  cases r1 with
  | bl b =>
    refine ⟨b, rfl, ?_⟩
    cases b with
    | true => exact ⟨as, O, ρ, S1, d, S', R.step s1 c1, hf, fun v H2 s2 c2 r => k v H2 (s1.trans s2) c2 r⟩
    | false => cases hf; exact k _ H1 s1 c1 (.bl _)
  | _ => cases hf
theorem me_or (ha : PE X a (tOf X.K fa)) (hb : PE X (.BoolOp .Or (b :: rest) pos) (tOf X.K fb)) : PE X (.BoolOp .Or (a :: b :: rest) pos) (tOf X.K (eOr fa fb)) := (pe_or ha hb).weak fun σ H Q q => by
  obtain ⟨as, O, ρ, S, d, S', R, hf, k⟩ := q
  unfold eOr at hf
  obtain ⟨⟨d1, S1⟩, h1, hf⟩ := Option.bind_eq_some_iff.mp hf
  refine ⟨as, O, ρ, S, d1, S1, R, h1, fun v H1 s1 c1 r1 => ?_⟩
  cases r1 with
  | bl b =>
    refine ⟨b, rfl, ?_⟩
    cases b with
    | false => exact ⟨as, O, ρ, S1, d, S', R.step s1 c1, hf, fun v H2 s2 c2 r => k v H2 (s1.trans s2) c2 r⟩
    | true => cases hf; exact k _ H1 s1 c1 (.bl _)
  | _ => cases hf
theorem me_not (ha : PE X a (tOf X.K fa)) : PE X (.UnaryOp .Not a pos) (tOf X.K (eNot fa)) := (pe_not ha).weak fun σ H Q q => by
  obtain ⟨as, O, ρ, S, d, S', R, hf, k⟩ := q
  unfold eNot at hf
  obtain ⟨⟨d1, S1⟩, h1, hf⟩ := Option.bind_eq_some_iff.mp hf
  refine ⟨as, O, ρ, S, d1, S1, R, h1, fun v H1 s1 c1 r1 => ?_⟩
  cases r1 with
  | bl b => cases hf; exact ⟨b, rfl, k _ H1 s1 c1 (.bl _)⟩
  | _ => cases hf
def eIf (c : Et) (fa fb : Ev) : Ev := fun ρ S => (c ρ S).bind fun p => if p.1 = true then fa ρ p.2 else fb ρ p.2
theorem me_if (hc : PT X c (tOfT X.K fc)) (ha : PE X a (tOf X.K fa)) (hb : PE X b (tOf X.K fb)) : PE X (.IfExp c a b pos) (tOf X.K (eIf fc fa fb)) := (pe_ifExp hc ha hb).weak fun σ H Q q => by
  obtain ⟨as, O, ρ, S, d, S', R, hf, k⟩ := q
  unfold eIf at hf
  obtain ⟨⟨d1, S1⟩, h1, hf⟩ := Option.bind_eq_some_iff.mp hf
  refine ⟨as, O, ρ, S, d1, S1, R, h1, fun H1 s1 c1 => ?_⟩
  cases d1 with
  | true => exact ⟨as, O, ρ, S1, d, S', R.step s1 c1, hf, fun v H2 s2 c2 r => k v H2 (s1.trans s2) c2 r⟩
  | false => exact ⟨as, O, ρ, S1, d, S', R.step s1 c1, hf, fun v H2 s2 c2 r => k v H2 (s1.trans s2) c2 r⟩
end
end DL
namespace DL
open PySem PySem.Spec PyProof.Rows L2
def tOfF (K : PySem.W.Frag) (f : Ev) : TE := fun σ H Q => ∃ as O ρ S d S', RelE K as O σ H ρ S ∧ f ρ S = some (d, S') ∧
  ∀ a H', H a = none → Stp as H H' → Cells K as (ad O a) H' S' → CellR K as (ad O a) H' a d → Q (.ref a) H'
section
variable {K : PySem.W.Frag} {as : List Addr} {O O' : Addr → Prop} {H H' : Hp} {S S' : List D}
theorem CellR.anti (s : ∀ a, O' a → O a) {a : Addr} {d : D} (c : CellR K as O H a d) : CellR K as O' H a d := by
  cases c with
  | lst h r => exact .lst h (RpL.anti s _ _ r)
theorem Cells.anti (s : ∀ a, O' a → O a) (c : Cells K as O H S) : Cells K as O' H S := ⟨c.len, fun i a d e1 e2 => (c.ix i a d e1 e2).anti s⟩
theorem ad_sub {p : Addr} : ∀ a, O a → ad O p a := fun _ o => .inl o
theorem CellR.val {a : Addr} {d : D} (n : ¬ O' a) (s : ∀ a, O' a → O a) (c : CellR K as O H a d) : Rp K as O' H (.ref a) d := by
  cases c with
  | lst h r => exact .lst n h (RpL.anti s _ _ r)
end
section
variable {X : Cx} {pos : Pos} {e a b c : Expr} {es : List Expr} {f fa fb : Ev} {fs : Ea} {fc fd : Et}
theorem me_f (h : PE X e (tOfF X.K f)) : PE X e (tOf X.K f) := h.weak fun σ H Q q => by
  obtain ⟨as, O, ρ, S, d, S', R, hf, k⟩ := q
  refine ⟨as, O, ρ, S, d, S', R, hf, fun p H' n s c r => k _ H' s (c.anti ad_sub) (r.val (R.wf.nel n) ad_sub)⟩
theorem mf_lst (h : PA X es (tOfA X.K fs)) : PE X (.List es pos) (tOfF X.K (eLst fs)) := (pe_lst h).weak fun σ H Q q => by
  obtain ⟨as, O, ρ, S, d, S', R, hf, k⟩ := q
  unfold eLst at hf
  obtain ⟨⟨d1, S1⟩, h1, hf⟩ := Option.bind_eq_some_iff.mp hf
  split at hf
  · rename_i hl
    cases hf
    refine ⟨as, O, ρ, S, d1, S1, R, h1, fun vs H1 s1 c1 r1 => ?_⟩
    have R1 := R.step s1 c1
    refine ⟨by rw [Rp.length r1]; exact le_line hl, fun p hp => ?_⟩
    have sm := same_new (o := .lst vs) hp
    have hp0 : H p = none := by
      cases q : H p with
      | none => rfl
      | some u =>
        by_cases m : p ∈ as
        · have := R1.wf.trk (R1.wf.sub p m); exact absurd hp this
        · rw [s1 p u m q] at hp; cases hp
    have w2 : Wf as O (upd H1 p (.lst vs)) := R1.wf.same sm
    have kk : Kp (ad O p) H1 (upd H1 p (.lst vs)) := fun a u _ e => sm a u e
    have m1 : ∀ a, ad O p a → Nt (H1 a) := fun a o => by
      rcases o with o | o
      · exact nt_of_mut (R1.wf.mt a o)
      · rw [o, hp]; exact nt_none
    have r2 : RpL X.K as (ad O p) (upd H1 p (.lst vs)) vs d1 := RpL.kp m1 kk _ _ (RpL.ad hp _ _ r1)
    refine k p _ hp0 (s1.trans (Same.stp sm)) ⟨c1.len, fun i a d e1 e2 => ?_⟩ (.lst upd_same r2)
    have q := c1.ix i a d e1 e2
    have hne : a ≠ p := fun z => by
      have := q.mt
      rw [z, hp] at this
      exact this
    cases q with
    | lst h r => exact .lst ((upd_ne hne).trans h) (RpL.kp m1 kk _ _ (RpL.ad hp _ _ r))
  · cases hf
end
inductive Out where
  | nx (ρ : List Slot) (S : List D) | rt (d : D) (S : List D) | bk (ρ : List Slot) (S : List D) | ct (ρ : List Slot) (S : List D)
abbrev Sv := List Slot → List D → Option Out
def Ow (ρ : List Slot) (σ : L2.St) (a : Addr) : Prop := ∃ (i : Nat) (d : D), ρ[i]? = some (.own d) ∧ σ[i]? = some (some (.ref a))
def OO (O : Addr → Prop) (ρ : List Slot) (σ : L2.St) : Addr → Prop := fun a => O a ∨ Ow ρ σ a
structure Rel (K : PySem.W.Frag) (as : List Addr) (O : Addr → Prop) (B : Addr → Prop) (G : Addr → HO → Prop) (σ : L2.St) (H : Hp) (ρ : List Slot) (S : List D) : Prop where
  sub : ∀ a ∈ as, O a
  ob : ∀ a, O a → B a
  bt : ∀ a, B a → H a ≠ none
  mt : ∀ a, O a → Mut (H a)
  nd : as.Nodup
  g : ∀ a u, G a u → H a = some u
  gas : ∀ a u, G a u → a ∉ as
  cells : Cells K as (OO O ρ σ) H S
  len : σ.length = ρ.length
  val : ∀ (i : Nat) (d : D), ρ[i]? = some (.val d) → ∃ v, σ[i]? = some (some v) ∧ Rp K as (OO O ρ σ) H v d
  own : ∀ (i : Nat) (d : D), ρ[i]? = some (.own d) → ∃ a, σ[i]? = some (some (.ref a)) ∧ ¬ B a ∧ (∀ u, ¬ G a u) ∧ CellR K as (OO O ρ σ) H a d
  dist : ∀ (i j : Nat) (d e : D) (a : Addr), i ≠ j → ρ[i]? = some (.own d) → ρ[j]? = some (.own e) → σ[i]? = some (some (.ref a)) → σ[j]? ≠ some (some (.ref a))
section
variable {K : PySem.W.Frag} {as : List Addr} {O B : Addr → Prop} {G G' : Addr → HO → Prop} {σ : L2.St} {H H' : Hp} {ρ : List Slot} {S S' : List D}
theorem Rel.ow_own (R : Rel K as O B G σ H ρ S) {a : Addr} (h : Ow ρ σ a) : ¬ B a ∧ (∀ u, ¬ G a u) ∧ Mut (H a) := by
  obtain ⟨i, d, h1, h2⟩ := h
  obtain ⟨b, e, n, g, c⟩ := R.own i d h1
  rw [h2] at e
  cases e
  exact ⟨n, g, c.mt⟩
theorem Rel.wf (R : Rel K as O B G σ H ρ S) : Wf as (OO O ρ σ) H := by
  refine ⟨fun a m => .inl (R.sub a m), fun a o => ?_, R.nd⟩
  rcases o with o | o
  · exact R.mt a o
  · exact (R.ow_own o).2.2
theorem Rel.notas (R : Rel K as O B G σ H ρ S) {a : Addr} (h : ¬ B a) : a ∉ as := fun m => h (R.ob a (R.sub a m))
theorem Rel.e (R : Rel K as O B G σ H ρ S) : RelE K as (OO O ρ σ) σ H ρ S :=
  ⟨R.wf, R.cells, R.len, R.val, fun i d e => let ⟨a, h, n, g, c⟩ := R.own i d e; ⟨a, h, R.notas n, c⟩⟩
theorem Rel.step (R : Rel K as O B G σ H ρ S) (s : Stp as H H') (c : Cells K as (OO O ρ σ) H' S') : Rel K as O B G σ H' ρ S' := by
  have w := R.wf
  have w' := w.step s c
  have nn : ∀ a, H a ≠ none → H' a ≠ none := fun a h => by
    by_cases m : a ∈ as
    · exact w'.trk (w.sub a m)
    · cases q : H a with
      | none => exact absurd q h
      | some u => rw [s a u m q]; exact fun z => nomatch z
  refine ⟨R.sub, R.ob, fun a b => nn a (R.bt a b), fun a o => w'.mt a (.inl o), R.nd, fun a u h => s a u (R.gas a u h) (R.g a u h), R.gas, c, R.len, fun i d e => ?_, fun i d e => ?_, R.dist⟩
  · obtain ⟨v, h, r⟩ := R.val i d e
    exact ⟨v, h, r.stp w s⟩
  · obtain ⟨a, h, n, g, q⟩ := R.own i d e
    refine ⟨a, h, n, g, q.same w s ?_⟩
    cases z : H a with
    | none => have := q.mt; rw [z] at this; exact this.elim
    | some u => exact s a u (R.notas n) z
theorem get_set {α : Type} {l : List α} {i j : Nat} {x y : α} (h : (l.set i x)[j]? = some y) : (j = i ∧ x = y) ∨ (j ≠ i ∧ l[j]? = some y) := by
  by_cases e : j = i
  · subst e
    rw [List.getElem?_set_self'] at h
    cases q : l[j]? with
    | none => rw [q] at h; cases h
    | some z => rw [q] at h; exact .inl ⟨rfl, by simpa using h⟩
  · rw [List.getElem?_set_ne (Ne.symm e)] at h
    exact .inr ⟨e, h⟩
theorem ow_set {i : Nat} {x : Option V} {y : Slot} {a : Addr} (hy : ∀ d, y ≠ .own d) (h : Ow (ρ.set i y) (σ.set i x) a) : Ow ρ σ a := by
  obtain ⟨j, d, h1, h2⟩ := h
  rcases get_set h1 with ⟨rfl, e⟩ | ⟨ne, e⟩
  · exact absurd e (hy d)
  · rw [List.getElem?_set_ne (Ne.symm ne)] at h2
    exact ⟨j, d, e, h2⟩
theorem oo_set {i : Nat} {x : Option V} {y : Slot} (hy : ∀ d, y ≠ .own d) : ∀ a, OO O (ρ.set i y) (σ.set i x) a → OO O ρ σ a := fun a h => h.elim .inl fun z => .inr (ow_set hy z)
theorem Rel.set (R : Rel K as O B G σ H ρ S) (i : Nat) {v : V} {d : D} (r : Rp K as (OO O ρ σ) H v d) : Rel K as O B G (σ.set i (some v)) H (ρ.set i (.val d)) S := by
  have sb : ∀ a, OO O (ρ.set i (.val d)) (σ.set i (some v)) a → OO O ρ σ a := oo_set (fun _ z => nomatch z)
  refine ⟨R.sub, R.ob, R.bt, R.mt, R.nd, R.g, R.gas, R.cells.anti sb, by simp [R.len], fun j e h => ?_, fun j e h => ?_, fun j k e1 e2 a ne h1 h2 h3 => ?_⟩
  · rcases get_set h with ⟨rfl, q⟩ | ⟨ne, q⟩
    · cases q
      have hl : j < σ.length := by
        rw [R.len]
        obtain ⟨z, _⟩ := List.getElem?_eq_some_iff.mp h
        simpa using z
      exact ⟨v, List.getElem?_set_self hl, Rp.anti sb _ _ r⟩
    · obtain ⟨w, h2, r2⟩ := R.val j e q
      exact ⟨w, (List.getElem?_set_ne (Ne.symm ne)).trans h2, Rp.anti sb _ _ r2⟩
  · rcases get_set h with ⟨rfl, q⟩ | ⟨ne, q⟩
    · cases q
    · obtain ⟨a, h2, n, g, c⟩ := R.own j e q
      exact ⟨a, (List.getElem?_set_ne (Ne.symm ne)).trans h2, n, g, c.anti sb⟩
  · rcases get_set h1 with ⟨rfl, q⟩ | ⟨ne1, q1⟩
    · cases q
    · rcases get_set h2 with ⟨rfl, q⟩ | ⟨ne2, q2⟩
      · cases q
      · rw [List.getElem?_set_ne (Ne.symm ne1)] at h3
        rw [List.getElem?_set_ne (Ne.symm ne2)]
        exact R.dist j k e1 e2 a ne q1 q2 h3
theorem Rel.setOwn (R : Rel K as O B G σ H ρ S) (i : Nat) {a : Addr} {d : D} (hi : i < ρ.length) (n : H a = none) (s : Stp as H H') (c : Cells K as (ad (OO O ρ σ) a) H' S') (q : CellR K as (ad (OO O ρ σ) a) H' a d) :
    Rel K as O B G (σ.set i (some (.ref a))) H' (ρ.set i (.own d)) S' := by
  have R' := R.step s (c.anti ad_sub)
  have sb : ∀ b, OO O (ρ.set i (.own d)) (σ.set i (some (.ref a))) b → ad (OO O ρ σ) a b := fun b h => by
    rcases h with h | ⟨j, e, h1, h2⟩
    · exact .inl (.inl h)
    · rcases get_set h1 with ⟨rfl, z⟩ | ⟨ne, z⟩
      · rcases get_set h2 with ⟨_, y⟩ | ⟨y, _⟩
        · exact .inr (by cases y; rfl)
        · exact absurd rfl y
      · rw [List.getElem?_set_ne (Ne.symm ne)] at h2
        exact .inl (.inr ⟨j, e, z, h2⟩)
  have m1 : ∀ b, ad (OO O ρ σ) a b → Nt (H b) := fun b o => by
    rcases o with o | o
    · exact R.wf.nt b o
    · rw [o, n]; exact nt_none
  have kk : Kp (ad (OO O ρ σ) a) H H' := fun b u nb e => s b u (fun m => nb (.inl (.inl (R.sub b m)))) e
  have nb : ¬ B a := fun z => R.bt a z n
  have hl : i < σ.length := by rw [R.len]; exact hi
  refine ⟨R.sub, R.ob, R'.bt, R'.mt, R.nd, R'.g, R.gas, c.anti sb, by simp [R.len], fun j e h => ?_, fun j e h => ?_, fun j k e1 e2 b ne h1 h2 h3 => ?_⟩
  · rcases get_set h with ⟨rfl, z⟩ | ⟨ne, z⟩
    · cases z
    · obtain ⟨w, h2, r2⟩ := R.val j e z
      exact ⟨w, (List.getElem?_set_ne (Ne.symm ne)).trans h2, Rp.anti sb _ _ (Rp.kp m1 kk _ _ (Rp.ad n _ _ r2))⟩
  · rcases get_set h with ⟨rfl, z⟩ | ⟨ne, z⟩
    · cases z
      exact ⟨a, List.getElem?_set_self hl, nb, (fun u g => by
        have := R.g a u g
        rw [n] at this
        cases this), q.anti sb⟩
    · obtain ⟨b, h2, nb2, g, cb⟩ := R.own j e z
      refine ⟨b, (List.getElem?_set_ne (Ne.symm ne)).trans h2, nb2, g, ?_⟩
      cases cb with
      | lst hh r => exact .lst (s b _ (R.notas nb2) hh) (RpL.anti sb _ _ (RpL.kp m1 kk _ _ (RpL.ad n _ _ r)))
  · have fresh : ∀ (j : Nat) (e : D), ρ[j]? = some (.own e) → σ[j]? ≠ some (some (.ref a)) := fun j e h z => by
      obtain ⟨b, h2, _, _, cb⟩ := R.own j e h
      rw [z] at h2
      cases h2
      have := cb.mt
      rw [n] at this
      exact this
    rcases get_set h1 with ⟨rfl, q1⟩ | ⟨ne1, q1⟩
    · rcases get_set h3 with ⟨_, y⟩ | ⟨y, _⟩
      · cases y
        rcases get_set h2 with ⟨rfl, q2⟩ | ⟨ne2, q2⟩
        · exact absurd rfl ne
        · rw [List.getElem?_set_ne (Ne.symm ne2)]
          exact fresh k e2 q2
      · exact absurd rfl y
    · rw [List.getElem?_set_ne (Ne.symm ne1)] at h3
      rcases get_set h2 with ⟨rfl, q2⟩ | ⟨ne2, q2⟩
      · rw [List.getElem?_set_self hl]
        intro y
        cases y
        exact fresh j e1 q1 h3
      · rw [List.getElem?_set_ne (Ne.symm ne2)]
        exact R.dist j k e1 e2 b ne q1 q2 h3
theorem Rel.mutOwn (R : Rel K as O B G σ H ρ S) {i : Nat} {a : Addr} {d d' : D} {o : HO} (hi : ρ[i]? = some (.own d)) (ha : σ[i]? = some (some (.ref a))) (mo : Mut (some o))
    (q : CellR K as (OO O ρ σ) (upd H a o) a d') : Rel K as O B G σ (upd H a o) (ρ.set i (.own d')) S := by
  have ow : Ow ρ σ a := ⟨i, d, hi, ha⟩
  obtain ⟨nb, ng, ma⟩ := R.ow_own ow
  have na : H a ≠ none := fun z => by rw [z] at ma; exact ma
  have kk : Kp (OO O ρ σ) H (upd H a o) := fun b u n e => by
    rw [upd_ne (fun z => n (by rw [z]; exact .inr ow))]
    exact e
  have sb : ∀ b, OO O (ρ.set i (.own d')) σ b → OO O ρ σ b := fun b h => by
    rcases h with h | ⟨j, e, h1, h2⟩
    · exact .inl h
    · rcases get_set h1 with ⟨rfl, z⟩ | ⟨ne, z⟩
      · exact .inr ⟨j, d, hi, h2⟩
      · exact .inr ⟨j, e, z, h2⟩
  have w := R.wf
  refine ⟨R.sub, R.ob, fun b h => ?_, fun b h => ?_, R.nd, fun b u h => ?_, R.gas, ⟨R.cells.len, fun j b e e1 e2 => ?_⟩, by simp [R.len], fun j e h => ?_, fun j e h => ?_, fun j k e1 e2 b ne h1 h2 h3 => ?_⟩
  · rw [upd_ne (fun z => nb (by rw [← z]; exact h))]; exact R.bt b h
  · rw [upd_ne (fun z => nb (by rw [← z]; exact R.ob b h))]; exact R.mt b h
  · rw [upd_ne (fun z => ng u (by rw [← z]; exact h))]; exact R.g b u h
  · have hb : b ≠ a := fun z => R.notas nb (by rw [← z]; exact List.mem_of_getElem? e1)
    cases R.cells.ix j b e e1 e2 with
    | lst h r => exact .lst ((upd_ne hb).trans h) (RpL.anti sb _ _ (RpL.kp w.nt kk _ _ r))
  · rcases get_set h with ⟨rfl, z⟩ | ⟨ne, z⟩
    · cases z
    · obtain ⟨v, h2, r⟩ := R.val j e z
      exact ⟨v, h2, Rp.anti sb _ _ (Rp.kp w.nt kk _ _ r)⟩
  · rcases get_set h with ⟨rfl, z⟩ | ⟨ne, z⟩
    · cases z
      exact ⟨a, ha, nb, ng, q.anti sb⟩
    · obtain ⟨b, h2, n2, g2, cb⟩ := R.own j e z
      have hb : b ≠ a := fun y => by
        subst y
        exact R.dist i j d e b (Ne.symm ne) hi z ha h2
      refine ⟨b, h2, n2, g2, ?_⟩
      cases cb with
      | lst hh r => exact .lst ((upd_ne hb).trans hh) (RpL.anti sb _ _ (RpL.kp w.nt kk _ _ r))
  · have f : ∀ (j : Nat) (e : D), (ρ.set i (.own d'))[j]? = some (.own e) → ∃ e', ρ[j]? = some (.own e') := fun j e h => by
      rcases get_set h with ⟨rfl, z⟩ | ⟨ne, z⟩
      · exact ⟨d, hi⟩
      · exact ⟨e, z⟩
    obtain ⟨f1, g1⟩ := f j e1 h1
    obtain ⟨f2, g2⟩ := f k e2 h2
    exact R.dist j k f1 f2 b ne g1 g2 h3
theorem Rel.mutCell (R : Rel K as O B G σ H ρ S) {i : Nat} {a : Addr} {d d' : D} {o : HO} (hi : S[i]? = some d) (ha : as[i]? = some a) (mo : Mut (some o))
    (q : CellR K as (OO O ρ σ) (upd H a o) a d') : Rel K as O B G σ (upd H a o) ρ (S.set i d') := by
  have am := List.mem_of_getElem? ha
  have oa := R.sub a am
  have kk : Kp (OO O ρ σ) H (upd H a o) := fun b u n e => by
    rw [upd_ne (fun z => n (by rw [z]; exact .inl oa))]
    exact e
  have w := R.wf
  have nn : ∀ b, H b ≠ none → upd H a o b ≠ none := fun b h => by
    by_cases z : b = a
    · rw [z, upd_same]; exact fun y => nomatch y
    · rw [upd_ne z]; exact h
  refine ⟨R.sub, R.ob, fun b h => nn b (R.bt b h), fun b h => ?_, R.nd, fun b u h => ?_, R.gas, ⟨by simp [R.cells.len], fun j b e e1 e2 => ?_⟩, R.len, fun j e h => ?_, fun j e h => ?_, R.dist⟩
  · by_cases z : b = a
    · rw [z, upd_same]; exact mo
    · rw [upd_ne z]; exact R.mt b h
  · rw [upd_ne (fun z => R.gas b u h (by rw [z]; exact am))]; exact R.g b u h
  · rcases get_set e2 with ⟨rfl, z⟩ | ⟨ne, z⟩
    · cases z
      rw [ha] at e1
      cases e1
      exact q
    · have hb : b ≠ a := fun y => by
        subst y
        obtain ⟨l1, g1⟩ := List.getElem?_eq_some_iff.mp e1
        obtain ⟨l2, g2⟩ := List.getElem?_eq_some_iff.mp ha
        exact ne ((List.getElem_inj R.nd).mp (g1.trans g2.symm))
      cases R.cells.ix j b e e1 z with
      | lst h r => exact .lst ((upd_ne hb).trans h) (RpL.kp w.nt kk _ _ r)
  · obtain ⟨v, h2, r⟩ := R.val j e h
    exact ⟨v, h2, Rp.kp w.nt kk _ _ r⟩
  · obtain ⟨b, h2, n2, g2, cb⟩ := R.own j e h
    have hb : b ≠ a := fun y => R.notas n2 (by rw [y]; exact am)
    refine ⟨b, h2, n2, g2, ?_⟩
    cases cb with
    | lst hh r => exact .lst ((upd_ne hb).trans hh) (RpL.kp w.nt kk _ _ r)
theorem Rel.guard (R : Rel K as O B G σ H ρ S) (k : ∀ a u, G' a u → G a u) : Rel K as O B G' σ H ρ S :=
  ⟨R.sub, R.ob, R.bt, R.mt, R.nd, fun a u h => R.g a u (k a u h), fun a u h => R.gas a u (k a u h), R.cells, R.len, R.val, fun i d e => let ⟨a, h, n, g, c⟩ := R.own i d e; ⟨a, h, n, fun u z => g u (k a u z), c⟩, R.dist⟩
theorem Rel.guardNow (R : Rel K as O B G σ H ρ S) : Rel K as O B (fun a u => G a u ∨ (¬ OO O ρ σ a ∧ H a = some u)) σ H ρ S :=
  ⟨R.sub, R.ob, R.bt, R.mt, R.nd, fun a u h => h.elim (R.g a u) fun z => z.2, fun a u h => h.elim (R.gas a u) fun z m => z.1 (.inl (R.sub a m)), R.cells, R.len, R.val,
    fun i d e => let ⟨a, h, n, g, c⟩ := R.own i d e; ⟨a, h, n, fun u z => z.elim (g u) fun y => y.1 (.inr ⟨i, d, e, h⟩), c⟩, R.dist⟩
theorem Rel.freeze (R : Rel K as O B G σ H ρ S) {i : Nat} {d : D} (hi : ρ[i]? = some (.own d)) : Rel K as O B G σ H (ρ.set i (.val d)) S := by
  have sb : ∀ a, OO O (ρ.set i (.val d)) σ a → OO O ρ σ a := fun a h => by
    rcases h with h | ⟨j, e, h1, h2⟩
    · exact .inl h
    · rcases get_set h1 with ⟨rfl, z⟩ | ⟨ne, z⟩
      · cases z
      · exact .inr ⟨j, e, z, h2⟩
  refine ⟨R.sub, R.ob, R.bt, R.mt, R.nd, R.g, R.gas, R.cells.anti sb, by simp [R.len], fun j e h => ?_, fun j e h => ?_, fun j k e1 e2 b ne h1 h2 h3 => ?_⟩
  · rcases get_set h with ⟨rfl, z⟩ | ⟨ne, z⟩
    · cases z
      obtain ⟨a, h2, n, g, c⟩ := R.own j d hi
      refine ⟨.ref a, h2, c.val (fun o => ?_) sb⟩
      rcases o with o | ⟨k, e, h3, h4⟩
      · exact n (R.ob a o)
      · rcases get_set h3 with ⟨rfl, z⟩ | ⟨ne, z⟩
        · cases z
        · exact R.dist j k d e a (Ne.symm ne) hi z h2 h4
    · obtain ⟨v, h2, r⟩ := R.val j e z
      exact ⟨v, h2, Rp.anti sb _ _ r⟩
  · rcases get_set h with ⟨rfl, z⟩ | ⟨ne, z⟩
    · cases z
    · obtain ⟨a, h2, n, g, c⟩ := R.own j e z
      exact ⟨a, h2, n, g, c.anti sb⟩
  · rcases get_set h1 with ⟨rfl, q⟩ | ⟨ne1, q1⟩
    · cases q
    · rcases get_set h2 with ⟨rfl, q⟩ | ⟨ne2, q2⟩
      · cases q
      · exact R.dist j k e1 e2 b ne q1 q2 h3
end
end DL
namespace DL
open PySem PySem.Spec PyProof.Rows L2
def ResR (fr : Bool) (K : PySem.W.Frag) (as : List Addr) (O B : Addr → Prop) (H : Hp) (S : List D) (v : V) (d : D) : Prop :=
  Cells K as O H S ∧ Rp K as O H v d ∧ (fr = true → ∃ a, v = .ref a ∧ ¬ B a ∧ CellR K as (ad O a) H a d ∧ Cells K as (ad O a) H S)
def OutOk (fr : Bool) (K : PySem.W.Frag) (as : List Addr) (O B : Addr → Prop) (G : Addr → HO → Prop) (D : Ends) : Out → Prop
  | .nx ρ S => ∀ σ H, Rel K as O B G σ H ρ S → D.nx σ H
  | .bk ρ S => ∀ σ H, Rel K as O B G σ H ρ S → D.bk σ H
  | .ct ρ S => ∀ σ H, Rel K as O B G σ H ρ S → D.ct σ H
  | .rt d S => ∀ v H, (∀ a u, G a u → H a = some u) → ResR fr K as O B H S v d → D.rt v H
def tOfS (fr : Bool) (K : PySem.W.Frag) (f : Sv) : TS := fun D σ H => ∃ as O B G ρ S o, Rel K as O B G σ H ρ S ∧ f ρ S = some o ∧ OutOk fr K as O B G D o
section
variable {X : Cx} {pos : Pos} {e a b c : Expr} {es : List Expr} {f fa fb : Ev} {fs : Ea} {fc fd : Et} {fr : Bool} {g1 g2 : Sv} {st : Stmt} {sts : List Stmt}
def sNil : Sv := fun ρ S => some (.nx ρ S)
def sSeq (g1 g2 : Sv) : Sv := fun ρ S => (g1 ρ S).bind fun o => match o with
  | .nx ρ' S' => g2 ρ' S'
  | o => some o
theorem mss_nil : PSs X [] (tOfS fr X.K sNil) := pss_nil.weak fun D σ H q => by
  obtain ⟨as, O, B, G, ρ, S, o, R, hf, k⟩ := q
  cases hf
  exact k σ H R
theorem mss_cons (h1 : PS X st (tOfS fr X.K g1)) (h2 : PSs X sts (tOfS fr X.K g2)) : PSs X (st :: sts) (tOfS fr X.K (sSeq g1 g2)) := (pss_cons h1 h2).weak fun D σ H q => by
  obtain ⟨as, O, B, G, ρ, S, o, R, hf, k⟩ := q
  unfold sSeq at hf
  obtain ⟨o1, h1, hf⟩ := Option.bind_eq_some_iff.mp hf
  refine ⟨as, O, B, G, ρ, S, o1, R, h1, ?_⟩
  cases o1 with
  | nx ρ' S' => exact fun σ' H' R' => ⟨as, O, B, G, ρ', S', o, R', hf, k⟩
  | rt d S' => cases hf; exact k
  | bk ρ' S' => cases hf; exact k
  | ct ρ' S' => cases hf; exact k
theorem mss_one (h1 : PS X st (tOfS fr X.K g1)) : PSs X [st] (tOfS fr X.K g1) := pss_one h1
def sIf (c : Et) (g1 g2 : Sv) : Sv := fun ρ S => (c ρ S).bind fun p => if p.1 = true then g1 ρ p.2 else g2 ρ p.2
theorem ms_if {x y : List Stmt} (hc : PT X c (tOfT X.K fc)) (hx : PSs X x (tOfS fr X.K g1)) (hy : PSs X y (tOfS fr X.K g2)) : PS X (.If c x y pos) (tOfS fr X.K (sIf fc g1 g2)) := (ps_if hc hx hy).weak fun D σ H q => by
  obtain ⟨as, O, B, G, ρ, S, o, R, hf, k⟩ := q
  unfold sIf at hf
  obtain ⟨⟨d1, S1⟩, h1, hf⟩ := Option.bind_eq_some_iff.mp hf
  refine ⟨as, _, ρ, S, d1, S1, R.e, h1, fun H1 s1 c1 => ?_⟩
  have R1 := R.step s1 c1
  cases d1 with
  | true => exact ⟨as, O, B, G, ρ, S1, o, R1, hf, k⟩
  | false => exact ⟨as, O, B, G, ρ, S1, o, R1, hf, k⟩
def sPass : Sv := fun ρ S => some (.nx ρ S)
def sBrk : Sv := fun ρ S => some (.bk ρ S)
def sCnt : Sv := fun ρ S => some (.ct ρ S)
theorem ms_pass : PS X (.Pass pos) (tOfS fr X.K sPass) := ps_pass.weak fun D σ H q => by
  obtain ⟨as, O, B, G, ρ, S, o, R, hf, k⟩ := q
  cases hf
  exact k σ H R
theorem ms_brk : PS X (.Break pos) (tOfS fr X.K sBrk) := ps_break.weak fun D σ H q => by
  obtain ⟨as, O, B, G, ρ, S, o, R, hf, k⟩ := q
  cases hf
  exact k σ H R
theorem ms_cnt : PS X (.Continue pos) (tOfS fr X.K sCnt) := ps_continue.weak fun D σ H q => by
  obtain ⟨as, O, B, G, ρ, S, o, R, hf, k⟩ := q
  cases hf
  exact k σ H R
def sRet (f : Ev) : Sv := fun ρ S => (f ρ S).bind fun p => some (.rt p.1 p.2)
def sRetN : Sv := fun _ S => some (.rt .non S)
def sRetO (i : Nat) : Sv := fun ρ S => match ρ[i]? with
  | some (.own d) => some (.rt d S)
  | _ => none
theorem oo_o {O : Addr → Prop} {ρ : List Slot} {σ : L2.St} : ∀ a, O a → OO O ρ σ a := fun _ h => .inl h
theorem ms_ret (h : PE X e (tOf X.K f)) : PS X (.Return (some e) pos) (tOfS false X.K (sRet f)) := (ps_ret h).weak fun D σ H q => by
  obtain ⟨as, O, B, G, ρ, S, o, R, hf, k⟩ := q
  unfold sRet at hf
  obtain ⟨⟨d1, S1⟩, h1, hf⟩ := Option.bind_eq_some_iff.mp hf
  cases hf
  refine ⟨as, _, ρ, S, d1, S1, R.e, h1, fun v H1 s1 c1 r1 => ?_⟩
  exact k v H1 (R.step s1 c1).g ⟨c1.anti oo_o, Rp.anti oo_o _ _ r1, fun z => (nomatch z)⟩
theorem ms_retN : PS X (.Return none pos) (tOfS false X.K sRetN) := ps_retN.weak fun D σ H q => by
  obtain ⟨as, O, B, G, ρ, S, o, R, hf, k⟩ := q
  cases hf
  exact k _ H R.g ⟨R.cells.anti oo_o, .non, fun z => (nomatch z)⟩
theorem ad_mono {O O' : Addr → Prop} {p : Addr} (s : ∀ a, O' a → O a) : ∀ a, ad O' p a → ad O p a := fun a h => h.elim (fun z => .inl (s a z)) .inr
theorem ms_retF (h : PE X e (tOfF X.K f)) : PS X (.Return (some e) pos) (tOfS fr X.K (sRet f)) := (ps_ret h).weak fun D σ H q => by
  obtain ⟨as, O, B, G, ρ, S, o, R, hf, k⟩ := q
  unfold sRet at hf
  obtain ⟨⟨d1, S1⟩, h1, hf⟩ := Option.bind_eq_some_iff.mp hf
  cases hf
  refine ⟨as, _, ρ, S, d1, S1, R.e, h1, fun p H1 n s1 c1 r1 => ?_⟩
  have nb : ¬ B p := fun z => R.bt p z n
  refine k _ H1 (R.step s1 (c1.anti ad_sub)).g ⟨(c1.anti ad_sub).anti oo_o, r1.val (fun o => nb (R.ob p o)) (fun a o => .inl (oo_o a o)), fun _ => ⟨p, rfl, nb, r1.anti (ad_mono oo_o), c1.anti (ad_mono oo_o)⟩⟩
theorem ms_retO (i : Nat) {x : Str} {p : Pos} (h : PE X (.Name x p) (tVar i)) : PS X (.Return (some (.Name x p)) pos) (tOfS fr X.K (sRetO i)) := (ps_ret h).weak fun D σ H q => by
  obtain ⟨as, O, B, G, ρ, S, o, R, hf, k⟩ := q
  unfold sRetO at hf
  split at hf
  · rename_i d hd
    cases hf
    obtain ⟨p, h1, nb, ng, c⟩ := R.own i d hd
    have sb : ∀ b, ad O p b → OO O ρ σ b := fun b h => h.elim .inl fun z => .inr (z ▸ ⟨i, d, hd, h1⟩)
    exact ⟨.ref p, h1, k _ H R.g ⟨R.cells.anti oo_o, c.val (fun o => nb (R.ob p o)) oo_o, fun _ => ⟨p, rfl, nb, c.anti sb, R.cells.anti sb⟩⟩⟩
  · cases hf
inductive Pat where
  | nm (i : Nat) | tup (ps : List Pat)
mutual
def binds : Pat → D → Option (List (Nat × D))
  | .nm i, d => some [(i, d)]
  | .tup ps, .tup ds => bindsL ps ds
  | .tup _, _ => none
def bindsL : List Pat → List D → Option (List (Nat × D))
  | [], [] => some []
  | p :: ps, d :: ds => (binds p d).bind fun a => (bindsL ps ds).bind fun b => some (a ++ b)
  | _, _ => none
end
def putV (σ : L2.St) : List (Nat × V) → L2.St
  | [] => σ
  | (i, v) :: r => putV (σ.set i (some v)) r
def putD (ρ : List Slot) : List (Nat × D) → List Slot
  | [] => ρ
  | (i, d) :: r => putD (ρ.set i (.val d)) r
inductive RpP (K : PySem.W.Frag) (as : List Addr) (O : Addr → Prop) (H : Hp) : List (Nat × V) → List (Nat × D) → Prop
  | nil : RpP K as O H [] []
  | cons {i : Nat} {v : V} {d : D} {vs : List (Nat × V)} {ds : List (Nat × D)} : Rp K as O H v d → RpP K as O H vs ds → RpP K as O H ((i, v) :: vs) ((i, d) :: ds)
theorem RpP.app {K : PySem.W.Frag} {as : List Addr} {O : Addr → Prop} {H : Hp} : ∀ {a b : List (Nat × V)} {c d : List (Nat × D)}, RpP K as O H a c → RpP K as O H b d → RpP K as O H (a ++ b) (c ++ d)
  | _, _, _, _, .nil, h => h
  | _, _, _, _, .cons r t, h => .cons r (RpP.app t h)
theorem putV_app (σ : L2.St) : ∀ (a b : List (Nat × V)), putV (putV σ a) b = putV σ (a ++ b)
  | [], _ => rfl
  | (i, v) :: r, b => putV_app (σ.set i (some v)) r b
def gOf (K : PySem.W.Frag) (p : Pat) : TG := fun v σ H Q => ∃ as O d l, Rp K as O H v d ∧ binds p d = some l ∧ ∀ vl, RpP K as O H vl l → Q (putV σ vl) H
def gsOf (K : PySem.W.Frag) (ps : List Pat) : TGs := fun vs σ H Q => ∃ as O ds l, RpL K as O H vs ds ∧ bindsL ps ds = some l ∧ ∀ vl, RpP K as O H vl l → Q (putV σ vl) H
theorem _root_.L2.PG.weak {X : Cx} {e : Expr} {t t' : TG} (h : PG X e t) (k : ∀ v σ H Q, t' v σ H Q → t v σ H Q) : PG X e t' := ⟨fun pins s σ H v u Q I r hw => h.run pins s σ H v u Q I r (k _ _ _ _ hw)⟩
theorem _root_.L2.PGs.weak {X : Cx} {e : List Expr} {t t' : TGs} (h : PGs X e t) (k : ∀ v σ H Q, t' v σ H Q → t v σ H Q) : PGs X e t' := ⟨fun pins s σ H v u Q I r hw => h.run pins s σ H v u Q I r (k _ _ _ _ hw)⟩
theorem mg_name {i : Nat} {x : Str} (hN : X.N.Nodup) (hi : X.N[i]? = some x) (hx : Loc X.env.scope x) (hf : X.fn x = true ∨ X.env.scope.names.lookup x = some .local := by first | exact .inl rfl | exact .inr rfl | assumption) : PG X (.Name x pos) (gOf X.K (.nm i)) :=
  (pg_name hN hi hx hf).weak fun v σ H Q q => by
    obtain ⟨as, O, d, l, r, hb, k⟩ := q
    unfold binds at hb
    cases hb
    exact k [(i, v)] (.cons r .nil)
theorem mgs_nil : PGs X [] (gsOf X.K []) := pgs_nil.weak fun v σ H Q q => by
  obtain ⟨as, O, d, l, r, hb, k⟩ := q
  cases r with
  | nil => unfold bindsL at hb; cases hb; exact ⟨rfl, k [] .nil⟩
  | cons r t => unfold bindsL at hb; cases hb
theorem mgs_cons {p : Pat} {ps : List Pat} (h1 : PG X e (gOf X.K p)) (h2 : PGs X es (gsOf X.K ps)) (hs : (assignEach (e :: es) X.env).map (·.2) = assign e X.env :: (assignEach es X.env).map (·.2) := by rfl) : PGs X (e :: es) (gsOf X.K (p :: ps)) :=
  (pgs_cons h1 h2 hs).weak fun v σ H Q q => by
    obtain ⟨as, O, ds, l, r, hb, k⟩ := q
    cases r with
    | nil => unfold bindsL at hb; cases hb
    | cons r t =>
      unfold bindsL at hb
      obtain ⟨a1, h1, hb⟩ := Option.bind_eq_some_iff.mp hb
      obtain ⟨a2, h2, hb⟩ := Option.bind_eq_some_iff.mp hb
      cases hb
      exact ⟨_, _, rfl, as, O, _, a1, r, h1, fun vl r1 => ⟨as, O, _, a2, t, h2, fun vl2 r2 => by rw [putV_app]; exact k _ (r1.app r2)⟩⟩
theorem bindsL_len : ∀ {ps : List Pat} {ds : List D} {l : List (Nat × D)}, bindsL ps ds = some l → ds.length = ps.length
  | [], [], _, _ => rfl
  | [], _ :: _, _, h => by unfold bindsL at h; cases h
  | _ :: _, [], _, h => by unfold bindsL at h; cases h
  | p :: ps, d :: ds, _, h => by
    unfold bindsL at h
    obtain ⟨a1, h1, h⟩ := Option.bind_eq_some_iff.mp h
    obtain ⟨a2, h2, h⟩ := Option.bind_eq_some_iff.mp h
    exact congrArg (· + 1) (bindsL_len h2)
theorem mg_tup {k : Nat} {ps : List Pat} (hc : X.calm = true) (h : PGs X es (gsOf X.K ps)) (hn : (assignEach es X.env).length = ps.length := by rfl) (hst : (assignEach es X.env).findIdx? (·.1) = none := by rfl) : PG X (.Tuple es k pos) (gOf X.K (.tup ps)) :=
  (pg_tup hc h hn hst).weak fun v σ H Q q => by
    obtain ⟨as, O, d, l, r, hb, k⟩ := q
    cases r with
    | tup h t =>
      unfold binds at hb
      exact ⟨_, _, rfl, h, (Rp.length t).trans (bindsL_len hb), as, O, _, l, t, hb, k⟩
    | _ => unfold binds at hb; cases hb
section
variable {K : PySem.W.Frag} {as : List Addr} {O B : Addr → Prop} {G : Addr → HO → Prop} {H : Hp} {S : List D}
theorem RpP.anti {O' : Addr → Prop} (s : ∀ a, O' a → O a) : ∀ {a : List (Nat × V)} {b : List (Nat × D)}, RpP K as O H a b → RpP K as O' H a b
  | _, _, .nil => .nil
  | _, _, .cons r t => .cons (Rp.anti s _ _ r) (RpP.anti s t)
theorem Rel.put : ∀ {vl : List (Nat × V)} {l : List (Nat × D)} {σ : L2.St} {ρ : List Slot}, Rel K as O B G σ H ρ S → RpP K as (OO O ρ σ) H vl l → Rel K as O B G (putV σ vl) H (putD ρ l) S
  | _, _, _, _, R, .nil => R
  | _, _, σ, ρ, R, .cons (i := i) (v := v) (d := d) r t => Rel.put (σ := σ.set i (some v)) (ρ := ρ.set i (.val d)) (R.set i r) (t.anti (oo_set (y := .val d) fun _ z => nomatch z))
theorem RelE.set {σ : L2.St} {ρ : List Slot} (R : RelE K as O σ H ρ S) (i : Nat) {v : V} {d : D} (r : Rp K as O H v d) : RelE K as O (σ.set i (some v)) H (ρ.set i (.val d)) S := by
  refine ⟨R.wf, R.cells, by simp [R.len], fun j e h => ?_, fun j e h => ?_⟩
  · rcases get_set h with ⟨rfl, q⟩ | ⟨ne, q⟩
    · cases q
      have hl : j < σ.length := by
        rw [R.len]
        obtain ⟨z, _⟩ := List.getElem?_eq_some_iff.mp h
        simpa using z
      exact ⟨v, List.getElem?_set_self hl, r⟩
    · obtain ⟨w, h2, r2⟩ := R.val j e q
      exact ⟨w, (List.getElem?_set_ne (Ne.symm ne)).trans h2, r2⟩
  · rcases get_set h with ⟨rfl, q⟩ | ⟨ne, q⟩
    · cases q
    · obtain ⟨w, h2, r2⟩ := R.own j e q
      exact ⟨w, (List.getElem?_set_ne (Ne.symm ne)).trans h2, r2⟩
theorem RelE.put : ∀ {vl : List (Nat × V)} {l : List (Nat × D)} {σ : L2.St} {ρ : List Slot}, RelE K as O σ H ρ S → RpP K as O H vl l → RelE K as O (putV σ vl) H (putD ρ l) S
  | _, _, _, _, R, .nil => R
  | _, _, σ, ρ, R, .cons (i := i) (v := v) (d := d) r t => RelE.put (σ := σ.set i (some v)) (ρ := ρ.set i (.val d)) (R.set i r) t
end
def sAsg (p : Pat) (f : Ev) : Sv := fun ρ S => (f ρ S).bind fun q => (binds p q.1).bind fun l => some (.nx (putD ρ l) q.2)
def sSet (i : Nat) (f : Ev) : Sv := fun ρ S => (f ρ S).bind fun q => some (.nx (ρ.set i (.val q.1)) q.2)
def sSetO (i : Nat) (f : Ev) : Sv := fun ρ S => (f ρ S).bind fun q => if i < ρ.length then some (.nx (ρ.set i (.own q.1)) q.2) else none
theorem asg_weak {p : Pat} {D : Ends} {σ : L2.St} {H : Hp} (q : tOfS fr X.K (sAsg p f) D σ H) : tAsg (tOf X.K f) (gOf X.K p) D σ H := by
  obtain ⟨as, O, B, G, ρ, S, o, R, hf, k⟩ := q
  unfold sAsg at hf
  obtain ⟨⟨d1, S1⟩, h1, hf⟩ := Option.bind_eq_some_iff.mp hf
  obtain ⟨l, h2, hf⟩ := Option.bind_eq_some_iff.mp hf
  cases hf
  refine ⟨as, _, ρ, S, d1, S1, R.e, h1, fun v H1 s1 c1 r1 => ?_⟩
  have R1 := R.step s1 c1
  exact ⟨as, _, d1, l, r1, h2, fun vl r2 => k _ _ (R1.put r2)⟩
theorem ms_asg {tg : Expr} {p : Pat} (he : PE X e (tOf X.K f)) (hg : PG X tg (gOf X.K p)) (hs : swapsWithSole [tg] e pos.line X.env = pure false := by rfl) (hw : swappedStores [tg] e X.env = pure none := by rfl)
    (h1 : (assignEach [tg] X.env).map (·.2) = [assign tg X.env] := by rfl) : PS X (.Assign [tg] e pos) (tOfS fr X.K (sAsg p f)) := (ps_asg he hg hs hw h1).weak fun D σ H => asg_weak
theorem set_weak {i : Nat} {D : Ends} {σ : L2.St} {H : Hp} (q : tOfS fr X.K (sSet i f) D σ H) : tAsg (tOf X.K f) (gName i) D σ H := by
  obtain ⟨as, O, B, G, ρ, S, o, R, hf, k⟩ := q
  unfold sSet at hf
  obtain ⟨⟨d1, S1⟩, h1, hf⟩ := Option.bind_eq_some_iff.mp hf
  cases hf
  exact ⟨as, _, ρ, S, d1, S1, R.e, h1, fun v H1 s1 c1 r1 => k _ _ ((R.step s1 c1).set i r1)⟩
theorem setO_weak {i : Nat} {D : Ends} {σ : L2.St} {H : Hp} (q : tOfS fr X.K (sSetO i f) D σ H) : tAsg (tOfF X.K f) (gName i) D σ H := by
  obtain ⟨as, O, B, G, ρ, S, o, R, hf, k⟩ := q
  unfold sSetO at hf
  obtain ⟨⟨d1, S1⟩, h1, hf⟩ := Option.bind_eq_some_iff.mp hf
  split at hf
  · rename_i hi
    cases hf
    exact ⟨as, _, ρ, S, d1, S1, R.e, h1, fun p H1 n s1 c1 r1 => k _ _ (R.setOwn i hi n s1 c1 r1)⟩
  · cases hf
section
variable {i : Nat} {x : Str} {pos' : Pos}
theorem ms_set (hN : X.N.Nodup) (hi : X.N[i]? = some x) (hx : Loc X.env.scope x) (he : PE X e (tOf X.K f)) (hs : swapsWith e (some (.Name x pos')) pos.line X.env = pure false := by rfl) (hf : X.fn x = true ∨ X.env.scope.names.lookup x = some .local := by first | exact .inl rfl | exact .inr rfl | assumption) :
    PS X (.Assign [.Name x pos'] e pos) (tOfS fr X.K (sSet i f)) := (ps_set hN hi hx he hs hf).weak fun D σ H => set_weak
theorem ms_setO (hN : X.N.Nodup) (hi : X.N[i]? = some x) (hx : Loc X.env.scope x) (he : PE X e (tOfF X.K f)) (hs : swapsWith e (some (.Name x pos')) pos.line X.env = pure false := by rfl) (hf : X.fn x = true ∨ X.env.scope.names.lookup x = some .local := by first | exact .inl rfl | exact .inr rfl | assumption) :
    PS X (.Assign [.Name x pos'] e pos) (tOfS fr X.K (sSetO i f)) := (ps_set hN hi hx he hs hf).weak fun D σ H => setO_weak
end
def sPar (i j : Nat) (fa fb : Ev) : Sv := fun ρ S => (fa ρ S).bind fun p => (fb ρ p.2).bind fun q => some (.nx ((ρ.set i (.val p.1)).set j (.val q.1)) q.2)
theorem ms_par {i j : Nat} {x y : Str} {px py pt : Pos} {kt k2 pt2} (hc : X.calm = true) (hN : X.N.Nodup) (hi : X.N[i]? = some x) (hj : X.N[j]? = some y) (hij : i ≠ j)
    (hx : X.env.scope.names.lookup x = some .local) (hy : X.env.scope.names.lookup y = some .local) (ha : PE X a (tOf X.K fa)) (hb : PE X b (tOf X.K fb))
    (hw : swappedStores [.Tuple [.Name x px, .Name y py] kt pt] (.Tuple [a, b] k2 pt2) X.env = pure (some [x, y]))
    (s1 : starEach [a, b] X.env = (false, eval a X.env) :: starEach [b] X.env := by rfl) (s2 : starEach [b] X.env = (false, eval b X.env) :: starEach [] X.env := by rfl)
    (hs : swapsWithSole [.Tuple [.Name x px, .Name y py] kt pt] (.Tuple [a, b] k2 pt2) pos.line X.env = pure false := by rfl) :
    PS X (.Assign [.Tuple [.Name x px, .Name y py] kt pt] (.Tuple [a, b] k2 pt2) pos) (tOfS fr X.K (sPar i j fa fb)) :=
  (ps_par hc hN hi hj hij hx hy (ma_cons ha (ma_cons hb ma_nil s2) s1) hw hs).weak fun D σ H q => by
    obtain ⟨as, O, B, G, ρ, S, o, R, hf, k⟩ := q
    unfold sPar at hf
    obtain ⟨⟨d1, S1⟩, h1, hf⟩ := Option.bind_eq_some_iff.mp hf
    obtain ⟨⟨d2, S2⟩, h2, hf⟩ := Option.bind_eq_some_iff.mp hf
    cases hf
    refine ⟨as, _, ρ, S, [d1, d2], S2, R.e, ?_, fun vs H1 s1 c1 r1 => ?_⟩
    · unfold aC
      rw [h1]
      show ((fb ρ S1).bind fun p => ((aN ρ p.2).bind fun q => some (p.1 :: q.1, q.2))).bind _ = _
      rw [h2]
      rfl
    · cases r1 with
      | cons r1 t1 =>
        cases t1 with
        | cons r2 t2 =>
          cases t2 with
          | nil =>
            refine ⟨_, _, rfl, ?_⟩
            have R1 := (R.step s1 c1).set i r1
            exact k _ _ (R1.set j (Rp.anti (oo_set (y := .val _) fun _ z => nomatch z) _ _ r2))
end
end DL
namespace DL
open PySem PySem.Spec PyProof.Rows L2
def Op (O : Addr → Prop) (H : Hp) : Addr → Prop := fun a => O a ∨ H a = none
def Walk (K : PySem.W.Frag) (as : List Addr) (O : Addr → Prop) (J : It) (H1 : Hp) (ds : List D) : Prop :=
  ∀ (i : Nat) (H2 : Hp), Kp O H1 H2 → (i = ds.length → J.stop i H2) ∧ ∀ d, ds[i]? = some d → J.go i H2 ∧ ∀ x H3, J.yld i H2 x H3 → Same H2 H3 ∧ Rp K as (Op O H1) H3 x d
def tOfI (K : PySem.W.Frag) (it : Ea) : TI := fun σ H R => ∃ as O ρ S ds S', RelE K as O σ H ρ S ∧ it ρ S = some (ds, S') ∧
  ∀ J H', Stp as H H' → Cells K as O H' S' → Walk K as O J H' ds → R J H'
theorem _root_.L2.PI.weak {X : Cx} {tg e : Expr} {t t' : TI} (h : PI X tg e t) (k : ∀ σ H R, t' σ H R → t σ H R) : PI X tg e t' := ⟨fun pins s σ H R I hw => h.run pins s σ H R I (k _ _ _ hw)⟩
section
variable {K : PySem.W.Frag} {as : List Addr} {O O' : Addr → Prop} {H H' H1 H2 : Hp} {S S' : List D}
mutual
theorem Rp.op' : ∀ (v : V) (d : D), Rp K as O H v d → Rp K as (Op O H) H v d
  | _, _, .non => .non
  | _, _, .bl b => .bl b
  | _, _, .int i => .int i
  | _, _, .str x => .str x
  | _, _, .obj h => .obj h
  | _, _, .tup h r => .tup h (RpL.op' _ _ r)
  | _, _, .lst n h r => .lst (fun o => by
      rcases o with o | o
      · exact n o
      · rw [o] at h; cases h) h (RpL.op' _ _ r)
  | _, _, .scr h => .scr (h.elim (fun ⟨n, h⟩ => .inl ⟨fun o => by
      rcases o with o | o
      · exact n o
      · rcases h with h | ⟨_, h⟩ <;> (rw [o] at h; cases h), h⟩) .inr)
theorem RpL.op' : ∀ (vs : List V) (ds : List D), RpL K as O H vs ds → RpL K as (Op O H) H vs ds
  | _, _, .nil => .nil
  | _, _, .cons r t => .cons (Rp.op' _ _ r) (RpL.op' _ _ t)
end
theorem Rp.op {v : V} {d : D} (r : Rp K as O H v d) : Rp K as (Op O H) H v d := Rp.op' v d r
theorem RpL.op {vs : List V} {ds : List D} (r : RpL K as O H vs ds) : RpL K as (Op O H) H vs ds := RpL.op' vs ds r
theorem RpL.get : ∀ {vs : List V} {ds : List D} {i : Nat} {d : D}, RpL K as O H vs ds → ds[i]? = some d → ∃ v, vs[i]? = some v ∧ Rp K as O H v d
  | _, _, 0, _, .cons r t, h => by cases h; exact ⟨_, rfl, r⟩
  | _, _, i + 1, _, .cons r t, h => RpL.get (i := i) t h
theorem RpL.getV : ∀ {vs : List V} {ds : List D} {i : Nat} {v : V}, RpL K as O H vs ds → vs[i]? = some v → ∃ d, ds[i]? = some d ∧ Rp K as O H v d
  | _, _, 0, _, .cons r t, h => by cases h; exact ⟨_, rfl, r⟩
  | _, _, i + 1, _, .cons r t, h => RpL.getV (i := i) t h
theorem op_nt (w : Wf as O H) : ∀ a, Op O H a → Nt (H a) := fun a o => o.elim (w.nt a) fun z => z ▸ nt_none
theorem op_kp (k : Kp O H H') : Kp (Op O H) H H' := fun a u n e => k a u (fun o => n (.inl o)) e
theorem RpL.later (w : Wf as O H) (k : Kp O H H') {vs : List V} {ds : List D} (r : RpL K as O H vs ds) : RpL K as (Op O H) H' vs ds := RpL.kp (op_nt w) (op_kp k) _ _ r.op
end
def forL (p : Pat) (fb : Sv) : List D → List Slot → List D → Option Out
  | [], ρ, S => some (.nx ρ S)
  | x :: xs, ρ, S => (binds p x).bind fun l => (fb (putD ρ l) S).bind fun o => match o with
    | .nx ρ' S' => forL p fb xs ρ' S'
    | .ct ρ' S' => forL p fb xs ρ' S'
    | .bk ρ' S' => some (.nx ρ' S')
    | .rt d S' => some (.rt d S')
def sFor (p : Pat) (it : Ea) (fb : Sv) : Sv := fun ρ S => (it ρ S).bind fun q => forL p fb q.1 ρ q.2
section
variable {X : Cx} {pos : Pos} {e a b c : Expr} {es : List Expr} {f fa fb : Ev} {fs : Ea} {fc fd : Et} {fr : Bool} {g1 g2 : Sv} {st : Stmt} {sts : List Stmt} {it : Ea} {p : Pat}
theorem Rel.rp_op {as : List Addr} {O B : Addr → Prop} {G : Addr → HO → Prop} {σ σ' : L2.St} {H1 H : Hp} {ρ ρ' : List Slot} {S : List D} {K : PySem.W.Frag}
    (R : Rel K as O B (fun a u => G a u ∨ (¬ OO O ρ σ a ∧ H1 a = some u)) σ' H ρ' S) : ∀ a, OO O ρ' σ' a → Op (OO O ρ σ) H1 a := fun a o => by
  rcases o with o | o
  · exact .inl (.inl o)
  · obtain ⟨_, ng, _⟩ := R.ow_own o
    by_cases h : OO O ρ σ a
    · exact .inl h
    · refine .inr ?_
      cases q : H1 a with
      | none => rfl
      | some u => exact absurd (.inr ⟨h, q⟩) (ng u)
theorem ms_for {tg iter : Expr} {body : List Stmt} (hp : PassesOwn (model X.prog X.w) X.A X.env X.xe) (hc : X.calm = true) (hi : PI X tg iter (tOfI X.K it)) (hg : PG X tg (gOf X.K p)) (hb : PSs X body (tOfS fr X.K g1))
    (hs : ∀ x, foldedSetIterable iter X.env x = pure x := by intro _; rfl) : PS X (.For tg iter body [] pos) (tOfS fr X.K (sFor p it g1)) := (ps_for hp hc hi hg hb hs).weak fun D σ0 H0 q => by
  obtain ⟨as, O, B, G, ρ0, S0, o, R0, hf, k⟩ := q
  unfold sFor at hf
  obtain ⟨⟨ds, S1⟩, h1, hf⟩ := Option.bind_eq_some_iff.mp hf
  refine ⟨as, _, ρ0, S0, ds, S1, R0.e, h1, fun J H1 s1 c1 wk => ?_⟩
  have R1 := (R0.step s1 c1)
  have w1 := R1.wf
  refine ⟨fun i m σ H => m = ds.length - i ∧ i ≤ ds.length ∧ ∃ ρ S, Rel X.K as O B (fun a u => G a u ∨ (¬ OO O ρ0 σ0 a ∧ H1 a = some u)) σ H ρ S ∧ forL p g1 (ds.drop i) ρ S = some o, ⟨ds.length, rfl, Nat.zero_le _, ρ0, S1, R1.guardNow, hf⟩, ?_⟩
  rintro i m σ H ⟨rfl, hi, ρ, S, R, hl⟩
  have kp : Kp (OO O ρ0 σ0) H1 H := fun a u n e => R.g a u (.inr ⟨n, e⟩)
  obtain ⟨wstop, wgo⟩ := wk i H kp
  by_cases hlt : i < ds.length
  · rw [List.drop_eq_getElem_cons hlt] at hl
    unfold forL at hl
    obtain ⟨l, hb, hl⟩ := Option.bind_eq_some_iff.mp hl
    obtain ⟨o1, hb2, hl⟩ := Option.bind_eq_some_iff.mp hl
    obtain ⟨go, yld⟩ := wgo ds[i] (List.getElem?_eq_getElem hlt)
    refine .inr ⟨go, fun σ' H' => ∃ ρ S, Rel X.K as O B (fun a u => G a u ∨ (¬ OO O ρ0 σ0 a ∧ H1 a = some u)) σ' H' ρ S ∧ forL p g1 (ds.drop (i + 1)) ρ S = some o, fun σ' H' ⟨ρ', S', R', h'⟩ => ⟨ds.length - (i + 1), by omega, rfl, hlt, ρ', S', R', h'⟩, fun x H3 y => ?_⟩
    obtain ⟨sm, rx⟩ := yld x H3 y
    have R3 := R.step (Same.stp sm) (R.cells.same R.wf sm)
    refine ⟨as, _, ds[i], l, rx, hb, fun vl rv => ?_⟩
    have R4 := R3.put (rv.anti R3.rp_op)
    refine ⟨as, O, B, _, putD ρ l, S, o1, R4, hb2, ?_⟩
    cases o1 with
    | nx ρ' S' => exact fun σ' H' R' => ⟨ρ', S', R', hl⟩
    | ct ρ' S' => exact fun σ' H' R' => ⟨ρ', S', R', hl⟩
    | bk ρ' S' =>
      cases hl
      exact fun σ' H' R' => k σ' H' (R'.guard fun a u g => .inl g)
    | rt d S' =>
      cases hl
      exact fun v H' g r => k v H' (fun a u z => g a u (.inl z)) r
  · have e : i = ds.length := by omega
    subst e
    rw [List.drop_length] at hl
    unfold forL at hl
    cases hl
    exact .inl ⟨wstop rfl, k σ H (R.guard fun a u g => .inl g)⟩
def whileN (c : Et) (fb : Sv) : Nat → List Slot → List D → Option Out
  | 0, _, _ => none
  | n + 1, ρ, S => (c ρ S).bind fun q => if q.1 = true then (fb ρ q.2).bind fun o => match o with
    | .nx ρ' S' => whileN c fb n ρ' S'
    | .ct ρ' S' => whileN c fb n ρ' S'
    | .bk ρ' S' => some (.nx ρ' S')
    | .rt d S' => some (.rt d S')
    else some (.nx ρ q.2)
def sWhile (nf : List Slot → Nat) (c : Et) (fb : Sv) : Sv := fun ρ S => whileN c fb (nf ρ) ρ S
theorem ms_while {nf : List Slot → Nat} {body : List Stmt} (hp : PassesOwn (model X.prog X.w) X.A X.env X.xe) (hc : PT X c (tOfT X.K fc)) (hb : PSs X body (tOfS fr X.K g1)) : PS X (.While c body [] pos) (tOfS fr X.K (sWhile nf fc g1)) := (ps_while hp hc hb).weak fun D σ0 H0 q => by
  obtain ⟨as, O, B, G, ρ0, S0, o, R0, hf, k⟩ := q
  unfold sWhile at hf
  generalize nf ρ0 = n at hf
  refine ⟨fun m σ H => ∃ ρ S, Rel X.K as O B G σ H ρ S ∧ whileN fc g1 m ρ S = some o, ⟨n, ρ0, S0, R0, hf⟩, ?_⟩
  rintro m σ H ⟨ρ, S, R, hw⟩
  cases m with
  | zero => unfold whileN at hw; cases hw
  | succ m =>
    unfold whileN at hw
    obtain ⟨⟨b1, S1⟩, h1, hw⟩ := Option.bind_eq_some_iff.mp hw
    refine ⟨as, _, ρ, S, b1, S1, R.e, h1, fun H1 s1 c1 => ?_⟩
    have R1 := R.step s1 c1
    cases b1 with
    | true =>
      obtain ⟨o1, h2, hw⟩ := Option.bind_eq_some_iff.mp hw
      refine ⟨fun σ' H' => ∃ ρ S, Rel X.K as O B G σ' H' ρ S ∧ whileN fc g1 m ρ S = some o, fun σ' H' ⟨ρ', S', R', h'⟩ => ⟨m, Nat.lt_succ_self m, ρ', S', R', h'⟩, ?_⟩
      refine ⟨as, O, B, G, ρ, S1, o1, R1, h2, ?_⟩
      cases o1 with
      | nx ρ' S' => exact fun σ' H' R' => ⟨ρ', S', R', hw⟩
      | ct ρ' S' => exact fun σ' H' R' => ⟨ρ', S', R', hw⟩
      | bk ρ' S' => cases hw; exact k
      | rt d S' => cases hw; exact k
    | false =>
      cases hw
      exact k σ H1 R1
def wipeD (ρ : List Slot) : List Nat → List Slot
  | [] => ρ
  | v :: vs => (wipeD ρ vs).set v .non
def compL (p : Pat) (c : Et) (f : Ev) (ρ : List Slot) : List D → List D → Option (List D × List D)
  | [], S => some ([], S)
  | x :: xs, S => (binds p x).bind fun l => (c (putD ρ l) S).bind fun q => if q.1 = true then (f (putD ρ l) q.2).bind fun r => (compL p c f ρ xs r.2).bind fun t => some (r.1 :: t.1, t.2)
    else compL p c f ρ xs q.2
def eComp (p : Pat) (it : Ea) (c : Et) (f : Ev) (vs : List Nat) : Ev := fun ρ S => (it ρ S).bind fun q => if q.1.length ≤ 16777216 then (compL p c f (wipeD ρ vs) q.1 q.2).bind fun t => some (.lst t.1, t.2) else none
def cYes : Et := fun _ S => some (true, S)
mutual
def Pat.ixs : Pat → List Nat
  | .nm i => [i]
  | .tup ps => Pat.ixsL ps
def Pat.ixsL : List Pat → List Nat
  | [] => []
  | p :: ps => Pat.ixs p ++ Pat.ixsL ps
end
mutual
theorem binds_ix : ∀ (p : Pat) (d : D) (l : List (Nat × D)), binds p d = some l → l.map (·.1) = p.ixs
  | .nm i, d, l, h => by unfold binds at h; cases h; rfl
  | .tup ps, .tup ds, l, h => by
    unfold binds at h
    unfold Pat.ixs
    exact bindsL_ix ps ds l h
  | .tup ps, .non, l, h => by unfold binds at h; cases h
  | .tup ps, .bl _, l, h => by unfold binds at h; cases h
  | .tup ps, .int _, l, h => by unfold binds at h; cases h
  | .tup ps, .str _, l, h => by unfold binds at h; cases h
  | .tup ps, .obj _, l, h => by unfold binds at h; cases h
  | .tup ps, .lst _, l, h => by unfold binds at h; cases h
  | .tup ps, .dct _, l, h => by unfold binds at h; cases h
  | .tup ps, .scr _, l, h => by unfold binds at h; cases h
theorem bindsL_ix : ∀ (ps : List Pat) (ds : List D) (l : List (Nat × D)), bindsL ps ds = some l → l.map (·.1) = Pat.ixsL ps
  | [], [], l, h => by unfold bindsL at h; cases h; rfl
  | [], _ :: _, l, h => by unfold bindsL at h; cases h
  | _ :: _, [], l, h => by unfold bindsL at h; cases h
  | p :: ps, d :: ds, l, h => by
    unfold bindsL at h
    obtain ⟨a1, h1, h⟩ := Option.bind_eq_some_iff.mp h
    obtain ⟨a2, h2, h⟩ := Option.bind_eq_some_iff.mp h
    cases h
    unfold Pat.ixsL
    rw [List.map_append, binds_ix p d a1 h1, bindsL_ix ps ds a2 h2]
end
theorem RpP.ix {K : PySem.W.Frag} {as : List Addr} {O : Addr → Prop} {H : Hp} : ∀ {vl : List (Nat × V)} {l : List (Nat × D)}, RpP K as O H vl l → vl.map (·.1) = l.map (·.1)
  | _, _, .nil => rfl
  | _, _, .cons r t => by rw [List.map_cons, List.map_cons, RpP.ix t]
theorem wipe_set {σ : L2.St} {i : Nat} {x : Option V} : ∀ {vs : List Nat}, i ∈ vs → wipe (σ.set i x) vs = wipe σ vs
  | v :: vs, h => by
    unfold wipe
    by_cases m : i ∈ vs
    · rw [wipe_set m]
    · rcases List.mem_cons.mp h with rfl | z
      · have go : ∀ (vs : List Nat), i ∉ vs → wipe (σ.set i x) vs = (wipe σ vs).set i x := by
          intro vs
          induction vs with
          | nil => exact fun _ => rfl
          | cons w ws ih =>
            intro hn
            unfold wipe
            rw [ih (fun z => hn (List.mem_cons_of_mem _ z)), List.set_comm]
            exact fun z => hn (by rw [z]; exact List.mem_cons_self)
        rw [go vs m, List.set_set]
      · exact absurd z m
theorem wipe_idem {σ : L2.St} : ∀ {vs : List Nat}, wipe (wipe σ vs) vs = wipe σ vs := fun {vs} => by
  apply List.ext_getElem?
  intro i
  have ln : (wipe (wipe σ vs) vs).length = (wipe σ vs).length := by rw [wipe_length]
  by_cases m : i ∈ vs
  · have z : ∀ (τ : L2.St), (wipe τ vs)[i]? = none ∨ (wipe τ vs)[i]? = some none := fun τ => by
      cases e : (wipe τ vs)[i]? with
      | none => exact .inl rfl
      | some x =>
        cases x with
        | none => exact .inr rfl
        | some v => exact absurd m (wipe_some e).2
    by_cases hl : i < σ.length
    · rcases z (wipe σ vs) with a | a
      · rw [List.getElem?_eq_none_iff, wipe_length, wipe_length] at a; omega
      · rcases z σ with b | b
        · rw [List.getElem?_eq_none_iff, wipe_length] at b; omega
        · rw [a, b]
    · rw [List.getElem?_eq_none_iff.mpr (by rw [wipe_length, wipe_length]; omega), List.getElem?_eq_none_iff.mpr (by rw [wipe_length]; omega)]
  · rw [wipe_out m]
theorem wipe_put {vs : List Nat} : ∀ {vl : List (Nat × V)} {σ : L2.St}, (∀ i ∈ vl.map (·.1), i ∈ vs) → wipe (putV σ vl) vs = wipe σ vs
  | [], _, _ => rfl
  | (i, v) :: r, σ, h => by
    unfold putV
    rw [wipe_put (σ := σ.set i (some v)) (fun j hj => h j (List.mem_cons_of_mem _ hj)), wipe_set (h i List.mem_cons_self)]
theorem wipeD_len (ρ : List Slot) : ∀ vs : List Nat, (wipeD ρ vs).length = ρ.length
  | [] => rfl
  | v :: vs => by unfold wipeD; rw [List.length_set, wipeD_len ρ vs]
theorem wipeD_some {ρ : List Slot} {i : Nat} {x : Slot} (hx : x ≠ .non) : ∀ {vs : List Nat}, (wipeD ρ vs)[i]? = some x → ρ[i]? = some x ∧ i ∉ vs
  | [], h => ⟨h, by simp⟩
  | v :: vs, h => by
    unfold wipeD at h
    rcases get_set h with ⟨rfl, q⟩ | ⟨ne, q⟩
    · exact absurd q.symm hx
    · obtain ⟨h1, h2⟩ := wipeD_some hx q
      exact ⟨h1, by simp only [List.mem_cons, not_or]; exact ⟨ne, h2⟩⟩
theorem RelE.wipe {K : PySem.W.Frag} {as : List Addr} {O : Addr → Prop} {σ : L2.St} {H : Hp} {ρ : List Slot} {S : List D} (R : RelE K as O σ H ρ S) (vs : List Nat) : RelE K as O (wipe σ vs) H (wipeD ρ vs) S := by
  refine ⟨R.wf, R.cells, by rw [wipe_length, wipeD_len, R.len], fun i d h => ?_, fun i d h => ?_⟩
  · obtain ⟨h1, h2⟩ := wipeD_some (x := .val d) (fun z => nomatch z) h
    obtain ⟨v, h3, r⟩ := R.val i d h1
    exact ⟨v, (wipe_out h2).trans h3, r⟩
  · obtain ⟨h1, h2⟩ := wipeD_some (x := .own d) (fun z => nomatch z) h
    obtain ⟨v, h3, n, r⟩ := R.own i d h1
    exact ⟨v, (wipe_out h2).trans h3, n, r⟩
theorem RelE.newL {K : PySem.W.Frag} {as : List Addr} {O : Addr → Prop} {σ : L2.St} {H : Hp} {ρ : List Slot} {S : List D} {p : Addr} (R : RelE K as O σ H ρ S) (hp : H p = none) : RelE K as (ad O p) σ (upd H p (.lst [])) ρ S := by
  have sm := same_new (o := .lst []) hp
  have kk : Kp (ad O p) H (upd H p (.lst [])) := fun a u _ e => sm a u e
  have m1 : ∀ a, ad O p a → Nt (H a) := fun a o => by
    rcases o with o | o
    · exact R.wf.nt a o
    · rw [o, hp]; exact nt_none
  have rp : ∀ {v : V} {d : D}, Rp K as O H v d → Rp K as (ad O p) (upd H p (.lst [])) v d := fun r => Rp.kp m1 kk _ _ (Rp.ad hp _ _ r)
  have cr : ∀ {a : Addr} {d : D}, CellR K as O H a d → CellR K as (ad O p) (upd H p (.lst [])) a d := fun q => by
    cases q with
    | lst h r => exact .lst (sm _ _ h) (RpL.kp m1 kk _ _ (RpL.ad hp _ _ r))
  refine ⟨⟨fun a m => .inl (R.wf.sub a m), fun a o => ?_, R.wf.nd⟩, ⟨R.cells.len, fun i a d e1 e2 => cr (R.cells.ix i a d e1 e2)⟩, R.len, fun i d h => ?_, fun i d h => ?_⟩
  · rcases o with o | o
    · rw [Same.eq sm (R.wf.trk o)]; exact R.wf.mt a o
    · rw [o, upd_same]; trivial
  · obtain ⟨v, h2, r⟩ := R.val i d h
    exact ⟨v, h2, rp r⟩
  · obtain ⟨a, h2, n, c⟩ := R.own i d h
    exact ⟨a, h2, n, cr c⟩
theorem RelE.growL {K : PySem.W.Frag} {as : List Addr} {O : Addr → Prop} {σ : L2.St} {H : Hp} {ρ : List Slot} {S : List D} {p : Addr} {o : HO} (R : RelE K as O σ H ρ S) (hp : O p) (na : p ∉ as) (no : ∀ (i : Nat) (d : D), ρ[i]? = some (.own d) → σ[i]? ≠ some (some (.ref p))) (mo : Mut (some o)) : RelE K as O σ (upd H p o) ρ S := by
  have kk : Kp O H (upd H p o) := fun a u n e => by
    rw [upd_ne (fun z => n (by rw [z]; exact hp))]
    exact e
  have rp : ∀ {v : V} {d : D}, Rp K as O H v d → Rp K as O (upd H p o) v d := fun r => Rp.kp R.wf.nt kk _ _ r
  have cr : ∀ {a : Addr} {d : D}, a ≠ p → CellR K as O H a d → CellR K as O (upd H p o) a d := fun n q => by
    cases q with
    | lst h r => exact .lst ((upd_ne n).trans h) (RpL.kp R.wf.nt kk _ _ r)
  refine ⟨⟨R.wf.sub, fun a z => ?_, R.wf.nd⟩, ⟨R.cells.len, fun i a d e1 e2 => cr (fun z => na (by rw [← z]; exact List.mem_of_getElem? e1)) (R.cells.ix i a d e1 e2)⟩, R.len, fun i d h => ?_, fun i d h => ?_⟩
  · by_cases e : a = p
    · rw [e, upd_same]; exact mo
    · rw [upd_ne e]; exact R.wf.mt a z
  · obtain ⟨v, h2, r⟩ := R.val i d h
    exact ⟨v, h2, rp r⟩
  · obtain ⟨a, h2, n, c⟩ := R.own i d h
    exact ⟨a, h2, n, cr (fun z => no i d h (by rw [h2, z])) c⟩
theorem RpL.append {K : PySem.W.Frag} {as : List Addr} {O : Addr → Prop} {H : Hp} : ∀ {a b : List V} {c d : List D}, RpL K as O H a c → RpL K as O H b d → RpL K as O H (a ++ b) (c ++ d)
  | _, _, _, _, .nil, h => h
  | _, _, _, _, .cons r t, h => .cons r (RpL.append t h)
end
end DL
namespace DL
open PySem PySem.Spec PyProof.Rows L2
section
variable {X : Cx} {pos : Pos} {e a b c : Expr} {es : List Expr} {f fa fb : Ev} {fs : Ea} {fc fd : Et} {fr : Bool} {g1 g2 : Sv} {st : Stmt} {sts : List Stmt} {it : Ea} {p : Pat}
structure CompS (K : PySem.W.Frag) (as : List Addr) (O : Addr → Prop) (σ : L2.St) (H1 : Hp) (p : Addr) (vs : List Nat) (ρ : List Slot) (H : Hp) (acc : List D) (S : List D) : Prop where
  rel : RelE K as (ad O p) (wipe σ vs) H (wipeD ρ vs) S
  lst : ∃ xs, H p = some (.lst xs) ∧ RpL K as (ad O p) H xs acc
  kept : ∀ a u, a ∉ as → a ≠ p → H1 a = some u → H a = some u
section
variable {K : PySem.W.Frag} {as : List Addr} {O : Addr → Prop} {σ : L2.St} {H0 H1 H H' : Hp} {q : Addr} {vs : List Nat} {ρ : List Slot} {acc S S' : List D}
theorem CompS.start (R : RelE K as O σ H1 ρ S) (hp : H1 q = none) : CompS K as O σ H1 q vs ρ (upd H1 q (.lst [])) [] S :=
  ⟨(R.newL hp).wipe vs, ⟨[], upd_same, .nil⟩, fun a u _ n h => (upd_ne n).trans h⟩
theorem CompS.step (C : CompS K as O σ H1 q vs ρ H acc S) (hq : q ∉ as) (s : Stp as H H') (c : Cells K as (ad O q) H' S') : CompS K as O σ H1 q vs ρ H' acc S' := by
  obtain ⟨xs, h, r⟩ := C.lst
  exact ⟨C.rel.step s c, ⟨xs, s q _ hq h, r.stp C.rel.wf s⟩, fun a u n m e => s a u n (C.kept a u n m e)⟩
theorem own_ne (R : RelE K as O σ H1 ρ S) (hp : H1 q = none) : ∀ (i : Nat) (d : D), ρ[i]? = some (.own d) → σ[i]? ≠ some (some (.ref q)) := fun i d h e => by
  obtain ⟨a, h2, _, c⟩ := R.own i d h
  rw [e] at h2
  cases h2
  have := c.mt
  rw [hp] at this
  exact this
theorem CompS.push (C : CompS K as O σ H1 q vs ρ H acc S) (R : RelE K as O σ H1 ρ S') (hp : H1 q = none) {xs : List V} {y : V} {d : D} (h : H q = some (.lst xs)) (r : RpL K as (ad O q) H xs acc) (ry : Rp K as (ad O q) H y d) :
    CompS K as O σ H1 q vs ρ (upd H q (.lst (xs ++ [y]))) (acc ++ [d]) S := by
  have hq : q ∉ as := fun m => R.wf.trk (R.wf.sub q m) hp
  have kk : Kp (ad O q) H (upd H q (.lst (xs ++ [y]))) := fun a u n e => by
    rw [upd_ne (fun z => n (by rw [z]; exact .inr rfl))]
    exact e
  refine ⟨C.rel.growL (.inr rfl) hq (fun i d h e => ?_) trivial, ⟨_, upd_same, RpL.kp C.rel.wf.nt kk _ _ (r.append (.cons ry .nil))⟩, fun a u n m e => (upd_ne m).trans (C.kept a u n m e)⟩
  obtain ⟨h1, h2⟩ := wipeD_some (x := .own d) (fun z => nomatch z) h
  rw [wipe_out h2] at e
  exact own_ne R hp i d h1 e
end
theorem mts_nil : PTs X [] (tOfT X.K cYes) := ⟨fun pins s σ H Q I h => pts_nil.run pins s σ H Q I (by
  obtain ⟨as, O, ρ, S, d, S', R, hf, k⟩ := h
  cases hf
  exact k H Stp.refl R.cells)⟩
theorem mts_one (h : PT X c (tOfT X.K fc)) : PTs X [c] (tOfT X.K fc) := pts_one h
theorem comp_weak {σ : L2.St} {H0 : Hp} {Q : VK} {vs : List Nat} (hv : p.ixs.all (fun i => decide (i ∈ vs)) = true) (h : tOfF X.K (eComp p it fc f vs) σ H0 Q) : tLc (tOfI X.K it) (gOf X.K p) (tOfT X.K fc) (tOf X.K f) vs σ H0 Q := by
  obtain ⟨as, O, ρ, S, d, S', R, hf, k⟩ := h
  unfold eComp at hf
  obtain ⟨⟨ds, S1⟩, h1, hf⟩ := Option.bind_eq_some_iff.mp hf
  split at hf
  case isFalse => cases hf
  case isTrue hl =>
  obtain ⟨⟨ys, S2⟩, h2, hf⟩ := Option.bind_eq_some_iff.mp hf
  cases hf
  refine ⟨as, O, ρ, S, ds, S1, R, h1, fun J H1 s1 c1 wk D hD => ?_⟩
  have R1 := R.step s1 c1
  have hDas : D ∉ as := fun m => R1.wf.trk (R1.wf.sub D m) hD
  have hD0 : H0 D = none := by
    cases z : H0 D with
    | none => rfl
    | some u => rw [s1 D u hDas z] at hD; cases hD
  refine ⟨fun i m H => m = ds.length - i ∧ i ≤ ds.length ∧ ∃ acc S rest, acc.length ≤ i ∧ CompS X.K as O σ H1 D vs ρ H acc S ∧ compL p fc f (wipeD ρ vs) (ds.drop i) S = some (rest, S2) ∧ acc ++ rest = ys, ⟨ds.length, rfl, Nat.zero_le _, [], S1, ys, Nat.zero_le _, CompS.start R1 hD, h2, rfl⟩, ?_⟩
  rintro i m H ⟨rfl, hi, acc, Sx, rest, ha, C, hc, hr⟩
  have kp : Kp O H1 H := fun a u n e => C.kept a u (fun m => n (R1.wf.sub a m)) (fun z => by rw [z, hD] at e; cases e) e
  obtain ⟨wstop, wgo⟩ := wk i H kp
  by_cases hlt : i < ds.length
  · rw [List.drop_eq_getElem_cons hlt] at hc
    unfold compL at hc
    obtain ⟨l, hb, hc⟩ := Option.bind_eq_some_iff.mp hc
    obtain ⟨⟨b, S3⟩, hb2, hc⟩ := Option.bind_eq_some_iff.mp hc
    obtain ⟨go, yld⟩ := wgo ds[i] (List.getElem?_eq_getElem hlt)
    refine .inr ⟨go, fun H' => ∃ acc S rest, acc.length ≤ i + 1 ∧ CompS X.K as O σ H1 D vs ρ H' acc S ∧ compL p fc f (wipeD ρ vs) (ds.drop (i + 1)) S = some (rest, S2) ∧ acc ++ rest = ys, fun H' h' => ⟨ds.length - (i + 1), by omega, rfl, hlt, h'⟩, fun x H2 y => ?_⟩
    obtain ⟨sm, rx⟩ := yld x H2 y
    have C2 := C.step hDas (Same.stp sm) (C.rel.cells.same C.rel.wf sm)
    have rx2 : Rp X.K as (ad O D) H2 x ds[i] := Rp.anti (fun a o => o.elim .inl fun z => .inr (z ▸ hD)) _ _ rx
    refine ⟨as, _, ds[i], l, rx2, hb, fun vl rv => ⟨?_, ?_⟩⟩
    · rw [wipe_put, wipe_idem]
      rw [rv.ix, binds_ix _ _ _ hb]
      intro j hj
      exact of_decide_eq_true (List.all_eq_true.mp hv j hj)
    · have R2 := C2.rel.put rv
      refine ⟨as, _, putD (wipeD ρ vs) l, Sx, b, S3, R2, hb2, fun H3 s3 c3 => ?_⟩
      have C3 := C2.step hDas s3 c3
      cases b with
      | false => exact ⟨acc, S3, rest, Nat.le_succ_of_le ha, C3, hc, hr⟩
      | true =>
        obtain ⟨⟨d, S4⟩, h4, hc⟩ := Option.bind_eq_some_iff.mp hc
        obtain ⟨⟨t, S5⟩, h5, hc⟩ := Option.bind_eq_some_iff.mp hc
        cases hc
        refine ⟨as, _, putD (wipeD ρ vs) l, S3, d, S4, R2.step s3 c3, h4, fun y H4 s4 c4 ry => ?_⟩
        have C4 := C3.step hDas s4 c4
        obtain ⟨xs, hx, rx⟩ := C4.lst
        have hlen : xs.length = acc.length := Rp.length rx
        refine ⟨xs, hx, ?_, acc ++ [d], S4, t, ?_, C4.push R1 hD hx rx ry, h5, ?_⟩
        · have q : ds.length ≤ 16777216 := hl
          rw [hlen, sizeLine_16]
          omega
        · rw [List.length_append]
          show acc.length + 1 ≤ i + 1
          omega
        · rw [← hr, List.append_assoc]
          rfl
  · have e : i = ds.length := by omega
    subst e
    rw [List.drop_length] at hc
    unfold compL at hc
    cases hc
    obtain ⟨xs, hx, rx⟩ := C.lst
    refine .inl ⟨wstop rfl, k D H hD0 (s1.trans fun a u n e => ?_) C.rel.cells (.lst hx (by rw [← hr, List.append_nil]; exact rx))⟩
    exact C.kept a u n (fun z => by rw [z, hD] at e; cases e) e
section
variable {tg iter elt : Expr} {ifs : List Expr} {scope : Scope} {own : List (Str × Nat)} {vs : List Nat}
theorem mf_comp (hc : X.calm = true) (hN : X.N.Nodup) (hi : PI X tg iter (tOfI X.K it)) (ok : BlkOk X.N X.env.scope scope own)
    (hg : ∀ (s : Shared) (H : Hp) (C : Addr) (cl : List (Str × Addr)) (fp : List Addr), PG (X.blk s H scope (compEnvC scope cl C X.env) fp) tg (gOf X.K p))
    (ht : ∀ (s : Shared) (H : Hp) (C : Addr) (cl : List (Str × Addr)) (fp : List Addr), PTs (X.blk s H scope (compEnvC scope cl C X.env) fp) ifs (tOfT X.K fc))
    (he : ∀ (s : Shared) (H : Hp) (C : Addr) (cl : List (Str × Addr)) (fp : List Addr), PE (X.blk s H scope (compEnvC scope cl C X.env) fp) elt (tOf X.K f))
    (ev : own.map (·.2) = vs := by rfl) (hv : p.ixs.all (fun i => decide (i ∈ vs)) = true := by rfl) (hs : ∀ x, foldedSetIterable iter X.env x = pure x := by intro _; rfl) :
    PE X (.ListComp elt [⟨tg, iter, ifs, 0⟩] scope pos) (tOfF X.K (eComp p it fc f vs)) :=
  (pe_lc hc hN hi ok hg ht he hs).weak fun σ H Q h => by
    rw [ev]
    exact comp_weak hv h
theorem ms_setC {i : Nat} {y : Str} {py spos : Pos} (hc : X.calm = true) (hN : X.N.Nodup) (hy : X.N[i]? = some y) (hyl : X.env.scope.names.lookup y = some .local)
    (hsw : swapsWith (.ListComp elt [⟨tg, iter, ifs, 0⟩] scope pos) (some (.Name y py)) spos.line X.env = pure true) (hi : PI X tg iter (tOfI X.K it)) (ok : BlkOk X.N X.env.scope scope own)
    (hg : ∀ (s : Shared) (H : Hp) (C : Addr) (cl : List (Str × Addr)) (fp : List Addr), PG (X.blk s H scope (compEnvC scope cl C X.env) fp) tg (gOf X.K p))
    (ht : ∀ (s : Shared) (H : Hp) (C : Addr) (cl : List (Str × Addr)) (fp : List Addr), PTs (X.blk s H scope (compEnvC scope cl C X.env) fp) ifs (tOfT X.K fc))
    (he : ∀ (s : Shared) (H : Hp) (C : Addr) (cl : List (Str × Addr)) (fp : List Addr), PE (X.blk s H scope (compEnvC scope cl C X.env) fp) elt (tOf X.K f))
    (ev : own.map (·.2) = vs := by rfl) (hv : p.ixs.all (fun i => decide (i ∈ vs)) = true := by rfl) (hs : ∀ x, foldedSetIterable iter X.env x = pure x := by intro _; rfl) :
    PS X (.Assign [.Name y py] (.ListComp elt [⟨tg, iter, ifs, 0⟩] scope pos) spos) (tOfS fr X.K (sSet i (eComp p it fc f vs))) :=
  (ps_setLc hc hN hy hyl hsw hi ok hg ht he hs).weak fun D σ H h => by
    rw [ev]
    obtain ⟨as, O, B, G, ρ, S, o, R, hf, k⟩ := h
    unfold sSet at hf
    obtain ⟨⟨d1, S1⟩, h1, hf⟩ := Option.bind_eq_some_iff.mp hf
    cases hf
    refine comp_weak hv ⟨as, _, ρ, S, d1, S1, R.e, h1, fun q H1 n s1 c1 r1 => ?_⟩
    exact k _ _ ((R.step s1 (c1.anti ad_sub)).set i (r1.val (R.wf.nel n) ad_sub))
theorem ms_setCO {i : Nat} {y : Str} {py spos : Pos} (hc : X.calm = true) (hN : X.N.Nodup) (hy : X.N[i]? = some y) (hyl : X.env.scope.names.lookup y = some .local)
    (hsw : swapsWith (.ListComp elt [⟨tg, iter, ifs, 0⟩] scope pos) (some (.Name y py)) spos.line X.env = pure true) (hi : PI X tg iter (tOfI X.K it)) (ok : BlkOk X.N X.env.scope scope own)
    (hg : ∀ (s : Shared) (H : Hp) (C : Addr) (cl : List (Str × Addr)) (fp : List Addr), PG (X.blk s H scope (compEnvC scope cl C X.env) fp) tg (gOf X.K p))
    (ht : ∀ (s : Shared) (H : Hp) (C : Addr) (cl : List (Str × Addr)) (fp : List Addr), PTs (X.blk s H scope (compEnvC scope cl C X.env) fp) ifs (tOfT X.K fc))
    (he : ∀ (s : Shared) (H : Hp) (C : Addr) (cl : List (Str × Addr)) (fp : List Addr), PE (X.blk s H scope (compEnvC scope cl C X.env) fp) elt (tOf X.K f))
    (ev : own.map (·.2) = vs := by rfl) (hv : p.ixs.all (fun i => decide (i ∈ vs)) = true := by rfl) (hs : ∀ x, foldedSetIterable iter X.env x = pure x := by intro _; rfl) :
    PS X (.Assign [.Name y py] (.ListComp elt [⟨tg, iter, ifs, 0⟩] scope pos) spos) (tOfS fr X.K (sSetO i (eComp p it fc f vs))) :=
  (ps_setLc hc hN hy hyl hsw hi ok hg ht he hs).weak fun D σ H h => by
    rw [ev]
    obtain ⟨as, O, B, G, ρ, S, o, R, hf, k⟩ := h
    unfold sSetO at hf
    obtain ⟨⟨d1, S1⟩, h1, hf⟩ := Option.bind_eq_some_iff.mp hf
    split at hf
    · rename_i hi
      cases hf
      refine comp_weak hv ⟨as, _, ρ, S, d1, S1, R.e, h1, fun q H1 n s1 c1 r1 => ?_⟩
      exact k _ _ (R.setOwn i hi n s1 c1 r1)
    · cases hf
end
def spM (fr : Bool) (K : PySem.W.Frag) (n : Nat) (m : List D → List D → Option (D × List D)) : Sp := fun vs H Q _ => vs.length = n ∧ ∃ as O ds S r S', Wf as O H ∧ Cells K as O H S ∧ RpL K as O H vs ds ∧ m ds S = some (r, S') ∧
  ∀ v H', Stp as H H' → Cells K as O H' S' → Rp K as O H' v r → (fr = true → ∃ a, v = .ref a ∧ H a = none ∧ CellR K as (ad O a) H' a r ∧ Cells K as (ad O a) H' S') → Q v H'
structure FnM (P : Program) (w : World) (K : PySem.W.Frag) (mg : Str → Option Value) (base : Heap) (k : Nat) (x : Str) (f : Addr) (fd : FuncData) (ps : List Str) (fr : Bool) (m : List D → List D → Option (D × List D)) : Prop where
  ok : FnOk P w K mg base CX0 k f fd ps (spM fr K ps.length m)
  mg : mg x = some (.ref f)
  kp : PySem.W.keepIn K (.ref f) = true
  bd : Binds K fd ps []
def eCall (n : Nat) (m : List D → List D → Option (D × List D)) (fs : Ea) : Ev := fun ρ S => (fs ρ S).bind fun q => if q.1.length = n then m q.1 q.2 else none
section
variable {k : Nat} {x : Str} {fa : Addr} {fd : FuncData} {ps : List Str} {m : List D → List D → Option (D × List D)} {pp : Pos}
theorem me_call (F : FnM X.prog X.w X.K X.mg X.base k x fa fd ps fr m) (hr : Room k X.A) (hg : Gl X x) (ha : PA X (e :: es) (tOfA X.K fs))
    (hdb : (x == ("__debug__" : Str)) = false := by decide) (he : starEach (e :: es) X.env = (false, eval e X.env) :: starEach es X.env := by rfl) (hpl : (backTo pos (starEach es X.env)).any (·.1) = false := by rfl) {n : Nat} (hn : ps.length = n := by rfl) :
    PE X (.Call (.Name x pp) (e :: es) [] pos) (tOf X.K (eCall n m fs)) :=
  (pe_call F.ok hr hg F.mg F.kp F.bd .nil pass0 ha hdb he hpl).weak fun σ H Q q => by
    subst hn
    obtain ⟨as, O, ρ, S, d, S', R, hf, kk⟩ := q
    unfold eCall at hf
    obtain ⟨⟨ds, S1⟩, h1, hf⟩ := Option.bind_eq_some_iff.mp hf
    split at hf
    · rename_i hl
      refine ⟨as, O, ρ, S, ds, S1, R, h1, fun vs H1 s1 c1 r1 => ?_⟩
      have R1 := R.step s1 c1
      show spM _ X.K ps.length m (vs ++ []) H1 Q E0
      rw [List.append_nil]
      exact ⟨(Rp.length r1).trans hl, as, O, ds, S1, d, S', R1.wf, c1, r1, hf, fun v H' s c r _ => kk v H' (s1.trans s) c r⟩
    · cases hf
theorem mf_call (F : FnM X.prog X.w X.K X.mg X.base k x fa fd ps true m) (hr : Room k X.A) (hg : Gl X x) (ha : PA X (e :: es) (tOfA X.K fs))
    (hdb : (x == ("__debug__" : Str)) = false := by decide) (he : starEach (e :: es) X.env = (false, eval e X.env) :: starEach es X.env := by rfl) (hpl : (backTo pos (starEach es X.env)).any (·.1) = false := by rfl) {n : Nat} (hn : ps.length = n := by rfl) :
    PE X (.Call (.Name x pp) (e :: es) [] pos) (tOfF X.K (eCall n m fs)) :=
  (pe_call F.ok hr hg F.mg F.kp F.bd .nil pass0 ha hdb he hpl).weak fun σ H Q q => by
    subst hn
    obtain ⟨as, O, ρ, S, d, S', R, hf, kk⟩ := q
    unfold eCall at hf
    obtain ⟨⟨ds, S1⟩, h1, hf⟩ := Option.bind_eq_some_iff.mp hf
    split at hf
    · rename_i hl
      refine ⟨as, O, ρ, S, ds, S1, R, h1, fun vs H1 s1 c1 r1 => ?_⟩
      have R1 := R.step s1 c1
      show spM _ X.K ps.length m (vs ++ []) H1 Q E0
      rw [List.append_nil]
      refine ⟨(Rp.length r1).trans hl, as, O, ds, S1, d, S', R1.wf, c1, r1, hf, fun v H' s c r g => ?_⟩
      obtain ⟨a, rfl, n, cr, cc⟩ := g rfl
      have n0 : H a = none := by
        cases z : H a with
        | none => rfl
        | some u =>
          by_cases ma : a ∈ as
          · exact absurd n (R1.wf.trk (R1.wf.sub a ma))
          · rw [s1 a u ma z] at n; cases n
      exact kk a H' n0 (s1.trans s) cc cr
    · cases hf
end
def runB (fr : Bool) (N : Nat) (f : Sv) : List D → List D → Option (D × List D) := fun ds S => (f (ds.map .val ++ List.replicate (N - ds.length) .non) S).bind fun o => match o with
  | .rt d S' => some (d, S')
  | .nx _ S' => if fr = true then none else some (.non, S')
  | _ => none
end
section
variable {P : Program} {w : World} {K : PySem.W.Frag} {mg : Str → Option Value} {base : Heap}
theorem rel_start {as : List Addr} {O : Addr → Prop} {H : Hp} {S ds : List D} {vs : List V} {N : List Str} (wf : Wf as O H) (c : Cells K as O H S) (r : RpL K as O H vs ds) :
    Rel K as O (fun a => H a ≠ none) (fun a u => a ∉ as ∧ H a = some u) (start N vs) H (ds.map .val ++ List.replicate (N.length - ds.length) .non) S := by
  have len : vs.length = ds.length := Rp.length r
  have get : ∀ (i : Nat) (x : Slot), x ≠ .non → (ds.map Slot.val ++ List.replicate (N.length - ds.length) .non)[i]? = some x → ∃ d, x = .val d ∧ ds[i]? = some d := fun i x nx h => by
    by_cases hi : i < ds.length
    · rw [List.getElem?_append_left (by simpa using hi), List.getElem?_map] at h
      cases q : ds[i]? with
      | none => rw [q] at h; cases h
      | some d => rw [q] at h; cases h; exact ⟨d, rfl, rfl⟩
    · rw [List.getElem?_append_right (by simpa using hi), List.getElem?_replicate] at h
      split at h
      · cases h; exact absurd rfl nx
      · cases h
  have no : ∀ (i : Nat) (d : D), (ds.map Slot.val ++ List.replicate (N.length - ds.length) .non)[i]? ≠ some (.own d) := fun i d h => by
    obtain ⟨_, e, _⟩ := get i (.own d) (fun z => nomatch z) h
    cases e
  have sb : ∀ a, OO O (ds.map Slot.val ++ List.replicate (N.length - ds.length) .non) (start N vs) a → O a := fun a h => h.elim id fun ⟨i, d, h1, _⟩ => absurd h1 (no i d)
  refine ⟨wf.sub, fun a o => wf.trk o, fun a h => h, wf.mt, wf.nd, fun a u h => h.2, fun a u h => h.1, c.anti sb, ?_, fun i d h => ?_, fun i d h => absurd h (no i d), fun i j d e a _ h => absurd h (no i d)⟩
  · unfold L2.start
    rw [List.length_append, List.length_append, List.length_map, List.length_map, List.length_replicate, List.length_replicate, len]
  · obtain ⟨d', e, h1⟩ := get i (.val d) (fun z => nomatch z) h
    cases e
    obtain ⟨v, h2, r2⟩ := r.get h1
    refine ⟨v, ?_, Rp.anti sb _ _ r2⟩
    unfold L2.start
    have hi : i < vs.length := (List.getElem?_eq_some_iff.mp h2).1
    rw [List.getElem?_append_left (by simpa using hi), List.getElem?_map, h2]
    rfl
abbrev FnP (K : PySem.W.Frag) (x : Str) (st : Stmt) (f : Addr) (fd : FuncData) : Prop := FunD K x x (defArgs st) (defBody st) (defScope st) [] [] f fd
theorem def_ok {x : Str} {st : Stmt} {f : Addr} {fd : FuncData} {N ps : List Str} {k : Nat} {fr : Bool} {g : Sv} {m : List D → List D → Option (D × List D)} (F : FnP K x st f fd) (Sc : FnScope N ps (defScope st)) (hg : mg x = some (.ref f)) (hb : Binds K fd ps [])
    (em : ∀ ds S, ds.length = ps.length → m ds S = runB fr N.length g ds S)
    (body : ∀ (cdv : Value) (A : Around) (outer : List Env) (s : Shared) (H : Hp) (E : XK), Room k (A.deeper (envOfC x (defScope st) s.heap.objs.size f cdv)) →
      PSs (cxOf CX0 P w K mg base N x (defScope st) f cdv A outer s H E).nox (defBody st) (tOfS fr K g)) : FnM P w K mg base (k + 1) x f fd ps fr m := by
  refine ⟨F.ok Sc (fun vs H Q E h => h.1) (fun cdv A outer s H vs Q E hr h => ⟨_, PSs.nox (body cdv A outer s H E hr), ?_⟩), hg, F.kp, hb⟩
  obtain ⟨hl, as, O, ds, S, r, S', wf, c, rv, hm, q⟩ := h
  rw [em ds S ((Rp.length rv).symm.trans hl)] at hm
  unfold runB at hm
  obtain ⟨o, ho, hm⟩ := Option.bind_eq_some_iff.mp hm
  refine ⟨as, O, _, _, _, S, o, rel_start (N := N) wf c rv, ho, ?_⟩
  cases o with
  | rt d S1 =>
    cases hm
    intro v H' g' rr
    refine q v H' (fun a u n e => g' a u ⟨n, e⟩) rr.1 rr.2.1 fun z => ?_
    obtain ⟨a, e, nb, c1, c2⟩ := rr.2.2 z
    refine ⟨a, e, ?_, c1, c2⟩
    cases y : H a with
    | none => rfl
    | some u => exact absurd (fun e => by rw [y] at e; cases e) nb
  | nx ρ1 S1 =>
    cases fr with
    | true => cases hm
    | false =>
    cases hm
    intro σ' H' R
    have sb : ∀ a, O a → OO O ρ1 σ' a := fun a o => .inl o
    refine q .non H' (fun a u n e => R.g a u ⟨n, e⟩) (R.cells.anti sb) .non fun z => (nomatch z)
  | bk ρ1 S1 => cases hm
  | ct ρ1 S1 => cases hm
end
end DL
namespace DL
open PySem PySem.Spec PyProof.Rows L2
inductive Src where
  | lst (a : Addr) | tup (a : Addr) | str (x : Str) (t : Tok)
def Src.val : Src → Value
  | .lst a => .ref a
  | .tup a => .ref a
  | .str x t => .str x t
def Src.at (K : PySem.W.Frag) (H : Hp) : Src → List V → Prop
  | .lst a, xs => SqL K H a xs
  | .tup a, xs => SqT K H a xs
  | .str x _, xs => xs = x.cps.toList.map fun c => V.str ⟨#[c]⟩
def Src.it (h : Heap) (p : Addr) (i : Nat) : Src → Prop
  | .lst a => h.IsListIter p a i
  | .tup a => h.IsTupleIter p a i
  | .str x t => h.IsStrIter p (strIterType x) x t i
def Src.adr : Src → List Addr
  | .lst a => [a]
  | .tup a => [a]
  | .str _ _ => []
theorem Src.it_keep {s : Src} {h h' : Heap} {p : Addr} {i : Nat} (x : s.it h p i) (k : ∀ o, h.get? p = some o → h'.get? p = some o) : s.it h' p i := by
  cases s with
  | lst a => exact Heap.IsListIter.at x k
  | tup a => exact Heap.IsTupleIter.at x k
  | str y t => obtain ⟨o, ho, q⟩ := x; exact ⟨o, k o ho, q⟩
theorem Src.it_obj {s : Src} {h : Heap} {p : Addr} {i : Nat} (x : s.it h p i) : ∃ o, h.get? p = some o ∧ ∀ v, o.data ≠ .cell v := by
  cases s with
  | lst a => obtain ⟨o, ho, _, d⟩ := x; exact ⟨o, ho, fun v q => by rw [d] at q; cases q⟩
  | tup a => obtain ⟨o, ho, _, d⟩ := x; exact ⟨o, ho, fun v q => by rw [d] at q; cases q⟩
  | str y t => obtain ⟨o, ho, _, d⟩ := x; exact ⟨o, ho, fun v q => by rw [d] at q; cases q⟩
section
variable {X : Cx} {pins : List (Addr × Obj)} {σ : L2.St} {H : Hp} {s : Shared}
theorem Src.at_inj (I : Inv X pins σ H s) {r : Src} {xs ys : List V} (h1 : r.at X.K H xs) (h2 : r.at X.K H ys) : xs = ys := by
  cases r with
  | lst a => exact I.list_inj h1 h2
  | tup a => exact I.tuple_inj h1 h2
  | str y t => exact h1.trans h2.symm
theorem Src.draws (I : Inv X pins σ H s) (hc : X.calm = true) {r : Src} {xs : List V} (h : r.at X.K H xs) {p : Addr} {i : Nat} (hit : r.it s.heap p i) (ne : ∀ a ∈ r.adr, a ≠ p) :
    ∃ P St, Draws X.prog X.w X.A.in1 p (p :: r.adr) xs.length P St ∧ St i s.heap ∧ (∀ j v, P j v → ∃ x, xs[j]? = some x ∧ RelV x v) ∧ ∀ j h', St j h' → r.it h' p j := by
  have hh : X.A.in1.handled = none := I.ok.hd hc
  cases r with
  | lst a =>
    obtain ⟨its, rv, pl, _⟩ := I.list h
    refine ⟨fun j v => its.toArray[j]? = some v, fun j h => h.IsListIter p a j ∧ h.IsList a its.toArray, ?_, ⟨hit, pl.isList⟩, fun j v e => ?_, fun j h' st => st.1⟩
    · have q := Draws.list (prog := X.prog) (w := X.w) hh p a (ne a (by simp [Src.adr])) its.toArray
      rw [show its.toArray.size = xs.length by simp [rv.length]] at q
      exact q
    have e' : its[j]? = some v := by simpa using e
    obtain ⟨x, hx⟩ : ∃ x, xs[j]? = some x := by
      have : j < its.length := (List.getElem?_eq_some_iff.mp e').1
      exact ⟨xs[j]'(by rw [rv.length]; exact this), List.getElem?_eq_getElem _⟩
    obtain ⟨u, hu, ru⟩ := rv.get hx
    rw [e'] at hu
    cases hu
    exact ⟨x, hx, ru⟩
  | tup a =>
    obtain ⟨its, rv, pl, _⟩ := I.tuple h
    obtain ⟨o, ho, c, n, hd⟩ := pl
    refine ⟨fun j v => its.toArray[j]? = some v, fun j h => h.IsTupleIter p a j ∧ h.IsTuple a its.toArray, ?_, ⟨hit, ⟨o, ho, c, n, hd⟩⟩, fun j v e => ?_, fun j h' st => st.1⟩
    · have q := Draws.tuple (prog := X.prog) (w := X.w) hh p a (ne a (by simp [Src.adr])) its.toArray
      rw [show its.toArray.size = xs.length by simp [rv.length]] at q
      exact q
    have e' : its[j]? = some v := by simpa using e
    obtain ⟨x, hx⟩ : ∃ x, xs[j]? = some x := by
      have : j < its.length := (List.getElem?_eq_some_iff.mp e').1
      exact ⟨xs[j]'(by rw [rv.length]; exact this), List.getElem?_eq_getElem _⟩
    obtain ⟨u, hu, ru⟩ := rv.get hx
    rw [e'] at hu
    cases hu
    exact ⟨x, hx, ru⟩
  | str y t =>
    have hx : xs = y.cps.toList.map fun c => V.str ⟨#[c]⟩ := h
    subst hx
    refine ⟨fun j v => ∃ c u, y.cps[j]? = some c ∧ v = .str ⟨#[c]⟩ u, fun j h => h.IsStrIter p (strIterType y) y t j, ?_, hit, fun j v e => ?_, fun j h' st => st⟩
    · have q := Draws.text (prog := X.prog) (w := X.w) hh p y t
      rw [show y.cps.size = (y.cps.toList.map fun c => V.str ⟨#[c]⟩).length by simp] at q
      exact q
    obtain ⟨c, u, e1, e2⟩ := e
    refine ⟨.str ⟨#[c]⟩, ?_, u, e2⟩
    rw [List.getElem?_map]
    have : y.cps.toList[j]? = some c := by simpa using e1
    rw [this]
    rfl
theorem Src.begins (I : Inv X pins σ H s) {r : Src} {xs : List V} (h : r.at X.K H xs) : ∃ o Hh, Begins r.val o Hh ∧ Hh s.heap ∧ (∀ h' p, h'.get? p = some o → r.it h' p 0) ∧ (∀ a ∈ r.adr, a < s.heap.objs.size) := by
  cases r with
  | lst a =>
    obtain ⟨its, rv, pl, _⟩ := I.list h
    refine ⟨_, _, begins_list a its.toArray, pl.isList, fun h' p e => ⟨_, e, rfl, rfl⟩, fun b hb => ?_⟩
    have : b = a := by simpa [Src.adr] using hb
    rw [this]
    exact pl.lt
  | tup a =>
    obtain ⟨its, rv, pl, _⟩ := I.tuple h
    have pl' := pl
    obtain ⟨o, ho, c, n, hd⟩ := pl'
    refine ⟨_, _, begins_tuple a its.toArray, ⟨o, ho, c, n, hd⟩, fun h' p e => ⟨_, e, rfl, rfl⟩, fun b hb => ?_⟩
    have : b = a := by simpa [Src.adr] using hb
    rw [this]
    exact pl.lt
  | str y t => exact ⟨_, _, begins_text y t, trivial, fun h' p e => ⟨_, e, rfl, rfl⟩, fun b hb => by simp [Src.adr] at hb⟩
end
structure Ap5 (z TI TO i1 i2 : Addr) (r1 r2 : Src) : Prop where
  TIz : TI ≠ z
  TOz : TO ≠ z
  TITO : TI ≠ TO
  TIi1 : TI ≠ i1
  TIi2 : TI ≠ i2
  TOi1 : TO ≠ i1
  TOi2 : TO ≠ i2
  zi1 : z ≠ i1
  zi2 : z ≠ i2
  i12 : i1 ≠ i2
  a1 : ∀ a ∈ r1.adr, a ≠ z ∧ a ≠ TO ∧ a ≠ i1 ∧ a ≠ i2
  a2 : ∀ a ∈ r2.adr, a ≠ z ∧ a ≠ TO ∧ a ≠ i1 ∧ a ≠ i2
theorem Ap5.sep {z TI TO i1 i2 : Addr} {r1 r2 : Src} (A : Ap5 z TI TO i1 i2 r1 r2) : ZipSep2 z TI TO i1 i2 (i1 :: r1.adr) (i2 :: r2.adr) where
  TIz := A.TIz
  TOz := A.TOz
  TITO := A.TITO
  TIi1 := A.TIi1
  mem1 := List.mem_cons_self
  zf1 := fun h => (List.mem_cons.mp h).elim A.zi1 fun q => (A.a1 _ q).1 rfl
  Tf1 := fun h => (List.mem_cons.mp h).elim A.TOi1 fun q => (A.a1 _ q).2.1 rfl
  TIi2 := A.TIi2
  mem2 := List.mem_cons_self
  zf2 := fun h => (List.mem_cons.mp h).elim A.zi2 fun q => (A.a2 _ q).1 rfl
  Tf2 := fun h => (List.mem_cons.mp h).elim A.TOi2 fun q => (A.a2 _ q).2.1 rfl
  sep1_2 := fun h => (List.mem_cons.mp h).elim A.i12 fun q => (A.a2 _ q).2.2.1 rfl
  sep2_1 := fun h => (List.mem_cons.mp h).elim (fun e => A.i12 e.symm) fun q => (A.a1 _ q).2.2.2 rfl
def ItzM (K : PySem.W.Frag) (r1 r2 : Src) : It :=
  ⟨fun i H => ∃ (xs ys : List V) (x y : V), r1.at K H xs ∧ r2.at K H ys ∧ xs[i]? = some x ∧ ys[i]? = some y,
    fun i H v H' => ∃ T x y, v = .ref T ∧ H T = none ∧ H' = upd H T (.tup [x, y]) ∧ (∀ xs, r1.at K H xs → xs[i]? = some x) ∧ ∀ ys, r2.at K H ys → ys[i]? = some y,
    fun i H => ∃ xs ys : List V, r1.at K H xs ∧ r2.at K H ys ∧ (xs.length ≤ i ∨ ys.length ≤ i) ∧ i ≤ xs.length ∧ i ≤ ys.length⟩
theorem turn_zipM {P : Program} {w : World} {K : PySem.W.Frag} {elts : List Expr} {kk : Nat} {tpos : Pos} {r1 r2 : Src} {z TI TO i1 i2 : Addr} (A : Ap5 z TI TO i1 i2 r1 r2) :
    Turn P w K (.Tuple elts kk tpos) (ItzM K r1 r2) [z, TI, TO, i1, i2] z (fun i h => IsZip h z TI TO .none ∧ IsTupOf2 h TI (.ref i1) (.ref i2) ∧ (∃ x y, IsTupOf2 h TO x y) ∧ r1.it h i1 i ∧ r2.it h i2 i) where
  mem := by simp
  obj := fun i h st c hc => by
    obtain ⟨hz, hTI, ⟨x, y, hTO⟩, h1, h2⟩ := st
    have e' : c = z ∨ c = TI ∨ c = TO ∨ c = i1 ∨ c = i2 := by simpa using hc
    rcases e' with q | q | q | q | q
    · rw [q]; exact ⟨_, hz, fun v q => nomatch q⟩
    · rw [q]; exact ⟨_, hTI, fun v q => nomatch q⟩
    · rw [q]; exact ⟨_, hTO, fun v q => nomatch q⟩
    · rw [q]; exact Src.it_obj h1
    · rw [q]; exact Src.it_obj h2
  keep := fun i h h' st k => by
    obtain ⟨hz, hTI, ⟨x, y, hTO⟩, h1, h2⟩ := st
    exact ⟨k z (by simp) _ hz, k TI (by simp) _ hTI, ⟨x, y, k TO (by simp) _ hTO⟩, Src.it_keep h1 fun o q => k i1 (by simp) o q, Src.it_keep h2 fun o q => k i2 (by simp) o q⟩
  item := by
    intro X hP hw hK hc i pins s σ H E I hf st hg
    subst hP hw hK
    obtain ⟨hz, hTI, ⟨x0, y0, hTO⟩, h1, h2⟩ := st
    obtain ⟨xs, ys, x, y, hqx, hqy, hx, hy⟩ := hg
    obtain ⟨P1, St1, D1, st1, p1, g1⟩ := Src.draws I hc hqx h1 (fun a ha => (A.a1 a ha).2.2.1)
    obtain ⟨P2, St2, D2, st2, p2, g2⟩ := Src.draws I hc hqy h2 (fun a ha => (A.a2 a ha).2.2.2)
    have hzl : z < s.heap.objs.size := Heap.lt_size hz
    have l1 : i < xs.length := (List.getElem?_eq_some_iff.mp hx).1
    have l2 : i < ys.length := (List.getElem?_eq_some_iff.mp hy).1
    refine wpAny_pyNext_zipD2_item A.sep D1 D2 hz hTI hTO st1 st2 l1 l2 fun u u2 h' tk y1 y2 z' TO' h1' h2' hT hsz hk => ?_
    obtain ⟨x', ex, ru⟩ := p1 i u y1
    obtain ⟨y', ey, ru2⟩ := p2 i u2 y2
    rw [hx] at ex
    rw [hy] at ey
    cases ex
    cases ey
    refine ⟨_, rfl, wpAny_letOwnedTupleGo_zip (s := { s with heap := h', toks := tk }) z' fun h'' z'' sb => ?_⟩
    have hT2 : h''.get? s.heap.objs.size = some { cls := .type "tuple", data := .seq #[u, u2] } := (sb.2 _ (Nat.ne_of_gt hzl)).trans hT
    have new : ObjOk X.prog X.w (upd H s.heap.objs.size (.tup [x, y])) h'' s.heap.objs.size (.tup [x, y]) :=
      ⟨by show 2 ≤ sizeLine; decide, [u, u2], .cons ru (.cons ru2 .nil), ⟨_, hT2, rfl, _, rfl⟩⟩
    have I1 : Inv X pins σ (upd H s.heap.objs.size (.tup [x, y])) { s with heap := h'', toks := tk } :=
      I.turnedNew (t' := tk) (ch := [z, TI, TO, i1, i2]) (fun c o hb q => (sb.2 c (fun q' => hb (by simp [q']))).trans (hk c o (fun q' => hb (by simp [q'])) (fun q' => hb (by simp [q'])) (fun q' => hb (by simp [q'])) (fun q' => hb (by simp [q'])) q)) hf (Nat.le_refl _) new
    refine ⟨.ref s.heap.objs.size, _, I1, rfl, ⟨_, x, y, rfl, I.hok.fresh (Nat.le_refl _), rfl, fun l hl => by rw [Src.at_inj I hl hqx]; exact hx, fun l hl => by rw [Src.at_inj I hl hqy]; exact hy⟩, ⟨z'', ?_, ⟨u, u2, ?_⟩, ?_, ?_⟩, fun c hcm => ?_⟩
    · exact (sb.2 _ A.TIz).trans (hk _ _ A.TIz A.TITO A.TIi1 A.TIi2 hTI)
    · exact (sb.2 _ A.TOz).trans TO'
    · exact Src.it_keep (g1 _ _ h1') fun o q => (sb.2 _ A.zi1.symm).trans q
    · exact Src.it_keep (g2 _ _ h2') fun o q => (sb.2 _ A.zi2.symm).trans q
    · have hlt : c < s.heap.objs.size := by
        have e' : c = z ∨ c = TI ∨ c = TO ∨ c = i1 ∨ c = i2 := by simpa using hcm
        rcases e' with q | q | q | q | q
        · rw [q]; exact hzl
        · rw [q]; exact Heap.lt_size hTI
        · rw [q]; exact Heap.lt_size hTO
        · rw [q]; obtain ⟨_, e1, _⟩ := Src.it_obj h1; exact Heap.lt_size e1
        · rw [q]; obtain ⟨_, e2, _⟩ := Src.it_obj h2; exact Heap.lt_size e2
      rw [upd_ne (Nat.ne_of_lt hlt)]
      exact (hf c hcm).1
  done := by
    intro X hP hw hK hc i pins s σ H E I hf st hg
    subst hP hw hK
    obtain ⟨hz, hTI, ⟨x0, y0, hTO⟩, h1, h2⟩ := st
    obtain ⟨xs, ys, hqx, hqy, hend, le1, le2⟩ := hg
    obtain ⟨P1, St1, D1, st1, p1, g1⟩ := Src.draws I hc hqx h1 (fun a ha => (A.a1 a ha).2.2.1)
    obtain ⟨P2, St2, D2, st2, p2, g2⟩ := Src.draws I hc hqy h2 (fun a ha => (A.a2 a ha).2.2.2)
    exact wpAny_pyNext_zipD2_end A.sep D1 D2 hz hTI hTO st1 st2 le1 le2 (by omega) fun h' tk hk => ⟨rfl, I.turnedL (t' := tk) (ch := [z, TI, TO, i1, i2]) (fun c o hb q =>
      hk c o (fun q' => hb (by simp [q'])) (fun q' => hb (by simp [q'])) (fun q' => hb (by simp [q'])) (fun q' => hb (by simp [q'])) q) hf⟩
  self := fun A i s Q E st h => wpAny_pyIter_zip st.1 h
def seqOf : D → Option (List D)
  | .lst xs => some xs
  | .tup xs => some xs
  | .str x => some (x.cps.toList.map fun c => .str ⟨#[c]⟩)
  | _ => none
section
variable {K : PySem.W.Frag} {as : List Addr} {O : Addr → Prop} {H H1 H2 H3 : Hp}
theorem rp_signs : ∀ (l : List Nat), RpL K as O H (l.map fun c => V.str ⟨#[c]⟩) (l.map fun c => D.str ⟨#[c]⟩)
  | [] => .nil
  | c :: l => .cons (.str _) (rp_signs l)
theorem src_of {v : V} {u : Value} {d : D} {ds : List D} (w : Wf as O H) (r : Rp K as O H v d) (rv : RelV v u) (hs : seqOf d = some ds) :
    ∃ (q : Src) (vs : List V), u = q.val ∧ RpL K as O H vs ds ∧ ∀ H2, Kp O H H2 → q.at K H2 vs := by
  cases r with
  | lst n h t =>
    cases hs
    cases rv
    exact ⟨.lst _, _, rfl, t, fun H2 k => .inl (.inl (k _ _ n h))⟩
  | tup h t =>
    cases hs
    cases rv
    exact ⟨.tup _, _, rfl, t, fun H2 k => k.sqT w.nt h⟩
  | str x =>
    cases hs
    obtain ⟨t, rfl⟩ := rv
    exact ⟨.str x t, _, rfl, rp_signs _, fun H2 k => rfl⟩
  | _ => cases hs
theorem Kp.refl : Kp O H H := fun _ _ _ h => h
end
def zipD : List D → List D → List D
  | x :: xs, y :: ys => .tup [x, y] :: zipD xs ys
  | _, _ => []
theorem zipD_len : ∀ (xs ys : List D), (zipD xs ys).length = min xs.length ys.length
  | [], _ => by simp [zipD]
  | _ :: _, [] => by simp [zipD]
  | x :: xs, y :: ys => by
    show (zipD xs ys).length + 1 = _
    rw [zipD_len xs ys]
    simp only [List.length_cons]
    omega
theorem zipD_get : ∀ (xs ys : List D) (i : Nat) (d : D), (zipD xs ys)[i]? = some d → ∃ x y, xs[i]? = some x ∧ ys[i]? = some y ∧ d = .tup [x, y]
  | [], _, _, _, h => by simp [zipD] at h
  | _ :: _, [], _, _, h => by simp [zipD] at h
  | x :: xs, y :: ys, 0, d, h => by cases h; exact ⟨x, y, rfl, rfl, rfl⟩
  | x :: xs, y :: ys, i + 1, d, h => zipD_get xs ys i d h
def iZip (fs : Ea) : Ea := fun ρ S => (fs ρ S).bind fun q => match q.1 with
  | [d1, d2] => (seqOf d1).bind fun xs => (seqOf d2).bind fun ys => some (zipD xs ys, q.2)
  | _ => none
theorem mi_zip {X : Cx} {e e2 : Expr} {fs : Ea} {p pos tpos : Pos} {elts : List Expr} {kk : Nat} (hg : Gl X "zip") (hm : X.mg "zip" = none) (ha : PA X [e, e2] (tOfA X.K fs))
    (hs : starEach [e, e2] X.env = (false, eval e X.env) :: starEach [e2] X.env := by rfl) (hpl : (backTo pos (starEach [e2] X.env)).any (·.1) = false := by rfl) :
    PI X (.Tuple elts kk tpos) (.Call (.Name "zip" p) [e, e2] [] pos) (tOfI X.K (iZip fs)) := by
  refine ⟨fun pins s σ H R I h => ?_⟩
  obtain ⟨as, O, ρ, S, ds, S', R0, hf, k⟩ := h
  unfold iZip at hf
  obtain ⟨⟨dd, S1⟩, h1, hf⟩ := Option.bind_eq_some_iff.mp hf
  refine Call_ (ld_blt I hg hm PyProof.Rows.boot_zip (PyProof.Rows.callWith_type1 (thn (ha.run pos pins s σ H (fun vs H1 => Stp as H H1 ∧ Cells X.K as O H1 S1 ∧ RpL X.K as O H1 vs dd) I ⟨as, O, ρ, S, dd, S1, R0, h1, fun vs H' s c r => ⟨s, c, r⟩⟩) fun us s1 ⟨vs, H1, I1, rv, s1', c1, rr⟩ => ?_) hs hpl))
  have w1 := R0.wf.step s1' c1
  split at hf
  case h_2 => cases hf
  case h_1 d1 d2 e =>
  obtain ⟨xs, hx, hf⟩ := Option.bind_eq_some_iff.mp hf
  obtain ⟨ys, hy, hf⟩ := Option.bind_eq_some_iff.mp hf
  cases hf
  have e : dd = [d1, d2] := e
  subst e
  cases rr with
  | cons ra rr =>
    cases rr with
    | cons rb rr =>
      cases rr
      cases rv with
      | cons va rv =>
        cases rv with
        | cons vb rv =>
          cases rv
          obtain ⟨r1, v1, rfl, t1, a1⟩ := src_of w1 ra va hx
          obtain ⟨r2, v2, rfl, t2, a2⟩ := src_of w1 rb vb hy
          have q1 := a1 H1 Kp.refl
          have q2 := a2 H1 Kp.refl
          obtain ⟨o1, Hh1, B1, b1, g1, l1⟩ := Src.begins I1 q1
          obtain ⟨o2, Hh2, B2, b2, g2, l2⟩ := Src.begins I1 q2
          refine zip_begins2 B1 B2 b1 b2 fun h' hz hTI hTO ho1 ho2 hsz hk => wpAny_pyIter_zip hz ?_
          have I2 : Inv X pins σ H1 { s1 with heap := h' } := I1.kept (t' := s1.toks) hk
          refine ⟨s1.heap.objs.size + 4, [s1.heap.objs.size + 4, s1.heap.objs.size + 2, s1.heap.objs.size + 3, s1.heap.objs.size, s1.heap.objs.size + 1], _, _, H1, rfl, I2, turn_zipM (r1 := r1) (r2 := r2) (i1 := s1.heap.objs.size) (i2 := s1.heap.objs.size + 1) (TI := s1.heap.objs.size + 2) (TO := s1.heap.objs.size + 3) ?_, ⟨hz, hTI, ⟨_, _, hTO⟩, g1 _ _ ho1, g2 _ _ ho2⟩, fun c hcm => ?_, ?_⟩
          · have nn : ∀ (a n m : Nat), a < n → a ≠ n + m := fun a n m h => by omega
            have n2 : ∀ (n a b : Nat), a ≠ b → n + a ≠ n + b := fun n a b h => by omega
            have n3 : ∀ (n b : Nat), b ≠ 0 → n + b ≠ n := fun n b h => by omega
            have n4 : ∀ (n b : Nat), b ≠ 0 → n ≠ n + b := fun n b h => by omega
            have n5 : ∀ (a n : Nat), a < n → a ≠ n := fun a n h => by omega
            exact ⟨n2 _ _ _ (by decide), n2 _ _ _ (by decide), n2 _ _ _ (by decide), n3 _ _ (by decide), n2 _ _ _ (by decide), n3 _ _ (by decide), n2 _ _ _ (by decide), n3 _ _ (by decide), n2 _ _ _ (by decide), n4 _ _ (by decide),
              fun a ha => ⟨nn _ _ _ (l1 a ha), nn _ _ _ (l1 a ha), n5 _ _ (l1 a ha), nn _ _ _ (l1 a ha)⟩, fun a ha => ⟨nn _ _ _ (l2 a ha), nn _ _ _ (l2 a ha), n5 _ _ (l2 a ha), nn _ _ _ (l2 a ha)⟩⟩
          · have e' : c = s1.heap.objs.size + 4 ∨ c = s1.heap.objs.size + 2 ∨ c = s1.heap.objs.size + 3 ∨ c = s1.heap.objs.size ∨ c = s1.heap.objs.size + 1 := by simpa using hcm
            have hle : s1.heap.objs.size ≤ c := by
              rcases e' with z | z | z | z | z
              · rw [z]; exact Nat.le_add_right _ _
              · rw [z]; exact Nat.le_add_right _ _
              · rw [z]; exact Nat.le_add_right _ _
              · rw [z]; exact Nat.le_refl _
              · rw [z]; exact Nat.le_add_right _ _
            exact I1.fpOk hle (I1.hok.fresh hle)
          · refine k _ H1 s1' c1 fun i H2 kp => ?_
            have b1 := a1 H2 kp
            have b2 := a2 H2 kp
            have n1 := Rp.length t1
            have n2 := Rp.length t2
            refine ⟨fun hl => ?_, fun d hd => ?_⟩
            · have z := zipD_len xs ys
              rw [← hl] at z
              refine ⟨_, _, b1, b2, ?_, ?_, ?_⟩ <;> omega
            · obtain ⟨x, y, hx, hy, rfl⟩ := zipD_get _ _ _ _ hd
              obtain ⟨x', ex, rx⟩ := t1.get hx
              obtain ⟨y', ey, ry⟩ := t2.get hy
              refine ⟨⟨_, _, x', y', b1, b2, ex, ey⟩, fun v H3 yl => ?_⟩
              obtain ⟨T, x2, y2, rfl, nT, rfl, f1, f2⟩ := yl
              have := f1 _ b1
              rw [ex] at this
              cases this
              have := f2 _ b2
              rw [ey] at this
              cases this
              have sm := same_new (o := .tup [x', y']) nT
              have kk : Kp O H1 (upd H2 T (.tup [x', y'])) := fun a u n e => sm a u (kp a u n e)
              exact ⟨sm, .tup (.inl (.inl upd_same)) (RpL.later w1 kk (.cons rx (.cons ry .nil)))⟩
end DL
namespace DL
open PySem PySem.Spec PyProof.Rows L2
set_option maxHeartbeats 1000000 in
theorem meets_enum1 {v : Value} {o : Obj} {H : Heap → Prop} (B : Begins v o H) :
    Meets (Builtin.«enumerate.__new__» ⟨[.type "enumerate", v], []⟩) (fun _ R s => H s.heap ∧
      R (.ok (.ret (.ref (s.heap.push o).objs.size))) { s with heap := (s.heap.push o).push { cls := .type "enumerate", data := .fields #[.none, .bool false, .ref s.heap.objs.size, rawInt 0, .none, .none] } }) :=
  .of_wp fun prog w A R s h => by
    obtain ⟨hp, g, d, tk, os⟩ := s; obtain ⟨h1, h⟩ := h
    have hsub := sub_enumerate
    have q1 : ∀ {A' : Around} {E : Value → Shared → Prop} {Q : Value → Shared → Prop}, Q (.ref hp.objs.size) ⟨hp.push o, g, d, tk, os⟩ → wpAny (model prog w) A' (pyIter v) Q E ⟨hp, g, d, tk, os⟩ :=
      fun q => B.iter prog w _ _ ⟨hp, g, d, tk, os⟩ _ h1 q
    wp_walk using q1
    refine wpAny_stack_any fun st => wpAny_pure ?_
    split
    · rename_i c _ _ _ _ _
      cases (c == Value.type "enumerate")
      · wp_walk using q1
        exact ⟨_, rfl, h⟩
      · wp_walk using q1
        exact ⟨_, rfl, h⟩
    · wp_walk using q1
      exact ⟨_, rfl, h⟩
section
variable {prog : Program} {w : World} {A : Around} {E : Value → Shared → Prop} {s : Shared}
theorem enum_begins1 {v : Value} {o : Obj} {H : Heap → Prop} {Q : Value → Shared → Prop} (B : Begins v o H) (h1 : H s.heap)
    (h : ∀ h', IsEnum h' (s.heap.objs.size + 1) s.heap.objs.size 0 .none → h'.get? s.heap.objs.size = some o → h'.objs.size = s.heap.objs.size + 2 →
      (∀ b o, s.heap.get? b = some o → h'.get? b = some o) → Q (.ref (s.heap.objs.size + 1)) { s with heap := h' }) :
    wpAny (model prog w) A (call (.type "enumerate") [v]) Q E s := by
  refine callType_new F.called_enumerate (by decide) (F.typeCall_enumerate_1 _) (F.newCall_enumerate_1 _) (fun obj => F.args_object_init_2 obj _) F.entry_enumerate_new
    (meets_enum1 B) ⟨h1, ?_⟩
  have hz : (s.heap.push o).objs.size = s.heap.objs.size + 1 := Heap.size_push ..
  show _ ∧ _
  rw [hz]
  have he : IsEnum ((s.heap.push o).push { cls := .type "enumerate", data := .fields #[.none, .bool false, .ref s.heap.objs.size, rawInt 0, .none, .none] }) (s.heap.objs.size + 1) s.heap.objs.size 0 .none := by
    have := Heap.get?_push_size (s.heap.push o) (o := { cls := .type "enumerate", data := .fields #[.none, .bool false, .ref s.heap.objs.size, rawInt 0, .none, .none] }) rfl
    rw [hz] at this; exact this
  refine ⟨⟨_, he, rfl⟩, h _ he (Heap.get?_push_of_some _ (Heap.get?_push_size _ B.free)) (by rw [Heap.size_push, hz]) fun b o x => Heap.get?_push_of_some _ (Heap.get?_push_of_some _ x)⟩
end
def IteM (K : PySem.W.Frag) (r : Src) : It :=
  ⟨fun i H => ∃ (xs : List V) (x : V), r.at K H xs ∧ xs[i]? = some x, fun i H v H' => ∃ T x, v = .ref T ∧ H T = none ∧ H' = upd H T (.tup [.int (i : Nat), x]) ∧ ∀ xs, r.at K H xs → xs[i]? = some x, fun i H => ∃ xs : List V, r.at K H xs ∧ xs.length = i⟩
theorem turn_enumM {P : Program} {w : World} {K : PySem.W.Frag} {elts : List Expr} {kk : Nat} {tpos : Pos} {r : Src} {e it : Addr} (hne : e ≠ it) (ha : ∀ a ∈ r.adr, a ≠ e ∧ a ≠ it) :
    Turn P w K (.Tuple elts kk tpos) (IteM K r) [e, it] e (fun i h => (∃ old, IsEnum h e it ((i : Nat) : Int) old) ∧ r.it h it i) where
  mem := by simp
  obj := fun i h st b hb => by
    obtain ⟨⟨old, he⟩, hi⟩ := st
    have e' : b = e ∨ b = it := by simpa using hb
    rcases e' with z | z
    · rw [z]; exact ⟨_, he, fun v q => nomatch q⟩
    · rw [z]; exact Src.it_obj hi
  keep := fun i h h' st k => let ⟨⟨old, he⟩, hi⟩ := st; ⟨⟨old, k e (by simp) _ he⟩, Src.it_keep hi fun o q => k it (by simp) o q⟩
  item := by
    intro X hP hw hK hc i pins s σ H E I hf st hg
    subst hP hw hK
    obtain ⟨⟨old, he⟩, hit⟩ := st
    obtain ⟨xs, x, hq, hx⟩ := hg
    obtain ⟨P1, St1, D1, st1, p1, g1⟩ := Src.draws I hc hq hit (fun a h => (ha a h).2)
    have hel : e < s.heap.objs.size := Heap.lt_size he
    have hil : it < s.heap.objs.size := by obtain ⟨_, q, _⟩ := Src.it_obj hit; exact Heap.lt_size q
    have l1 : i < xs.length := (List.getElem?_eq_some_iff.mp hx).1
    have hef : e ∉ (it :: r.adr) := fun h => (List.mem_cons.mp h).elim hne fun q => (ha _ q).1 rfl
    refine wpAny_pyNext_enum_itemD D1 he st1 l1 hne hef fun u h' tk y1 ho hit' hT hsz hk => ?_
    obtain ⟨x', ex, ru⟩ := p1 i u y1
    rw [hx] at ex
    cases ex
    refine ⟨_, rfl, wpAny_letOwnedTupleGo_enum (s := { s with heap := h', toks := tk + 1 }) ho fun h'' he' sb => ?_⟩
    have hT2 : h''.get? s.heap.objs.size = some { cls := .type "tuple", data := .seq #[.int i tk, u] } := (sb.2 _ (Nat.ne_of_gt hel)).trans hT
    have new : ObjOk X.prog X.w (upd H s.heap.objs.size (.tup [.int (i : Nat), x])) h'' s.heap.objs.size (.tup [.int (i : Nat), x]) :=
      ⟨by show 2 ≤ sizeLine; decide, [.int i tk, u], .cons ⟨_, rfl⟩ (.cons ru .nil), ⟨_, hT2, rfl, _, rfl⟩⟩
    have I1 : Inv X pins σ (upd H s.heap.objs.size (.tup [.int (i : Nat), x])) { s with heap := h'', toks := tk + 1 } :=
      I.turnedNew (ch := [e, it]) (fun b ob hb q => (sb.2 b (fun z => hb (by simp [z]))).trans (hk b ob (fun z => hb (by simp [z])) (fun z => hb (by simp [z])) q)) hf (Nat.le_refl _) new
    refine ⟨.ref s.heap.objs.size, _, I1, rfl, ⟨_, x, rfl, I.hok.fresh (Nat.le_refl _), rfl, fun ys hy => by rw [Src.at_inj I hy hq]; exact hx⟩, ⟨⟨u, ?_⟩, Src.it_keep (g1 _ _ hit') fun o q => (sb.2 it (Ne.symm hne)).trans q⟩, fun b hb => ?_⟩
    · have e1 : ((i + 1 : Nat) : Int) = (i : Int) + 1 := by omega
      rw [e1]; exact he'
    · have hb' : b < s.heap.objs.size := by
        have e' : b = e ∨ b = it := by simpa using hb
        rcases e' with z | z
        · rw [z]; exact hel
        · rw [z]; exact hil
      rw [upd_ne (Nat.ne_of_lt hb')]
      exact (hf b hb).1
  done := by
    intro X hP hw hK hc i pins s σ H E I hf st hg
    subst hP hw hK
    obtain ⟨⟨old, he⟩, hit⟩ := st
    obtain ⟨xs, hq, hx⟩ := hg
    obtain ⟨P1, St1, D1, st1, p1, g1⟩ := Src.draws I hc hq hit (fun a h => (ha a h).2)
    obtain ⟨f0, f1, f2, f3, f4, f5⟩ := hf it (by simp)
    rw [← hx] at st1
    exact wpAny_pyNext_enum_endD D1 he st1 fun h' eb => ⟨rfl, I.turned (t' := s.toks) (fun b o hb q => eb b o hb q) f0 f1 f3 f4 f5⟩
  self := fun A i s Q E st h => let ⟨⟨_, he⟩, _⟩ := st; wpAny_pyIter_enum he h
def enumD : Nat → List D → List D
  | _, [] => []
  | n, x :: xs => .tup [.int n, x] :: enumD (n + 1) xs
theorem enumD_len : ∀ (n : Nat) (xs : List D), (enumD n xs).length = xs.length
  | _, [] => rfl
  | n, x :: xs => congrArg (· + 1) (enumD_len (n + 1) xs)
theorem enumD_get : ∀ (n : Nat) (xs : List D) (i : Nat) (d : D), (enumD n xs)[i]? = some d → ∃ x, xs[i]? = some x ∧ d = .tup [.int ((n + i : Nat) : Int), x]
  | _, [], _, _, h => by simp [enumD] at h
  | n, x :: xs, 0, d, h => by cases h; exact ⟨x, rfl, rfl⟩
  | n, x :: xs, i + 1, d, h => by
    obtain ⟨y, h1, h2⟩ := enumD_get (n + 1) xs i d h
    exact ⟨y, h1, by rw [h2, show n + 1 + i = n + (i + 1) by omega]⟩
def iEnum (fs : Ea) : Ea := fun ρ S => (fs ρ S).bind fun q => match q.1 with
  | [d1] => (seqOf d1).bind fun xs => some (enumD 0 xs, q.2)
  | _ => none
theorem mi_enum {X : Cx} {e : Expr} {fs : Ea} {p pos tpos : Pos} {elts : List Expr} {kk : Nat} (hg : Gl X "enumerate") (hm : X.mg "enumerate" = none) (ha : PA X [e] (tOfA X.K fs))
    (hs : starEach [e] X.env = [(false, eval e X.env)] := by rfl) :
    PI X (.Tuple elts kk tpos) (.Call (.Name "enumerate" p) [e] [] pos) (tOfI X.K (iEnum fs)) := by
  refine ⟨fun pins s σ H R I h => ?_⟩
  obtain ⟨as, O, ρ, S, ds, S', R0, hf, k⟩ := h
  unfold iEnum at hf
  obtain ⟨⟨dd, S1⟩, h1, hf⟩ := Option.bind_eq_some_iff.mp hf
  refine Call_ (ld_blt I hg hm boot_enumerate (PyProof.Rows.callWith_type1 (thn (ha.run pos pins s σ H (fun vs H1 => Stp as H H1 ∧ Cells X.K as O H1 S1 ∧ RpL X.K as O H1 vs dd) I ⟨as, O, ρ, S, dd, S1, R0, h1, fun vs H' s c r => ⟨s, c, r⟩⟩) fun us s1 ⟨vs, H1, I1, rv, s1', c1, rr⟩ => ?_) hs rfl))
  have w1 := R0.wf.step s1' c1
  split at hf
  case h_2 => cases hf
  case h_1 d1 e =>
  obtain ⟨xs, hx, hf⟩ := Option.bind_eq_some_iff.mp hf
  cases hf
  have e : dd = [d1] := e
  subst e
  cases rr with
  | cons ra rr =>
    cases rr
    cases rv with
    | cons va rv =>
      cases rv
      obtain ⟨r1, v1, rfl, t1, a1⟩ := src_of w1 ra va hx
      have q1 := a1 H1 Kp.refl
      obtain ⟨o1, Hh1, B1, b1, g1, l1⟩ := Src.begins I1 q1
      refine enum_begins1 B1 b1 fun h' he ho hsz hk => wpAny_pyIter_enum he ?_
      have I2 : Inv X pins σ H1 { s1 with heap := h' } := I1.kept (t' := s1.toks) hk
      refine ⟨s1.heap.objs.size + 1, [s1.heap.objs.size + 1, s1.heap.objs.size], _, _, H1, rfl, I2, turn_enumM (r := r1) (it := s1.heap.objs.size) (e := s1.heap.objs.size + 1) (Nat.succ_ne_self _) (fun a ha => ⟨?_, ?_⟩), ⟨⟨.none, he⟩, g1 _ _ ho⟩, fun b hb => ?_, ?_⟩
      · exact Nat.ne_of_lt (Nat.lt_succ_of_lt (l1 a ha))
      · exact Nat.ne_of_lt (l1 a ha)
      · have e' : b = s1.heap.objs.size + 1 ∨ b = s1.heap.objs.size := by simpa using hb
        have hle : s1.heap.objs.size ≤ b := by
          rcases e' with z | z
          · rw [z]; exact Nat.le_add_right _ _
          · rw [z]; exact Nat.le_refl _
        exact I1.fpOk hle (I1.hok.fresh hle)
      · refine k _ H1 s1' c1 fun i H2 kp => ?_
        have b1 := a1 H2 kp
        have n1 := Rp.length t1
        refine ⟨fun hl => ?_, fun d hd => ?_⟩
        · have z := enumD_len 0 xs
          rw [← hl] at z
          exact ⟨_, b1, by omega⟩
        · obtain ⟨x, hx, rfl⟩ := enumD_get _ _ _ _ hd
          obtain ⟨x', ex, rx⟩ := t1.get hx
          refine ⟨⟨_, x', b1, ex⟩, fun v H3 yl => ?_⟩
          obtain ⟨T, x2, rfl, nT, rfl, f1⟩ := yl
          have := f1 _ b1
          rw [ex] at this
          cases this
          have sm := same_new (o := .tup [.int (i : Nat), x']) nT
          have kk : Kp O H1 (upd H2 T (.tup [.int (i : Nat), x'])) := fun a u n e => sm a u (kp a u n e)
          rw [Nat.zero_add]
          exact ⟨sm, .tup (.inl (.inl upd_same)) (RpL.later w1 kk (.cons (.int _) (.cons rx .nil)))⟩
def iAny (f : Ev) : Ea := fun ρ S => (f ρ S).bind fun q => (seqOf q.1).bind fun xs => some (xs, q.2)
theorem mi_any {X : Cx} {tg e : Expr} {f : Ev} (he : PE X e (tOf X.K f)) : PI X tg e (tOfI X.K (iAny f)) := by
  refine ⟨fun pins s σ H R I h => ?_⟩
  obtain ⟨as, O, ρ, S, ds, S', R0, hf, k⟩ := h
  unfold iAny at hf
  obtain ⟨⟨d, S1⟩, h1, hf⟩ := Option.bind_eq_some_iff.mp hf
  obtain ⟨xs, hx, hf⟩ := Option.bind_eq_some_iff.mp hf
  cases hf
  cases d with
  | lst ys =>
    cases hx
    refine (pi_list he).run pins s σ H R I ⟨as, O, ρ, S, _, S1, R0, h1, fun v H1 s1 c1 r1 => ?_⟩
    have w1 := R0.wf.step s1 c1
    cases r1 with
    | lst n hr t =>
      refine ⟨_, rfl, ⟨_, .inl (.inl hr)⟩, k _ H1 s1 c1 fun i H2 kp => ?_⟩
      have q : SqL X.K H2 _ _ := .inl (.inl (kp _ _ n hr))
      refine ⟨fun e => ⟨_, q, by rw [e, Rp.length t]; exact Nat.le_refl _⟩, fun d hd => ?_⟩
      obtain ⟨v, ev, rv⟩ := t.get hd
      refine ⟨⟨_, v, q, ev⟩, fun x H3 y => ?_⟩
      obtain ⟨rfl, f⟩ := y
      have := f _ q
      rw [ev] at this
      cases this
      exact ⟨Same.refl _, Rp.kp (op_nt w1) (op_kp kp) _ _ rv.op⟩
  | tup ys =>
    cases hx
    refine (pi_tup he).run pins s σ H R I ⟨as, O, ρ, S, _, S1, R0, h1, fun v H1 s1 c1 r1 => ?_⟩
    have w1 := R0.wf.step s1 c1
    cases r1 with
    | tup hr t =>
      refine ⟨_, rfl, ⟨_, hr⟩, k _ H1 s1 c1 fun i H2 kp => ?_⟩
      have q : SqT X.K H2 _ _ := kp.sqT w1.nt hr
      refine ⟨fun e => ⟨_, q, by rw [e, Rp.length t]; exact Nat.le_refl _⟩, fun d hd => ?_⟩
      obtain ⟨v, ev, rv⟩ := t.get hd
      refine ⟨⟨_, v, q, ev⟩, fun x H3 y => ?_⟩
      obtain ⟨rfl, f⟩ := y
      have := f _ q
      rw [ev] at this
      cases this
      exact ⟨Same.refl _, Rp.kp (op_nt w1) (op_kp kp) _ _ rv.op⟩
  | str x =>
    cases hx
    refine (pi_str he).run pins s σ H R I ⟨as, O, ρ, S, _, S1, R0, h1, fun v H1 s1 c1 r1 => ?_⟩
    cases r1
    refine ⟨x, rfl, k _ H1 s1 c1 fun i H2 kp => ⟨fun e => ?_, fun d hd => ?_⟩⟩
    · show x.cps.size ≤ i
      rw [e]
      simp
    · rw [List.getElem?_map] at hd
      cases q : x.cps.toList[i]? with
      | none => rw [q] at hd; cases hd
      | some c =>
        rw [q] at hd
        cases hd
        have hlt : i < x.cps.size := by simpa using (List.getElem?_eq_some_iff.mp q).1
        refine ⟨hlt, fun v H3 y => ?_⟩
        obtain ⟨rfl, c', e1, rfl⟩ := y
        have : x.cps.toList[i]? = some c' := by simpa using e1
        rw [q] at this
        cases this
        exact ⟨Same.refl _, .str _⟩
  | _ => cases hx
def inWord (i : Int) : Bool := decide (-4611686018427387904 ≤ i) && decide (i < 4611686018427387904)
def rangeD (lo hi : Int) : List D := (List.range (hi - lo).toNat).map fun k => .int (lo + (k : Nat))
def iRange1 (fs : Ea) : Ea := fun ρ S => (fs ρ S).bind fun q => match q.1 with
  | [.int j] => if inWord j = true then some (rangeD 0 j, q.2) else none
  | _ => none
def iRange2 (fs : Ea) : Ea := fun ρ S => (fs ρ S).bind fun q => match q.1 with
  | [.int i, .int j] => if (inWord i && inWord j) = true then some (rangeD i j, q.2) else none
  | _ => none
theorem rangeD_len (lo hi : Int) : (rangeD lo hi).length = (hi - lo).toNat := by simp [rangeD]
theorem rangeD_get {lo hi : Int} {i : Nat} {d : D} (h : (rangeD lo hi)[i]? = some d) : i < (hi - lo).toNat ∧ d = .int (lo + (i : Nat)) := by
  unfold rangeD at h
  rw [List.getElem?_map] at h
  by_cases hi' : i < (hi - lo).toNat
  · rw [List.getElem?_range hi'] at h
    cases h
    exact ⟨hi', rfl⟩
  · rw [List.getElem?_eq_none (by simpa using hi')] at h
    cases h
theorem walk_range {K : PySem.W.Frag} {as : List Addr} {O : Addr → Prop} {lo hi : Int} {H1 : Hp} : Walk K as O (Itr lo (hi - lo).toNat) H1 (rangeD lo hi) := fun i H2 kp => by
  refine ⟨fun e => ?_, fun d hd => ?_⟩
  · show (hi - lo).toNat ≤ i
    rw [e, rangeD_len]
    exact Nat.le_refl _
  · obtain ⟨h, rfl⟩ := rangeD_get hd
    refine ⟨h, fun x H3 y => ?_⟩
    obtain ⟨rfl, rfl⟩ := y
    exact ⟨Same.refl _, .int _⟩
theorem mi_range1 {X : Cx} {tg a : Expr} {fs : Ea} {p pos : Pos} (hg : Gl X "range") (hm : X.mg "range" = none) (ha : PA X [a] (tOfA X.K fs)) (hs : starEach [a] X.env = [(false, eval a X.env)] := by rfl) :
    PI X tg (.Call (.Name "range" p) [a] [] pos) (tOfI X.K (iRange1 fs)) := by
  refine ⟨fun pins s σ H R I h => ?_⟩
  obtain ⟨as, O, ρ, S, ds, S', R0, hf, k⟩ := h
  unfold iRange1 at hf
  obtain ⟨⟨dd, S1⟩, h1, hf⟩ := Option.bind_eq_some_iff.mp hf
  refine (pi_range1 hg hm ha hs).run pins s σ H R I ⟨as, O, ρ, S, dd, S1, R0, h1, fun vs H1 s1 c1 r1 => ?_⟩
  split at hf
  · rename_i j e
    have e : dd = [.int j] := e
    subst e
    split at hf
    · rename_i hw
      cases hf
      cases r1 with
      | cons ra rr =>
        cases rr
        cases ra
        unfold inWord at hw
        simp only [Bool.and_eq_true, decide_eq_true_eq] at hw
        refine ⟨j, rfl, by omega, by omega, ?_⟩
        have q := k (Itr 0 (j - 0).toNat) H1 s1 c1 walk_range
        rw [Int.sub_zero] at q
        exact q
    · cases hf
  · cases hf
theorem mi_range2 {X : Cx} {tg a b : Expr} {fs : Ea} {p pos : Pos} (hg : Gl X "range") (hm : X.mg "range" = none) (ha : PA X [a, b] (tOfA X.K fs)) (hs : starEach [a, b] X.env = [(false, eval a X.env), (false, eval b X.env)] := by rfl) (hs2 : starEach [b] X.env = [(false, eval b X.env)] := by rfl) :
    PI X tg (.Call (.Name "range" p) [a, b] [] pos) (tOfI X.K (iRange2 fs)) := by
  refine ⟨fun pins s σ H R I h => ?_⟩
  obtain ⟨as, O, ρ, S, ds, S', R0, hf, k⟩ := h
  unfold iRange2 at hf
  obtain ⟨⟨dd, S1⟩, h1, hf⟩ := Option.bind_eq_some_iff.mp hf
  refine (pi_range2 hg hm ha hs hs2).run pins s σ H R I ⟨as, O, ρ, S, dd, S1, R0, h1, fun vs H1 s1 c1 r1 => ?_⟩
  split at hf
  · rename_i i j e
    have e : dd = [.int i, .int j] := e
    subst e
    split at hf
    · rename_i hw
      cases hf
      cases r1 with
      | cons ra rr =>
        cases rr with
        | cons rb rr =>
          cases rr
          cases ra
          cases rb
          unfold inWord at hw
          simp only [Bool.and_eq_true, decide_eq_true_eq] at hw
          exact ⟨i, j, rfl, ⟨by omega, by omega, by omega, by omega⟩, k (Itr i (j - i).toNat) H1 s1 c1 walk_range⟩
    · cases hf
  · cases hf
end DL
namespace DL
open PySem PySem.Spec PyProof.Rows L2
section
variable {K : PySem.W.Frag} {as : List Addr} {O : Addr → Prop} {H : Hp} {v : V}
theorem RpB.int {i : Int} (r : RpB K as O H v (.int i)) : v = .int i := by
  rcases r with r | ⟨a, _, _, c⟩
  · cases r; rfl
  · cases c
theorem RpB.bl {i : Bool} (r : RpB K as O H v (.bl i)) : v = .bl i := by
  rcases r with r | ⟨a, _, _, c⟩
  · cases r; rfl
  · cases c
theorem RpB.non (r : RpB K as O H v .non) : v = .non := by
  rcases r with r | ⟨a, _, _, c⟩
  · cases r; rfl
  · cases c
theorem RpB.str {x : Str} (r : RpB K as O H v (.str x)) : v = .str x := by
  rcases r with r | ⟨a, _, _, c⟩
  · cases r; rfl
  · cases c
theorem RpB.tup {xs : List D} (r : RpB K as O H v (.tup xs)) : ∃ a vs, v = .ref a ∧ SqT K H a vs ∧ RpL K as O H vs xs := by
  rcases r with r | ⟨a, _, _, c⟩
  · cases r with
    | tup h t => exact ⟨_, _, rfl, h, t⟩
  · cases c
theorem RpB.lst {xs : List D} (r : RpB K as O H v (.lst xs)) : ∃ a vs, v = .ref a ∧ H a = some (.lst vs) ∧ RpL K as O H vs xs := by
  rcases r with r | ⟨a, e, _, c⟩
  · cases r with
    | lst _ h t => exact ⟨_, _, rfl, h, t⟩
  · cases c with
    | lst h t => exact ⟨a, _, e, h, t⟩
end
def Big : Nat := 2 ^ 8000
def wide (i : Int) : Bool := decide (i.natAbs < Big)
def dAdd : D → D → Option D
  | .int i, .int j => some (.int (i + j))
  | .str x, .str y => if x.length + y.length ≤ 16777216 then some (.str (x ++ y)) else none
  | .tup xs, .tup ys => if xs.length + ys.length ≤ 16777216 then some (.tup (xs ++ ys)) else none
  | .lst xs, .lst ys => if xs.length + ys.length ≤ 16777216 then some (.lst (xs ++ ys)) else none
  | _, _ => none
def dSub : D → D → Option D
  | .int i, .int j => some (.int (i - j))
  | _, _ => none
def small (i : Int) : Bool := decide (i.natAbs < 18446744073709551616)
def dMul : D → D → Option D
  | .int i, .int j => if (small i || small j || (wide i && wide j)) = true then some (.int (i * j)) else none
  | _, _ => none
def dDiv : D → D → Option D
  | .int i, .int j => if (decide (0 < j) && wide j) = true then some (.int (i / j)) else if (decide (j ≠ 0) && decide (j.natAbs < 1073741824)) = true then some (.int (i.fdiv j)) else none
  | _, _ => none
def dMod : D → D → Option D
  | .int i, .int j => if j = 0 then none else some (.int (i.fmod j))
  | _, _ => none
def dPow : D → D → Option D
  | .int i, .int j => if (decide (0 ≤ j) && decide (j ≤ 1000) && decide (i.natAbs < 18446744073709551616)) = true then some (.int (i ^ j.toNat)) else none
  | _, _ => none
def dNeg : D → Option D
  | .int i => some (.int (-i))
  | _ => none
theorem wide_ok {i : Int} (h : wide i = true) : i.natAbs < 2 ^ 8000 := of_decide_eq_true h
section
variable {X : Cx}
theorem rpL_nil_iff {K : PySem.W.Frag} {as : List Addr} {O : Addr → Prop} {H : Hp} {vs : List V} {ds : List D} (r : RpL K as O H vs ds) : vs = [] ↔ ds = [] := by
  cases r with
  | nil => exact ⟨fun _ => rfl, fun _ => rfl⟩
  | cons _ _ => exact ⟨fun h => (nomatch h), fun h => (nomatch h)⟩
theorem od_add : OpR X (binaryOp .Add) (r2D X.K dAdd) := by
  intro pins s σ H x y v u Q I rx ry h
  obtain ⟨as, O, d, e, r, w, rd, re, hg, k⟩ := h
  unfold dAdd at hg
  split at hg
  · cases hg
    rw [rd.int] at rx
    rw [re.int] at ry
    exact op_add pins s σ H _ _ v u Q I rx ry ⟨_, _, rfl, rfl, k _ H (Same.refl H) (.int _)⟩
  · split at hg
    · rename_i hl
      cases hg
      rw [rd.str] at rx
      rw [re.str] at ry
      exact op_add_str pins s σ H _ _ v u Q I rx ry ⟨_, _, rfl, rfl, by rw [sizeLine_16]; exact hl, k _ H (Same.refl H) (.str _)⟩
    · cases hg
  · split at hg
    · rename_i hl
      cases hg
      obtain ⟨a, vs, rfl, h1, t1⟩ := rd.tup
      obtain ⟨b, ws, rfl, h2, t2⟩ := re.tup
      refine op_catA pins s σ H _ _ v u Q I rx ry ⟨a, b, vs, ws, rfl, rfl, h1, h2, by rw [sizeLine_16, Rp.length t1, Rp.length t2]; exact hl, fun e => ?_, fun ne e => ?_, fun ne ne2 p hp => ?_⟩
      · have e' := (rpL_nil_iff t1).mp e
        subst e'
        exact k _ H (Same.refl H) (.tup h2 t2)
      · have e' := (rpL_nil_iff t2).mp e
        subst e'
        exact k _ H (Same.refl H) (.tup h1 (by rw [List.append_nil]; exact t1))
      · have sm := same_new (o := .tup (vs ++ ws)) hp
        exact k _ _ sm (.tup (.inl (.inl upd_same)) ((t1.append t2).stp w (Same.stp sm)))
    · cases hg
  · split at hg
    · rename_i hl
      cases hg
      obtain ⟨a, vs, rfl, h1, t1⟩ := rd.lst
      obtain ⟨b, ws, rfl, h2, t2⟩ := re.lst
      refine op_cat pins s σ H _ _ v u Q I rx ry ⟨a, b, vs, ws, rfl, rfl, h1, h2, by rw [sizeLine_16, Rp.length t1, Rp.length t2]; exact hl, fun p hp => ?_⟩
      have sm := same_new (o := .lst (vs ++ ws)) hp
      exact k _ _ sm (.lst (w.nel hp) upd_same ((t1.append t2).stp w (Same.stp sm)))
    · cases hg
  · cases hg
theorem od_int {f : Value → Value → Sem Value} {g : D → D → Option D} {C : Int → Int → Prop} {h : Int → Int → V} (ho : OpR X f (rI C h)) (hd : ∀ d e r, g d e = some r → ∃ i j, d = .int i ∧ e = .int j ∧ C i j ∧ (∀ as O H, Rp X.K as O H (h i j) r)) : OpR X f (r2D X.K g) := by
  intro pins s σ H x y v u Q I rx ry q
  obtain ⟨as, O, d, e, r, w, rd, re, hg, k⟩ := q
  obtain ⟨i, j, rfl, rfl, c, rr⟩ := hd d e r hg
  rw [rd.int] at rx
  rw [re.int] at ry
  exact ho pins s σ H _ _ v u Q I rx ry ⟨i, j, rfl, rfl, c, k _ H (Same.refl H) (rr _ _ _)⟩
theorem od_int0 {f : Value → Value → Sem Value} {g : D → D → Option D} {h : Int → Int → V} (ho : OpR X f (rI0 h)) (hd : ∀ d e r, g d e = some r → ∃ i j, d = .int i ∧ e = .int j ∧ (∀ as O H, Rp X.K as O H (h i j) r)) : OpR X f (r2D X.K g) := by
  intro pins s σ H x y v u Q I rx ry q
  obtain ⟨as, O, d, e, r, w, rd, re, hg, k⟩ := q
  obtain ⟨i, j, rfl, rfl, rr⟩ := hd d e r hg
  rw [rd.int] at rx
  rw [re.int] at ry
  exact ho pins s σ H _ _ v u Q I rx ry ⟨i, j, rfl, rfl, k _ H (Same.refl H) (rr _ _ _)⟩
theorem od_sub : OpR X (binaryOp .Sub) (r2D X.K dSub) := od_int0 op_sub fun d e r h => by
  unfold dSub at h
  split at h
  · cases h; exact ⟨_, _, rfl, rfl, fun _ _ _ => .int _⟩
  · cases h
theorem od_mul : OpR X (binaryOp .Mult) (r2D X.K dMul) := by
  have ho : OpR X (binaryOp .Mult) (rI (fun i j => IntMulOk i j) fun i j => .int (i * j)) := opI fun _ _ _ _ _ _ _ hc q => mul_int q hc
  refine od_int ho fun d e r h => ?_
  unfold dMul at h
  split at h
  · split at h
    · rename_i i j hw
      cases h
      refine ⟨_, _, rfl, rfl, ?_, fun _ _ _ => .int _⟩
      rw [Bool.or_eq_true, Bool.or_eq_true, Bool.and_eq_true] at hw
      rcases hw with (hw | hw) | hw
      · have := of_decide_eq_true hw
        exact .of_left (intBits_le_64 (by omega) (by omega))
      · have := of_decide_eq_true hw
        exact .of_right (intBits_le_64 (by omega) (by omega))
      · exact CMulW.ok (wide_mul (wide_ok hw.1) (wide_ok hw.2) (by decide) (by decide) (by decide))
    · cases h
  · cases h
theorem od_div : OpR X (binaryOp .FloorDiv) (r2D X.K dDiv) := by
  intro pins s σ H x y v u Q I rx ry q
  obtain ⟨as, O, d, e, r, w, rd, re, hg, k⟩ := q
  unfold dDiv at hg
  split at hg
  · rename_i i j
    rw [rd.int] at rx
    rw [re.int] at ry
    split at hg
    · rename_i hw
      cases hg
      rw [Bool.and_eq_true] at hw
      exact op_fdivW pins s σ H _ _ v u Q I rx ry ⟨_, _, rfl, rfl, wide_div (of_decide_eq_true hw.1) (wide_ok hw.2) (by decide) (by decide), k _ H (Same.refl H) (.int _)⟩
    · split at hg
      · rename_i hw
        cases hg
        rw [Bool.and_eq_true] at hw
        exact op_fdivN pins s σ H _ _ v u Q I rx ry ⟨_, _, rfl, rfl, ⟨of_decide_eq_true hw.1, of_decide_eq_true hw.2⟩, k _ H (Same.refl H) (.int _)⟩
      · cases hg
  · cases hg
theorem od_mod : OpR X (binaryOp .Mod) (r2D X.K dMod) := od_int op_modN fun d e r h => by
  unfold dMod at h
  split at h
  · split at h
    · cases h
    · rename_i hj
      cases h
      exact ⟨_, _, rfl, rfl, hj, fun _ _ _ => .int _⟩
  · cases h
theorem od_pow : OpR X (binaryOp .Pow) (r2D X.K dPow) := od_int op_pow fun d e r h => by
  unfold dPow at h
  split at h
  · split at h
    · rename_i i j hw
      cases h
      simp only [Bool.and_eq_true, decide_eq_true_eq] at hw
      exact ⟨_, _, rfl, rfl, ⟨hw.1.1, by omega, hw.2⟩, fun _ _ _ => .int _⟩
    · cases h
  · cases h
theorem ud_neg : UnR X (unaryOp .USub) (r1D X.K dNeg) := by
  intro pins s σ H x v Q I rx q
  obtain ⟨as, O, d, r, w, rd, hg, k⟩ := q
  unfold dNeg at hg
  split at hg
  · cases hg
    rw [rd.int] at rx
    exact un_neg pins s σ H _ v Q I rx ⟨_, rfl, k _ H (Same.refl H) (.int _)⟩
  · cases hg
def dCmp (p : Int → Int → Bool) : D → D → Option D
  | .int i, .int j => some (.bl (p i j))
  | _, _ => none
theorem dCmp_int {p : Int → Int → Bool} {d e r : D} (h : dCmp p d e = some r) : ∃ i j, d = .int i ∧ e = .int j ∧ r = .bl (p i j) := by
  unfold dCmp at h
  split at h
  · cases h; exact ⟨_, _, rfl, rfl, rfl⟩
  · cases h
abbrev dLt := dCmp fun i j => decide (i < j)
abbrev dLe := dCmp fun i j => decide (i ≤ j)
abbrev dGt := dCmp fun i j => decide (j < i)
abbrev dGe := dCmp fun i j => decide (j ≤ i)
theorem od_lt : OpR X (compareOp .Lt) (r2D X.K dLt) := od_int0 op_lt fun d e r h => by
  obtain ⟨i, j, rfl, rfl, rfl⟩ := dCmp_int h
  exact ⟨i, j, rfl, rfl, fun _ _ _ => .bl _⟩
theorem od_le : OpR X (compareOp .LtE) (r2D X.K dLe) := od_int0 op_le fun d e r h => by
  obtain ⟨i, j, rfl, rfl, rfl⟩ := dCmp_int h
  exact ⟨i, j, rfl, rfl, fun _ _ _ => .bl _⟩
theorem od_gt : OpR X (compareOp .Gt) (r2D X.K dGt) := od_int0 op_gt fun d e r h => by
  obtain ⟨i, j, rfl, rfl, rfl⟩ := dCmp_int h
  exact ⟨i, j, rfl, rfl, fun _ _ _ => .bl _⟩
theorem od_ge : OpR X (compareOp .GtE) (r2D X.K dGe) := od_int0 op_ge fun d e r h => by
  obtain ⟨i, j, rfl, rfl, rfl⟩ := dCmp_int h
  exact ⟨i, j, rfl, rfl, fun _ _ _ => .bl _⟩
def isNonD : D → Bool
  | .non => true
  | _ => false
def dIsN : D → D → Option D
  | d, .non => some (.bl (isNonD d))
  | _, _ => none
def dNotN : D → D → Option D
  | d, .non => some (.bl (!isNonD d))
  | _, _ => none
theorem rp_non {K : PySem.W.Frag} {as : List Addr} {O : Addr → Prop} {H : Hp} {x : V} {d : D} (r : RpB K as O H x d) : decide (x = .non) = isNonD d := by
  rcases r with r | ⟨a, e, _, c⟩
  · cases r <;> rfl
  · subst e
    cases c
    rfl
theorem od_isN : OpR X (compareOp .Is) (r2D X.K dIsN) := by
  intro pins s σ H x y v u Q I rx ry q
  obtain ⟨as, O, d, e, r, w, rd, re, hg, k⟩ := q
  unfold dIsN at hg
  split at hg
  · cases hg
    rw [re.non] at ry
    exact op_isN pins s σ H _ _ v u Q I rx ry ⟨rfl, by rw [rp_non rd]; exact k _ H (Same.refl H) (.bl _)⟩
  · cases hg
theorem od_notN : OpR X (compareOp .IsNot) (r2D X.K dNotN) := by
  intro pins s σ H x y v u Q I rx ry q
  obtain ⟨as, O, d, e, r, w, rd, re, hg, k⟩ := q
  unfold dNotN at hg
  split at hg
  · rename_i d
    cases hg
    rw [re.non] at ry
    refine op_notN pins s σ H _ _ v u Q I rx ry ⟨rfl, ?_⟩
    rw [rp_non rd]
    exact k _ H (Same.refl H) (.bl _)
  · cases hg
mutual
def py : D → PyData
  | .non => .none
  | .bl b => .bool b
  | .int i => .int i
  | .str x => .str x
  | .tup xs => .tuple (pyL xs)
  | .lst xs => .list (pyL xs)
  | .obj _ => .none
  | .dct _ => .none
  | .scr _ => .none
def pyL : List D → List PyData
  | [] => []
  | x :: xs => py x :: pyL xs
end
mutual
def okD : Nat → D → Bool
  | _, .non => true
  | _, .bl _ => true
  | _, .int _ => true
  | _, .str x => PyData.strOk x
  | n + 1, .tup xs => okL n xs
  | n + 1, .lst xs => okL n xs
  | _, _ => false
def okL : Nat → List D → Bool
  | _, [] => true
  | n, x :: xs => okD n x && okL n xs
end
mutual
def eqD : D → D → Bool
  | .non, .non => true
  | .bl a, .bl b => a == b
  | .bl a, .int j => (if a then 1 else 0) == j
  | .int i, .bl b => i == (if b then 1 else 0)
  | .int i, .int j => i == j
  | .str x, .str y => x == y
  | .lst xs, .lst ys => eqL xs ys
  | .tup xs, .tup ys => eqL xs ys
  | _, _ => false
def eqL : List D → List D → Bool
  | [], [] => true
  | x :: xs, y :: ys => eqD x y && eqL xs ys
  | _, _ => false
end
mutual
theorem ok_lay : ∀ (n : Nat) (d : D), okD n d = true → (py d).canLay0 = true ∧ (py d).depth ≤ n
  | _, .non, _ => ⟨by simp [py, PyData.canLay0], by simp [py, PyData.depth]⟩
  | _, .bl _, _ => ⟨by simp [py, PyData.canLay0], by simp [py, PyData.depth]⟩
  | _, .int _, _ => ⟨by simp [py, PyData.canLay0], by simp [py, PyData.depth]⟩
  | _, .str x, h => ⟨by simpa [py, PyData.canLay0, okD] using h, by simp [py, PyData.depth]⟩
  | n + 1, .tup xs, h => by
    have q := ok_layL n xs (by simpa [okD] using h)
    refine ⟨by simpa [py, PyData.canLay0] using q.1, ?_⟩
    have := q.2
    simp only [py, PyData.depth]
    omega
  | n + 1, .lst xs, h => by
    have q := ok_layL n xs (by simpa [okD] using h)
    refine ⟨by simpa [py, PyData.canLay0] using q.1, ?_⟩
    have := q.2
    simp only [py, PyData.depth]
    omega
  | 0, .tup _, h => by simp [okD] at h
  | 0, .lst _, h => by simp [okD] at h
  | _, .obj _, h => by simp [okD] at h
  | _, .dct _, h => by simp [okD] at h
  | _, .scr _, h => by simp [okD] at h
theorem ok_layL : ∀ (n : Nat) (ds : List D), okL n ds = true → PyData.canLayAll0 (pyL ds) = true ∧ PyData.depthAll (pyL ds) ≤ n
  | _, [], _ => ⟨by simp [pyL, PyData.canLayAll0], by simp [pyL, PyData.depthAll]⟩
  | n, x :: xs, h => by
    have h' : okD n x = true ∧ okL n xs = true := by simpa [okL] using h
    have a := ok_lay n x h'.1
    have b := ok_layL n xs h'.2
    refine ⟨by simp [pyL, PyData.canLayAll0, a.1, b.1], ?_⟩
    simp only [pyL, PyData.depthAll]
    have := a.2
    have := b.2
    omega
end
mutual
theorem eq_py : ∀ (n : Nat) (d e : D), okD n d = true → okD n e = true → PyData.eqv (py d) (py e) = eqD d e
  | _, .non, .non, _, _ | _, .non, .bl _, _, _ | _, .non, .int _, _, _ | _, .non, .str _, _, _ | _, .non, .tup _, _, _ | _, .non, .lst _, _, _ => by simp [py, PyData.eqv, eqD]
  | _, .bl _, .non, _, _ | _, .bl _, .bl _, _, _ | _, .bl _, .int _, _, _ | _, .bl _, .str _, _, _ | _, .bl _, .tup _, _, _ | _, .bl _, .lst _, _, _ => by simp [py, PyData.eqv, eqD]
  | _, .int _, .non, _, _ | _, .int _, .bl _, _, _ | _, .int _, .int _, _, _ | _, .int _, .str _, _, _ | _, .int _, .tup _, _, _ | _, .int _, .lst _, _, _ => by simp [py, PyData.eqv, eqD]
  | _, .str _, .non, _, _ | _, .str _, .bl _, _, _ | _, .str _, .int _, _, _ | _, .str _, .str _, _, _ | _, .str _, .tup _, _, _ | _, .str _, .lst _, _, _ => by simp [py, PyData.eqv, eqD]
  | _, .tup _, .non, _, _ | _, .tup _, .bl _, _, _ | _, .tup _, .int _, _, _ | _, .tup _, .str _, _, _ | _, .tup _, .lst _, _, _ => by simp [py, PyData.eqv, eqD]
  | _, .lst _, .non, _, _ | _, .lst _, .bl _, _, _ | _, .lst _, .int _, _, _ | _, .lst _, .str _, _, _ | _, .lst _, .tup _, _, _ => by simp [py, PyData.eqv, eqD]
  | n + 1, .tup xs, .tup ys, h, h' => by
    simp only [py, PyData.eqv, eqD]
    exact eq_pyL n xs ys (by simpa [okD] using h) (by simpa [okD] using h')
  | n + 1, .lst xs, .lst ys, h, h' => by
    simp only [py, PyData.eqv, eqD]
    exact eq_pyL n xs ys (by simpa [okD] using h) (by simpa [okD] using h')
  | 0, .tup _, _, h, _ | 0, .lst _, _, h, _ => by simp [okD] at h
  | _, .obj _, _, h, _ | _, .dct _, _, h, _ | _, .scr _, _, h, _ => by simp [okD] at h
  | _, _, .obj _, _, h | _, _, .dct _, _, h | _, _, .scr _, _, h => by simp [okD] at h
theorem eq_pyL : ∀ (n : Nat) (d e : List D), okL n d = true → okL n e = true → PyData.eqvAll (pyL d) (pyL e) = eqL d e
  | _, [], [], _, _ | _, [], _ :: _, _, _ | _, _ :: _, [], _, _ => by simp [pyL, PyData.eqvAll, eqL]
  | n, x :: xs, y :: ys, h, h' => by
    have a : okD n x = true ∧ okL n xs = true := by simpa [okL] using h
    have b : okD n y = true ∧ okL n ys = true := by simpa [okL] using h'
    simp only [pyL, PyData.eqvAll, eqL]
    rw [eq_py n x y a.1 b.1, eq_pyL n xs ys a.2 b.2]
end
theorem ok_shaped {n : Nat} (hn : n ≤ 64) {d : D} (h : okD n d = true) : SeqAt.shaped (py d) = true := by
  have q := ok_lay n d h
  unfold SeqAt.shaped
  rw [q.1, Bool.true_and, decide_eq_true_eq]
  omega
section
variable {K : PySem.W.Frag} {as : List Addr} {O : Addr → Prop} {H : Hp}
mutual
theorem Rp.dp : ∀ (n : Nat) (v : V) (d : D), okD n d = true → Rp K as O H v d → Dp K H v (py d)
  | _, _, .non, _, .non => by simpa [py] using Dp.non
  | _, _, .bl b, _, .bl _ => by simpa [py] using Dp.bl b
  | _, _, .int b, _, .int _ => by simpa [py] using Dp.int b
  | _, _, .str b, _, .str _ => by simpa [py] using Dp.str b
  | n + 1, _, .tup xs, h, .tup q t => by
    simp only [py]
    exact .tup q (RpL.dp n _ _ (by simpa [okD] using h) t)
  | n + 1, _, .lst xs, h, .lst _ q t => by
    simp only [py]
    exact .lst (.inl (.inl q)) (RpL.dp n _ _ (by simpa [okD] using h) t)
  | 0, _, .tup _, h, _ => by simp [okD] at h
  | 0, _, .lst _, h, _ => by simp [okD] at h
  | _, _, .obj _, h, _ => by simp [okD] at h
  | _, _, .dct _, h, _ => by simp [okD] at h
  | _, _, .scr _, h, _ => by simp [okD] at h
theorem RpL.dp : ∀ (n : Nat) (v : List V) (d : List D), okL n d = true → RpL K as O H v d → DpAll K H v (pyL d)
  | _, _, [], _, .nil => by simpa [pyL] using DpAll.nil
  | n, _, x :: xs, h, .cons r t => by
    have a : okD n x = true ∧ okL n xs = true := by simpa [okL] using h
    simp only [pyL]
    exact .cons (Rp.dp n _ _ a.1 r) (RpL.dp n _ _ a.2 t)
end
theorem RpB.dp {n : Nat} {v : V} {d : D} (h : okD n d = true) (r : RpB K as O H v d) : Dp K H v (py d) := by
  rcases r with r | ⟨a, e, _, c⟩
  · exact r.dp n _ _ h
  · subst e
    cases c with
    | lst q t =>
      cases n with
      | zero => simp [okD] at h
      | succ n =>
        simp only [py]
        exact .lst (.inl (.inl q)) (RpL.dp n _ _ (by simpa [okD] using h) t)
end
def dEq : D → D → Option D := fun d e => if (okD 60 d && okD 60 e) = true then some (.bl (eqD d e)) else none
def dNe : D → D → Option D := fun d e => if (okD 60 d && okD 60 e) = true then some (.bl (!eqD d e)) else none
theorem od_eq (hu : X.A.units + 64 < cLine) : OpR X (compareOp .Eq) (r2D X.K dEq) := by
  intro pins s σ H x y v u Q I rx ry q
  obtain ⟨as, O, d, e, r, w, rd, re, hg, k⟩ := q
  unfold dEq at hg
  split at hg
  · rename_i hk
    cases hg
    rw [Bool.and_eq_true] at hk
    exact op_eqD hu pins s σ H _ _ v u Q I rx ry ⟨_, _, rd.dp hk.1, re.dp hk.2, ok_shaped (by decide) hk.1, ok_shaped (by decide) hk.2, by rw [eq_py 60 _ _ hk.1 hk.2]; exact k _ H (Same.refl H) (.bl _)⟩
  · cases hg
theorem od_ne (hu : X.A.units + 64 < cLine) : OpR X (compareOp .NotEq) (r2D X.K dNe) := by
  intro pins s σ H x y v u Q I rx ry q
  obtain ⟨as, O, d, e, r, w, rd, re, hg, k⟩ := q
  unfold dNe at hg
  split at hg
  · rename_i hk
    cases hg
    rw [Bool.and_eq_true] at hk
    exact op_neD hu pins s σ H _ _ v u Q I rx ry ⟨_, _, rd.dp hk.1, re.dp hk.2, ok_shaped (by decide) hk.1, ok_shaped (by decide) hk.2, by rw [eq_py 60 _ _ hk.1 hk.2]; exact k _ H (Same.refl H) (.bl _)⟩
  · cases hg
def allInt : List D → Bool
  | [] => true
  | .int _ :: xs => allInt xs
  | _ => false
def inI (i : Int) : List D → Bool
  | [] => false
  | .int j :: xs => (j == i) || inI i xs
  | _ :: xs => inI i xs
def inL (d : D) : List D → Bool
  | [] => false
  | x :: xs => eqD x d || inL d xs
def inB : D → D → Option Bool
  | d, .lst xs => if (okD 60 d && okL 60 xs) = true then some (inL d xs) else none
  | .int i, .tup xs => if allInt xs = true then some (inI i xs) else none
  | .str x, .str y => match x.cps.toList with
    | [c] => some (decide (c ∈ y.cps.toList))
    | _ => none
  | _, _ => none
def dIn : D → D → Option D := fun d e => (inB d e).bind fun b => some (.bl b)
def dNi : D → D → Option D := fun d e => (inB d e).bind fun b => some (.bl (!b))
theorem inL_py {n : Nat} {d : D} (h : okD n d = true) : ∀ (xs : List D), okL n xs = true → ((pyL xs).any fun z => PyData.eqv z (py d)) = inL d xs
  | [], _ => by simp [pyL, inL]
  | x :: xs, h' => by
    have a : okD n x = true ∧ okL n xs = true := by simpa [okL] using h'
    simp only [pyL, List.any_cons, inL]
    rw [eq_py n x d a.1 h, inL_py h xs a.2]
theorem inI_v {K : PySem.W.Frag} {as : List Addr} {O : Addr → Prop} {H : Hp} {i : Int} : ∀ {vs : List V} {xs : List D}, allInt xs = true → RpL K as O H vs xs → inV (.int i) vs = inI i xs ∧ vs.all flatV = true
  | _, [], _, .nil => ⟨rfl, rfl⟩
  | _, .int j :: xs, h, .cons r t => by
    have q := inI_v (i := i) (xs := xs) (by simpa [allInt] using h) t
    cases r
    refine ⟨?_, ?_⟩
    · have q1 := q.1
      unfold inV at q1 ⊢
      rw [List.any_cons, q1, inI]
      rfl
    · rw [List.all_cons, q.2]; rfl
  | _, .non :: _, h, _ | _, .bl _ :: _, h, _ | _, .str _ :: _, h, _ | _, .tup _ :: _, h, _ | _, .lst _ :: _, h, _ | _, .obj _ :: _, h, _ | _, .dct _ :: _, h, _ | _, .scr _ :: _, h, _ => by simp [allInt] at h
theorem str_eq1 {x : Str} {c : Nat} (h : x.cps.toList = [c]) : x = ⟨#[c]⟩ := by
  obtain ⟨a⟩ := x
  have : a = #[c] := by rw [← Array.toArray_toList (xs := a)]; simp only at h; rw [h]
  rw [this]
theorem od_in (hu : X.A.units + 65 < cLine) : OpR X (compareOp .In) (r2D X.K dIn) := by
  intro pins s σ H x y v u Q I rx ry q
  obtain ⟨as, O, d, e, r, w, rd, re, hg, k⟩ := q
  unfold dIn at hg
  obtain ⟨b, hb, hg⟩ := Option.bind_eq_some_iff.mp hg
  cases hg
  have kk := k _ H (Same.refl H) (.bl b)
  unfold inB at hb
  split at hb
  · split at hb
    · rename_i d' xs hk
      cases hb
      rw [Bool.and_eq_true] at hk
      have ho : okD 61 (.lst xs) = true := by simpa [okD] using hk.2
      have dl := re.dp ho
      simp only [py] at dl
      refine op_inD hu pins s σ H _ _ v u Q I rx ry ⟨_, _, rd.dp hk.1, dl, ok_shaped (by decide) hk.1, ?_, by rw [inL_py hk.1 _ hk.2]; exact kk⟩
      have := ok_shaped (n := 61) (by decide) ho
      simpa [py] using this
    · cases hb
  · split at hb
    · rename_i i' xs hk
      cases hb
      obtain ⟨a, vs, rfl, h1, t1⟩ := re.tup
      have z := inI_v (i := i') hk t1
      have e := rd.int
      subst e
      exact op_in_seq pins s σ H _ _ v u Q I rx ry ⟨a, vs, rfl, .inr h1, rfl, z.2, by rw [if_neg (by decide), z.1]; exact kk⟩
    · cases hb
  · split at hb
    · rename_i c hc
      cases hb
      have e := rd.str
      subst e
      have e := re.str
      subst e
      exact op_in_sign pins s σ H _ _ v u Q I rx ry ⟨_, _, by rw [str_eq1 hc], rfl, kk⟩
    · cases hb
  · cases hb
theorem od_ni (hu : X.A.units + 65 < cLine) : OpR X (compareOp .NotIn) (r2D X.K dNi) := by
  intro pins s σ H x y v u Q I rx ry q
  obtain ⟨as, O, d, e, r, w, rd, re, hg, k⟩ := q
  unfold dNi at hg
  obtain ⟨b, hb, hg⟩ := Option.bind_eq_some_iff.mp hg
  cases hg
  have kk := k _ H (Same.refl H) (.bl (!b))
  unfold inB at hb
  split at hb
  · split at hb
    · rename_i d' xs hk
      cases hb
      rw [Bool.and_eq_true] at hk
      have ho : okD 61 (.lst xs) = true := by simpa [okD] using hk.2
      have dl := re.dp ho
      simp only [py] at dl
      refine op_notInD hu pins s σ H _ _ v u Q I rx ry ⟨_, _, rd.dp hk.1, dl, ok_shaped (by decide) hk.1, ?_, by rw [inL_py hk.1 _ hk.2]; exact kk⟩
      have := ok_shaped (n := 61) (by decide) ho
      simpa [py] using this
    · cases hb
  · split at hb
    · rename_i i' xs hk
      cases hb
      obtain ⟨a, vs, rfl, h1, t1⟩ := re.tup
      have z := inI_v (i := i') hk t1
      have e := rd.int
      subst e
      exact op_notIn_seq pins s σ H _ _ v u Q I rx ry ⟨a, vs, rfl, .inr h1, rfl, z.2, by rw [if_pos rfl, z.1]; exact kk⟩
    · cases hb
  · split at hb
    · rename_i c hc
      cases hb
      have e := rd.str
      subst e
      have e := re.str
      subst e
      exact op_notIn_sign pins s σ H _ _ v u Q I rx ry ⟨_, _, by rw [str_eq1 hc], rfl, kk⟩
    · cases hb
  · cases hb
end
end DL
namespace DL
open PySem PySem.Spec PyProof.Rows L2
section
variable {X : Cx} {pos : Pos} {e a b c : Expr} {es : List Expr} {f fa fb : Ev} {fs : Ea} {fc fd : Et} {fr : Bool} {g1 g2 : Sv} {st : Stmt} {sts : List Stmt}
def aS (f : Ev) (fs : Ea) : Ea := fun ρ S => (f ρ S).bind fun p => (match p.1 with
  | .lst xs => some xs
  | .tup xs => some xs
  | _ => none).bind fun xs => (fs ρ p.2).bind fun q => some (xs ++ q.1, q.2)
theorem ma_star {p : Pos} (he : PE X e (tOfB X.K f)) (hr : PA X es (tOfA X.K fs)) (hs : starEach (.Starred e p :: es) X.env = (true, eval e X.env) :: starEach es X.env := by rfl) : PA X (.Starred e p :: es) (tOfA X.K (aS f fs)) :=
  (StX.pa_star he hr hs).weak fun σ H Q q => by
    obtain ⟨as, O, ρ, S, d, S', R, hf, k⟩ := q
    unfold aS at hf
    obtain ⟨⟨d1, S1⟩, h1, hf⟩ := Option.bind_eq_some_iff.mp hf
    obtain ⟨xs, hx, hf⟩ := Option.bind_eq_some_iff.mp hf
    obtain ⟨⟨d2, S2⟩, h2, hf⟩ := Option.bind_eq_some_iff.mp hf
    cases hf
    refine ⟨as, O, ρ, S, d1, S1, R, h1, fun v H1 s1 c1 r1 => ?_⟩
    have R1 := R.step s1 c1
    have fin : ∀ vs, RpL X.K as O H1 vs xs → tOfA X.K fs σ H1 fun ys H2 => Q (vs ++ ys) H2 := fun vs r => ⟨as, O, ρ, S1, d2, S2, R1, h2, fun ys H2 s2 c2 r2 => k _ H2 (s1.trans s2) c2 ((r.stp R1.wf s2).append r2)⟩
    cases d1 with
    | lst ys =>
      cases hx
      obtain ⟨a, vs, rfl, h, t⟩ := r1.lst
      exact ⟨a, vs, rfl, .inr (.inl (.inl h)), fin vs t⟩
    | tup ys =>
      cases hx
      obtain ⟨a, vs, rfl, h, t⟩ := r1.tup
      exact ⟨a, vs, rfl, .inl h, fin vs t⟩
    | _ => cases hx
def ixD (S : List D) : D → D → Option D
  | .lst xs, .int i => atI xs i
  | .tup xs, .int i => atI xs i
  | .str x, .int i => if x.length ≤ 16777216 then (atI x.cps.toList i).bind fun c => some (.str ⟨#[c]⟩) else none
  | .obj k, .int i => match S[k]? with
    | some (.lst xs) => atI xs i
    | _ => none
  | _, _ => none
def rIxD (K : PySem.W.Frag) : R2 := fun x y H Q => ∃ as O d e r S, Wf as O H ∧ Cells K as O H S ∧ RpB K as O H x d ∧ RpB K as O H y e ∧ ixD S d e = some r ∧ ∀ v, Rp K as O H v r → Q v H
theorem RpL.at {K : PySem.W.Frag} {as : List Addr} {O : Addr → Prop} {H : Hp} {vs : List V} {ds : List D} {i : Int} {d : D} (r : RpL K as O H vs ds) (h : atI ds i = some d) : ∃ v, atI vs i = some v ∧ Rp K as O H v d := by
  unfold atI at h ⊢
  rw [Rp.length r]
  obtain ⟨j, h1, h2⟩ := Option.bind_eq_some_iff.mp h
  obtain ⟨v, h3, r3⟩ := r.get h2
  exact ⟨v, by rw [h1]; exact h3, r3⟩
theorem ix_D : IxR X (rIxD X.K) := by
  intro value slice pins s σ H x y v u Q I rx ry q hs
  obtain ⟨as, O, d, e, r, S, w, cc, rd, re, hg, k⟩ := q
  unfold ixD at hg
  split at hg
  · rw [re.int] at ry
    obtain ⟨a, vs, rfl, h, t⟩ := rd.lst
    obtain ⟨z, h1, r1⟩ := t.at hg
    exact ix_list value slice pins s σ H _ _ v u Q I rx ry ⟨a, vs, _, z, rfl, rfl, .inl (.inl h), h1, k z r1⟩ hs
  · rw [re.int] at ry
    obtain ⟨a, vs, rfl, h, t⟩ := rd.tup
    obtain ⟨z, h1, r1⟩ := t.at hg
    exact ix_tup value slice pins s σ H _ _ v u Q I rx ry ⟨a, vs, _, z, rfl, rfl, h, h1, k z r1⟩ hs
  · rw [re.int] at ry
    rw [rd.str] at rx
    split at hg
    · rename_i hl
      obtain ⟨c, h1, hg⟩ := Option.bind_eq_some_iff.mp hg
      cases hg
      exact ix_str value slice pins s σ H _ _ v u Q I rx ry ⟨_, _, c, rfl, rfl, by rw [sizeLine_16]; exact hl, h1, k _ (.str _)⟩ hs
    · cases hg
  · rename_i k' i
    rw [re.int] at ry
    split at hg
    · rename_i xs hx
      rcases rd with rd | ⟨a, _, _, c⟩
      · cases rd with
        | obj ha =>
          cases cc.ix _ _ _ ha hx with
          | lst h t =>
            obtain ⟨z, h1, r1⟩ := t.at hg
            exact ix_list value slice pins s σ H _ _ v u Q I rx ry ⟨_, _, _, z, rfl, rfl, .inl (.inl h), h1, k z r1⟩ hs
      · cases c
    · cases hg
  · cases hg
def eIx (fa fb : Ev) : Ev := fun ρ S => (fa ρ S).bind fun p => (fb ρ p.2).bind fun q => (ixD q.2 p.1 q.1).bind fun r => some (r, q.2)
theorem me_ix (ha : PE X a (tOfB X.K fa)) (hb : PE X b (tOfB X.K fb)) (hs : PlainIx b := by intro _ _; rfl) : PE X (.Subscript a b pos) (tOf X.K (eIx fa fb)) := (pe_ix ix_D ha hb hs).weak fun σ H Q q => by
  obtain ⟨as, O, ρ, S, d, S', R, hf, k⟩ := q
  unfold eIx at hf
  obtain ⟨⟨d1, S1⟩, h1, hf⟩ := Option.bind_eq_some_iff.mp hf
  obtain ⟨⟨d2, S2⟩, h2, hf⟩ := Option.bind_eq_some_iff.mp hf
  obtain ⟨r, h3, hf⟩ := Option.bind_eq_some_iff.mp hf
  cases hf
  refine ⟨as, O, ρ, S, d1, S1, R, h1, fun v H1 s1 c1 r1 => ?_⟩
  have R1 := R.step s1 c1
  refine ⟨as, O, ρ, S1, d2, S2, R1, h2, fun w H2 s2 c2 r2 => ?_⟩
  have R2 := R1.step s2 c2
  exact ⟨as, O, d1, d2, _, S2, R2.wf, c2, r1.stp R1.wf s2, r2, h3, fun v r => k v H2 (s1.trans s2) c2 r⟩
abbrev Eo := List Slot → List D → Option (Option Int × List D)
def tOfO (K : PySem.W.Frag) (f : Eo) : TO := fun σ H Q => ∃ as O ρ S d S', RelE K as O σ H ρ S ∧ f ρ S = some (d, S') ∧ ∀ H', Stp as H H' → Cells K as O H' S' → Q d H'
theorem _root_.L2.PO.weak {X : Cx} {e : Option Expr} {t t' : TO} (h : PO X e t) (k : ∀ σ H Q, t' σ H Q → t σ H Q) : PO X e t' := ⟨fun pins s σ H Q I hw => h.run pins s σ H Q I (k _ _ _ hw)⟩
def oN : Eo := fun _ S => some (none, S)
def oE (f : Ev) : Eo := fun ρ S => (f ρ S).bind fun p => match p.1 with
  | .int i => some (some i, p.2)
  | _ => none
theorem mo_none : PO X none (tOfO X.K oN) := po_none.weak fun σ H Q q => by
  obtain ⟨as, O, ρ, S, d, S', R, hf, k⟩ := q
  cases hf
  exact k H Stp.refl R.cells
theorem mo_some (h : PE X e (tOf X.K f)) : PO X (some e) (tOfO X.K (oE f)) := (po_some h).weak fun σ H Q q => by
  obtain ⟨as, O, ρ, S, d, S', R, hf, k⟩ := q
  unfold oE at hf
  obtain ⟨⟨d1, S1⟩, h1, hf⟩ := Option.bind_eq_some_iff.mp hf
  refine ⟨as, O, ρ, S, d1, S1, R, h1, fun v H1 s1 c1 r1 => ?_⟩
  split at hf
  · rename_i i e
    cases hf
    have e : d1 = .int i := e
    subst e
    cases r1
    exact ⟨i, rfl, k H1 s1 c1⟩
  · cases hf
def cutD (xs : List D) (lo hi : Option Int) : List D := (xs.drop (HT.sIx xs.length 0 lo)).take (HT.sIx xs.length xs.length hi - HT.sIx xs.length 0 lo)
def slD (lo hi : Option Int) : D → Option D
  | .lst xs => some (.lst (cutD xs lo hi))
  | .tup xs => some (.tup (cutD xs lo hi))
  | .str x => if x.length ≤ 16777216 then some (.str (cutS x lo hi)) else none
  | _ => none
theorem RpL.take {K : PySem.W.Frag} {as : List Addr} {O : Addr → Prop} {H : Hp} : ∀ (n : Nat) {a : List V} {c : List D}, RpL K as O H a c → RpL K as O H (a.take n) (c.take n)
  | 0, _, _, _ => by simpa using RpL.nil
  | n + 1, _, _, .nil => by simpa using RpL.nil
  | n + 1, _, _, .cons r t => .cons r (RpL.take n t)
theorem RpL.drop {K : PySem.W.Frag} {as : List Addr} {O : Addr → Prop} {H : Hp} : ∀ (n : Nat) {a : List V} {c : List D}, RpL K as O H a c → RpL K as O H (a.drop n) (c.drop n)
  | 0, _, _, h => h
  | n + 1, _, _, .nil => by simpa using RpL.nil
  | n + 1, _, _, .cons r t => RpL.drop n t
theorem RpL.cut {K : PySem.W.Frag} {as : List Addr} {O : Addr → Prop} {H : Hp} {a : List V} {c : List D} (r : RpL K as O H a c) (lo hi : Option Int) : RpL K as O H (cutV a lo hi) (cutD c lo hi) := by
  unfold cutV cutD
  rw [Rp.length r]
  exact (r.drop _).take _
def rSlD (K : PySem.W.Frag) : V → Option Int → Option Int → Hp → VK → Prop := fun x lo hi H Q => ∃ as O d r, Wf as O H ∧ RpB K as O H x d ∧ slD lo hi d = some r ∧ ∀ v H', Same H H' → Rp K as O H' v r → Q v H'
theorem sl_D : SlR X (rSlD X.K) := by
  intro pins s σ H x v vl vu lo hi sl Q I rx hs pl pu q
  obtain ⟨as, O, d, r, w, rd, hg, k⟩ := q
  unfold slD at hg
  split at hg
  · cases hg
    obtain ⟨a, vs, rfl, h, t⟩ := rd.lst
    refine sl_list pins s σ H _ v vl vu lo hi sl Q I rx hs pl pu ⟨a, vs, rfl, .inl (.inl h), fun p hp => ?_⟩
    have sm := same_new (o := .lst (cutV vs lo hi)) hp
    exact k _ _ sm (.lst (w.nel hp) upd_same ((t.cut lo hi).stp w (Same.stp sm)))
  · cases hg
    obtain ⟨a, vs, rfl, h, t⟩ := rd.tup
    have tc := t.cut lo hi
    refine sl_tupA pins s σ H _ v vl vu lo hi sl Q I rx hs pl pu ⟨a, vs, rfl, h, fun ⟨e1, e2⟩ => ?_, fun _ p hp => ?_⟩
    · have e : cutV vs lo hi = vs := by unfold cutV; rw [e1, e2]; simp
      rw [e] at tc
      exact k _ H (Same.refl H) (.tup h tc)
    · have sm := same_new (o := .tup (cutV vs lo hi)) hp
      exact k _ _ sm (.tup (.inl (.inl upd_same)) (tc.stp w (Same.stp sm)))
  · split at hg
    · rename_i hl
      cases hg
      have e := rd.str
      subst e
      exact sl_str pins s σ H _ v vl vu lo hi sl Q I rx hs pl pu ⟨_, rfl, by rw [sizeLine_16]; exact hl, k _ H (Same.refl H) (.str _)⟩
    · cases hg
  · cases hg
def eSl (fa : Ev) (lo hi : Eo) : Ev := fun ρ S => (fa ρ S).bind fun p => (lo ρ p.2).bind fun q => (hi ρ q.2).bind fun t => (slD q.1 t.1 p.1).bind fun r => some (r, t.2)
theorem me_sl {lo hi : Option Expr} {p2 : Pos} {fl fh : Eo} (ha : PE X a (tOfB X.K fa)) (hl : PO X lo (tOfO X.K fl)) (hh : PO X hi (tOfO X.K fh)) : PE X (.Subscript a (.Slice lo hi none p2) pos) (tOf X.K (eSl fa fl fh)) := (pe_slice sl_D ha hl hh).weak fun σ H Q q => by
  obtain ⟨as, O, ρ, S, d, S', R, hf, k⟩ := q
  unfold eSl at hf
  obtain ⟨⟨d1, S1⟩, h1, hf⟩ := Option.bind_eq_some_iff.mp hf
  obtain ⟨⟨d2, S2⟩, h2, hf⟩ := Option.bind_eq_some_iff.mp hf
  obtain ⟨⟨d3, S3⟩, h3, hf⟩ := Option.bind_eq_some_iff.mp hf
  obtain ⟨r, h4, hf⟩ := Option.bind_eq_some_iff.mp hf
  cases hf
  refine ⟨as, O, ρ, S, d1, S1, R, h1, fun v H1 s1 c1 r1 => ?_⟩
  have R1 := R.step s1 c1
  refine ⟨as, O, ρ, S1, d2, S2, R1, h2, fun H2 s2 c2 => ?_⟩
  have R2 := R1.step s2 c2
  refine ⟨as, O, ρ, S2, d3, S3, R2, h3, fun H3 s3 c3 => ?_⟩
  have R3 := R2.step s3 c3
  exact ⟨as, O, d1, _, R3.wf, (r1.stp R1.wf s2).stp R2.wf s3, h4, fun v H' sm r => k v H' (((s1.trans s2).trans s3).trans (Same.stp sm)) (c3.same R3.wf sm) r⟩
def rC1 (K : PySem.W.Frag) (g : D → Option D) : List V → Hp → VK → Prop := fun xs H Q => ∃ as O d r x, xs = [x] ∧ Wf as O H ∧ RpB K as O H x d ∧ g d = some r ∧ ∀ v H', Same H H' → Rp K as O H' v r → Q v H'
def rC2 (K : PySem.W.Frag) (g : D → D → Option D) : List V → Hp → VK → Prop := fun xs H Q => ∃ as O d e r x y, xs = [x, y] ∧ Wf as O H ∧ RpB K as O H x d ∧ RpB K as O H y e ∧ g d e = some r ∧ ∀ v H', Same H H' → Rp K as O H' v r → Q v H'
def rF1 (K : PySem.W.Frag) (g : D → Option (List D)) : List V → Hp → VK → Prop := fun xs H Q => ∃ as O d r x, xs = [x] ∧ Wf as O H ∧ RpB K as O H x d ∧ g d = some r ∧ ∀ vs p, RpL K as O H vs r → H p = none → Q (.ref p) (upd H p (.lst vs))
theorem c1_weak {K : PySem.W.Frag} {g : D → Option D} {σ : L2.St} {H : Hp} {Q : VK} (q : tOf K (eUn g fa) σ H Q) : tCB (rC1 K g) (tCons (tOfB K fa) tNil) σ H Q := by
  obtain ⟨as, O, ρ, S, d, S', R, hf, k⟩ := q
  unfold eUn at hf
  obtain ⟨⟨d1, S1⟩, h1, hf⟩ := Option.bind_eq_some_iff.mp hf
  obtain ⟨r, h3, hf⟩ := Option.bind_eq_some_iff.mp hf
  cases hf
  refine ⟨as, O, ρ, S, d1, S1, R, h1, fun v H1 s1 c1 r1 => ?_⟩
  have R1 := R.step s1 c1
  exact ⟨as, O, d1, _, v, rfl, R1.wf, r1, h3, fun v H' sm r => k v H' (s1.trans (Same.stp sm)) (c1.same R1.wf sm) r⟩
theorem c2_weak {K : PySem.W.Frag} {g : D → D → Option D} {σ : L2.St} {H : Hp} {Q : VK} (q : tOf K (eBin g fa fb) σ H Q) : tCB (rC2 K g) (tCons (tOfB K fa) (tCons (tOfB K fb) tNil)) σ H Q := by
  obtain ⟨as, O, ρ, S, d, S', R, hf, k⟩ := q
  unfold eBin at hf
  obtain ⟨⟨d1, S1⟩, h1, hf⟩ := Option.bind_eq_some_iff.mp hf
  obtain ⟨⟨d2, S2⟩, h2, hf⟩ := Option.bind_eq_some_iff.mp hf
  obtain ⟨r, h3, hf⟩ := Option.bind_eq_some_iff.mp hf
  cases hf
  refine ⟨as, O, ρ, S, d1, S1, R, h1, fun v H1 s1 c1 r1 => ?_⟩
  have R1 := R.step s1 c1
  refine ⟨as, O, ρ, S1, d2, S2, R1, h2, fun w H2 s2 c2 r2 => ?_⟩
  have R2 := R1.step s2 c2
  exact ⟨as, O, d1, d2, _, v, w, rfl, R2.wf, r1.stp R1.wf s2, r2, h3, fun v H' sm r => k v H' ((s1.trans s2).trans (Same.stp sm)) (c2.same R2.wf sm) r⟩
theorem new_cells {K : PySem.W.Frag} {as : List Addr} {O : Addr → Prop} {H : Hp} {S : List D} {p : Addr} {o : HO} (w : Wf as O H) (cc : Cells K as O H S) (hp : H p = none) : Cells K as (ad O p) (upd H p o) S ∧ ∀ vs ds, RpL K as O H vs ds → RpL K as (ad O p) (upd H p o) vs ds := by
  have sm := same_new (o := o) hp
  have kk : Kp (ad O p) H (upd H p o) := fun a u _ e => sm a u e
  have m1 : ∀ a, ad O p a → Nt (H a) := fun a o => by
    rcases o with o | o
    · exact nt_of_mut (w.mt a o)
    · rw [o, hp]; exact nt_none
  have f : ∀ vs ds, RpL K as O H vs ds → RpL K as (ad O p) (upd H p o) vs ds := fun vs ds r => RpL.kp m1 kk _ _ (RpL.ad hp _ _ r)
  refine ⟨⟨cc.len, fun i a d e1 e2 => ?_⟩, f⟩
  cases cc.ix i a d e1 e2 with
  | lst h r => exact .lst (sm _ _ h) (f _ _ r)
def eUnF (g : D → Option (List D)) (fa : Ev) : Ev := fun ρ S => (fa ρ S).bind fun p => (g p.1).bind fun r => some (.lst r, p.2)
theorem RelE.free {K : PySem.W.Frag} {as : List Addr} {O : Addr → Prop} {σ : L2.St} {H H1 : Hp} {ρ : List Slot} {S S1 : List D} (R : RelE K as O σ H ρ S) (s1 : Stp as H H1) (c1 : Cells K as O H1 S1) {p : Addr} (hp : H1 p = none) : H p = none := by
  have R1 := R.step s1 c1
  cases q : H p with
  | none => rfl
  | some u =>
    by_cases m : p ∈ as
    · exact absurd hp (R1.wf.trk (R1.wf.sub p m))
    · rw [s1 p u m q] at hp; cases hp
theorem f1_weak {K : PySem.W.Frag} {g : D → Option (List D)} {σ : L2.St} {H : Hp} {Q : VK} (q : tOfF K (eUnF g fa) σ H Q) : tCB (rF1 K g) (tCons (tOfB K fa) tNil) σ H Q := by
  obtain ⟨as, O, ρ, S, d, S', R, hf, k⟩ := q
  unfold eUnF at hf
  obtain ⟨⟨d1, S1⟩, h1, hf⟩ := Option.bind_eq_some_iff.mp hf
  obtain ⟨r, h3, hf⟩ := Option.bind_eq_some_iff.mp hf
  cases hf
  refine ⟨as, O, ρ, S, d1, S1, R, h1, fun v H1 s1 c1 r1 => ?_⟩
  have R1 := R.step s1 c1
  refine ⟨as, O, d1, _, v, rfl, R1.wf, r1, h3, fun vs p rv hp => ?_⟩
  have q := new_cells (o := .lst vs) R1.wf c1 hp
  exact k p _ (R.free s1 c1 hp) (s1.trans (Same.stp (same_new hp))) q.1 (.lst upd_same (q.2 _ _ rv))
section
variable {id T : String} {x : Str} {p : Pos}
theorem me_b1 {g : D → Option D} (hc : CallR X (.builtin id) (rC1 X.K g)) (hg : Gl X x) (hm : X.mg x = none) (hv : bootBuiltins x = some (.builtin id)) (ha : PE X a (tOfB X.K fa)) (hn : x ≠ "__name__" := by decide) (hdb : (x == ("__debug__" : Str)) = false := by decide)
    (he : starEach [a] X.env = (false, eval a X.env) :: starEach [] X.env := by rfl) : PE X (.Call (.Name x p) [a] [] pos) (tOf X.K (eUn g fa)) := (pe_callB hc hg hm hv (pa_cons ha pa_nil he) hn hdb he rfl).weak fun _ _ _ => c1_weak
theorem me_t1 {g : D → Option D} (hc : CallR X (.type T) (rC1 X.K g)) (hg : Gl X x) (hm : X.mg x = none) (hv : bootBuiltins x = some (.type T)) (ha : PE X a (tOfB X.K fa)) (hn : x ≠ "__name__" := by decide) (hdb : (x == ("__debug__" : Str)) = false := by decide)
    (he : starEach [a] X.env = (false, eval a X.env) :: starEach [] X.env := by rfl) : PE X (.Call (.Name x p) [a] [] pos) (tOf X.K (eUn g fa)) := (pe_callTy hc hg hm hv (pa_cons ha pa_nil he) hn hdb he rfl).weak fun _ _ _ => c1_weak
theorem me_b2 {g : D → D → Option D} (hc : CallR X (.builtin id) (rC2 X.K g)) (hg : Gl X x) (hm : X.mg x = none) (hv : bootBuiltins x = some (.builtin id)) (ha : PE X a (tOfB X.K fa)) (hb : PE X b (tOfB X.K fb)) (hn : x ≠ "__name__" := by decide) (hdb : (x == ("__debug__" : Str)) = false := by decide)
    (he : starEach [a, b] X.env = (false, eval a X.env) :: starEach [b] X.env := by rfl) (he2 : starEach [b] X.env = (false, eval b X.env) :: starEach [] X.env := by rfl) (hpl : (backTo pos (starEach [b] X.env)).any (·.1) = false := by rfl) : PE X (.Call (.Name x p) [a, b] [] pos) (tOf X.K (eBin g fa fb)) :=
  (pe_callB hc hg hm hv (pa_cons ha (pa_cons hb pa_nil he2) he) hn hdb he hpl).weak fun _ _ _ => c2_weak
theorem mf_b1 {g : D → Option (List D)} (hc : CallR X (.builtin id) (rF1 X.K g)) (hg : Gl X x) (hm : X.mg x = none) (hv : bootBuiltins x = some (.builtin id)) (ha : PE X a (tOfB X.K fa)) (hn : x ≠ "__name__" := by decide) (hdb : (x == ("__debug__" : Str)) = false := by decide)
    (he : starEach [a] X.env = (false, eval a X.env) :: starEach [] X.env := by rfl) : PE X (.Call (.Name x p) [a] [] pos) (tOfF X.K (eUnF g fa)) := (pe_callB hc hg hm hv (pa_cons ha pa_nil he) hn hdb he rfl).weak fun _ _ _ => f1_weak
theorem mf_t1 {g : D → Option (List D)} (hc : CallR X (.type T) (rF1 X.K g)) (hg : Gl X x) (hm : X.mg x = none) (hv : bootBuiltins x = some (.type T)) (ha : PE X a (tOfB X.K fa)) (hn : x ≠ "__name__" := by decide) (hdb : (x == ("__debug__" : Str)) = false := by decide)
    (he : starEach [a] X.env = (false, eval a X.env) :: starEach [] X.env := by rfl) : PE X (.Call (.Name x p) [a] [] pos) (tOfF X.K (eUnF g fa)) := (pe_callTy hc hg hm hv (pa_cons ha pa_nil he) hn hdb he rfl).weak fun _ _ _ => f1_weak
end
def dLen : D → Option D
  | .lst xs => some (.int xs.length)
  | .tup xs => some (.int xs.length)
  | .str x => if x.length ≤ 16777216 then some (.int x.length) else none
  | _ => none
theorem cd_len : CallR X (.builtin "len") (rC1 X.K dLen) := by
  intro pins s σ H xs us Q I r q
  obtain ⟨as, O, d, rr, x, rfl, w, rd, hg, k⟩ := q
  unfold dLen at hg
  split at hg
  · cases hg
    obtain ⟨a, vs, rfl, h, t⟩ := rd.lst
    refine call_len pins s σ H _ us Q I r ⟨_, vs.length, rfl, .inl ⟨vs, .inl (.inl h), rfl⟩, ?_⟩
    rw [Rp.length t]
    exact k _ H (Same.refl H) (.int _)
  · cases hg
    obtain ⟨a, vs, rfl, h, t⟩ := rd.tup
    refine call_len pins s σ H _ us Q I r ⟨_, vs.length, rfl, .inr ⟨vs, h, rfl⟩, ?_⟩
    rw [Rp.length t]
    exact k _ H (Same.refl H) (.int _)
  · split at hg
    · rename_i hl
      cases hg
      have e := rd.str
      subst e
      exact call_len pins s σ H _ us Q I r ⟨_, _, rfl, ⟨by rw [sizeLine_16]; exact hl, rfl⟩, k _ H (Same.refl H) (.int _)⟩
    · cases hg
  · cases hg
def dAbs : D → Option D
  | .int i => some (.int (if i < 0 then -i else i))
  | _ => none
theorem cd_abs : CallR X (.builtin "abs") (rC1 X.K dAbs) := by
  intro pins s σ H xs us Q I r q
  obtain ⟨as, O, d, rr, x, rfl, w, rd, hg, k⟩ := q
  unfold dAbs at hg
  split at hg
  · cases hg
    have e := rd.int
    subst e
    exact call_abs pins s σ H _ us Q I r ⟨_, rfl, k _ H (Same.refl H) (.int _)⟩
  · cases hg
def dInt : D → Option D
  | .int i => some (.int i)
  | .bl k => some (.int (if k then 1 else 0))
  | _ => none
theorem cd_int : CallR X (.type "int") (rC1 X.K dInt) := by
  intro pins s σ H xs us Q I r q
  obtain ⟨as, O, d, rr, x, rfl, w, rd, hg, k⟩ := q
  unfold dInt at hg
  split at hg
  · cases hg
    have e := rd.int
    subst e
    exact call_int1 pins s σ H _ us Q I r (.inl ⟨_, rfl, k _ H (Same.refl H) (.int _)⟩)
  · cases hg
    have e := rd.bl
    subst e
    exact call_int1 pins s σ H _ us Q I r (.inr ⟨_, rfl, k _ H (Same.refl H) (.int _)⟩)
  · cases hg
def dMax2 : D → D → Option D
  | .int i, .int j => some (.int (if j > i then j else i))
  | _, _ => none
def dMin2 : D → D → Option D
  | .int i, .int j => some (.int (if j < i then j else i))
  | _, _ => none
theorem cd_max2 (hc : X.calm = true) : CallR X (.builtin "max") (rC2 X.K dMax2) := by
  intro pins s σ H xs us Q I r q
  obtain ⟨as, O, d, e, rr, x, y, rfl, w, rd, re, hg, k⟩ := q
  unfold dMax2 at hg
  split at hg
  · cases hg
    have e := rd.int
    subst e
    have e := re.int
    subst e
    exact call_max2 hc pins s σ H _ us Q I r ⟨_, _, rfl, k _ H (Same.refl H) (.int _)⟩
  · cases hg
theorem cd_min2 (hc : X.calm = true) : CallR X (.builtin "min") (rC2 X.K dMin2) := by
  intro pins s σ H xs us Q I r q
  obtain ⟨as, O, d, e, rr, x, y, rfl, w, rd, re, hg, k⟩ := q
  unfold dMin2 at hg
  split at hg
  · cases hg
    have e := rd.int
    subst e
    have e := re.int
    subst e
    exact call_min2 hc pins s σ H _ us Q I r ⟨_, _, rfl, k _ H (Same.refl H) (.int _)⟩
  · cases hg
def lOf : D → Option (List D)
  | .lst xs => some xs
  | .tup xs => some xs
  | .scr ns => some (ns.map .int)
  | _ => none
theorem rp_ints {K : PySem.W.Frag} {as : List Addr} {O : Addr → Prop} {H : Hp} : ∀ ns : List Int, RpL K as O H (ns.map V.int) (ns.map D.int)
  | [] => .nil
  | n :: ns => .cons (.int n) (rp_ints ns)
theorem cd_list : CallR X (.type "list") (rF1 X.K lOf) := by
  intro pins s σ H xs us Q I r q
  obtain ⟨as, O, d, rr, x, rfl, w, rd, hg, k⟩ := q
  unfold lOf at hg
  split at hg
  · cases hg
    obtain ⟨a, vs, rfl, h, t⟩ := rd.lst
    exact call_list_of pins s σ H _ us Q I r ⟨a, vs, rfl, .inl (.inl (.inl h)), fun l hl => k vs l t hl⟩
  · cases hg
    obtain ⟨a, vs, rfl, h, t⟩ := rd.tup
    exact call_list_of pins s σ H _ us Q I r ⟨a, vs, rfl, .inr h, fun l hl => k vs l t hl⟩
  · rename_i ns
    cases hg
    rcases rd with rd | ⟨a, _, _, c⟩
    · cases rd with
      | scr h =>
        refine call_list_of pins s σ H _ us Q I r ⟨_, ns.map V.int, rfl, .inl ?_, fun l hl => k _ l (rp_ints ns) hl⟩
        rcases h with h | h
        · exact .inl h.2
        · exact h H
    · cases c
  · cases hg
def dTup : D → Option D
  | .lst xs => some (.tup xs)
  | .tup xs => some (.tup xs)
  | _ => none
theorem cd_tuple : CallR X (.type "tuple") (rC1 X.K dTup) := by
  intro pins s σ H xs us Q I r q
  obtain ⟨as, O, d, rr, x, rfl, w, rd, hg, k⟩ := q
  unfold dTup at hg
  split at hg
  · cases hg
    obtain ⟨a, vs, rfl, h, t⟩ := rd.lst
    refine call_tuple_of pins s σ H _ us Q I r ⟨a, vs, rfl, .inl ⟨.inl (.inl h), fun l hl => ?_⟩⟩
    have sm := same_new (o := .tup vs) hl
    exact k _ _ sm (.tup (.inl (.inl upd_same)) (t.stp w (Same.stp sm)))
  · cases hg
    obtain ⟨a, vs, rfl, h, t⟩ := rd.tup
    exact call_tuple_of pins s σ H _ us Q I r ⟨a, vs, rfl, .inr ⟨h, k _ H (Same.refl H) (.tup h t)⟩⟩
  · cases hg
end
end DL
namespace DL
open PySem PySem.Spec PyProof.Rows L2
section
variable {X : Cx} {pos : Pos} {e a b c : Expr} {es : List Expr} {f fa fb fz : Ev} {fs : Ea} {fc fd : Et} {fr : Bool} {g1 g2 : Sv} {st : Stmt} {sts : List Stmt}
def eChain (g h : D → D → Option D) (fa fb fz : Ev) : Ev := fun ρ S => (fa ρ S).bind fun p => (fb ρ p.2).bind fun q => (g p.1 q.1).bind fun r => match r with
  | .bl true => (fz ρ q.2).bind fun t => (h q.1 t.1).bind fun u => some (u, t.2)
  | .bl false => some (.bl false, q.2)
  | _ => none
theorem chain_weak {K : PySem.W.Frag} {g h : D → D → Option D} {σ : L2.St} {H : Hp} {Q : VK} (q : tOf K (eChain g h fa fb fz) σ H Q) : tChain (r2D K g) (r2D K h) (tOfB K fa) (tOfB K fb) (tOfB K fz) σ H Q := by
  obtain ⟨as, O, ρ, S, d, S', R, hf, k⟩ := q
  unfold eChain at hf
  obtain ⟨⟨d1, S1⟩, h1, hf⟩ := Option.bind_eq_some_iff.mp hf
  obtain ⟨⟨d2, S2⟩, h2, hf⟩ := Option.bind_eq_some_iff.mp hf
  obtain ⟨r, h3, hf⟩ := Option.bind_eq_some_iff.mp hf
  refine ⟨as, O, ρ, S, d1, S1, R, h1, fun v H1 s1 c1 r1 => ?_⟩
  have R1 := R.step s1 c1
  refine ⟨as, O, ρ, S1, d2, S2, R1, h2, fun w H2 s2 c2 r2 => ?_⟩
  have R2 := R1.step s2 c2
  refine ⟨as, O, d1, d2, r, R2.wf, r1.stp R1.wf s2, r2, h3, fun z H3 sm rz => ?_⟩
  have R3 := R2.step (Same.stp sm) (c2.same R2.wf sm)
  split at hf
  · obtain ⟨⟨d4, S4⟩, h4, hf⟩ := Option.bind_eq_some_iff.mp hf
    obtain ⟨u, h5, hf⟩ := Option.bind_eq_some_iff.mp hf
    cases hf
    cases rz
    refine ⟨true, rfl, ?_⟩
    rw [if_pos rfl]
    refine ⟨as, O, ρ, S2, d4, S4, R3, h4, fun w' H4 s4 c4 r4 => ?_⟩
    have R4 := R3.step s4 c4
    exact ⟨as, O, d2, d4, _, R4.wf, (r2.stp R2.wf (Same.stp sm)).stp R3.wf s4, r4, h5, fun v H' sm' r => k v H' ((((s1.trans s2).trans (Same.stp sm)).trans s4).trans (Same.stp sm')) (c4.same R4.wf sm') r⟩
  · cases hf
    cases rz
    refine ⟨false, rfl, ?_⟩
    rw [if_neg (by decide)]
    exact k _ H3 ((s1.trans s2).trans (Same.stp sm)) R3.cells (.bl _)
  · cases hf
theorem me_chain {op op' : CmpOp} {g h : D → D → Option D} (ho : OpR X (compareOp op) (r2D X.K g)) (ho' : OpR X (compareOp op') (r2D X.K h)) (ha : PE X a (tOfB X.K fa)) (hb : PE X b (tOfB X.K fb)) (hc : PE X c (tOfB X.K fz))
    (hm : lastMarks [op, op'] [b, c] = false := by with_unfolding_all rfl) : PE X (.Compare a [op, op'] [b, c] pos) (tOf X.K (eChain g h fa fb fz)) := (pe_chain ho ho' ha hb hc hm).weak fun _ _ _ => chain_weak
theorem mt_chain {op op' : CmpOp} {g h : D → D → Option D} (ho : OpR X (compareOp op) (r2D X.K g)) (ho' : OpR X (compareOp op') (r2D X.K h)) (ha : PE X a (tOfB X.K fa)) (hb : PE X b (tOfB X.K fb)) (hc : PE X c (tOfB X.K fz))
    (hm : lastMarks [op, op'] [b, c] = false := by with_unfolding_all rfl) : PT X (.Compare a [op, op'] [b, c] pos) (tOfT X.K (cV (eChain g h fa fb fz))) := (pt_chain ho ho' ha hb hc hm).weak fun σ H Q q => by
  obtain ⟨as, O, ρ, S, d, S', R, hf, k⟩ := q
  unfold cV at hf
  obtain ⟨⟨d1, S1⟩, h1, hf⟩ := Option.bind_eq_some_iff.mp hf
  refine chain_weak ⟨as, O, ρ, S, d1, S1, R, h1, fun v H' s c r => ?_⟩
  cases r with
  | bl b => cases hf; exact ⟨_, rfl, k H' s c⟩
  | _ => cases hf
def tyn : D → Option String
  | .non => some "NoneType"
  | .bl _ => some "bool"
  | .int _ => some "int"
  | .str _ => some "str"
  | .tup _ => some "tuple"
  | .lst _ => some "list"
  | _ => none
theorem ty_of {K : PySem.W.Frag} {as : List Addr} {O : Addr → Prop} {H : Hp} {v : V} {d : D} {n : String} (r : RpB K as O H v d) (h : tyn d = some n) : TyX K H v (.type n) := by
  cases d with
  | non => cases h; rw [r.non]; exact .base .non
  | bl b => cases h; rw [r.bl]; exact .base (.bl b)
  | int i => cases h; rw [r.int]; exact .base (.int i)
  | str x => cases h; rw [r.str]; exact .base (.str x)
  | tup xs =>
    cases h
    obtain ⟨a, vs, rfl, h, t⟩ := r.tup
    rcases h with (h | ⟨o, h⟩) | ⟨o, _, _, h, hc, _⟩
    · exact .base (.tup h)
    · exact .fTuple h
    · exact .kTuple h hc
  | lst xs =>
    cases h
    obtain ⟨a, vs, rfl, h, t⟩ := r.lst
    exact .base (.lst h)
  | _ => cases h
def isI : D → Option Bool
  | .bl _ => some true
  | .int _ => some true
  | .non => some false
  | .str _ => some false
  | .tup _ => some false
  | .lst _ => some false
  | _ => none
def isBo : D → Option Bool
  | .bl _ => some true
  | .int _ => some false
  | .non => some false
  | .str _ => some false
  | .tup _ => some false
  | .lst _ => some false
  | _ => none
def isS : D → Option Bool
  | .bl _ => some false
  | .int _ => some false
  | .non => some false
  | .str _ => some true
  | .tup _ => some false
  | .lst _ => some false
  | _ => none
def isTp : D → Option Bool
  | .bl _ => some false
  | .int _ => some false
  | .non => some false
  | .str _ => some false
  | .tup _ => some true
  | .lst _ => some false
  | _ => none
def isL : D → Option Bool
  | .bl _ => some false
  | .int _ => some false
  | .non => some false
  | .str _ => some false
  | .tup _ => some false
  | .lst _ => some true
  | _ => none
def isLT : D → Option Bool
  | .bl _ => some false
  | .int _ => some false
  | .non => some false
  | .str _ => some false
  | .tup _ => some true
  | .lst _ => some true
  | _ => none
def Ans (T : String) (p : D → Option Bool) : Prop := ∀ d b, p d = some b → ∃ n, tyn d = some n ∧ kitB n T = some b
theorem ans_int : Ans "int" isI := fun d b h => by
  cases d <;> first | (cases h; exact ⟨_, rfl, by decide +kernel⟩) | cases h
theorem ans_bool : Ans "bool" isBo := fun d b h => by
  cases d <;> first | (cases h; exact ⟨_, rfl, by decide +kernel⟩) | cases h
theorem ans_str : Ans "str" isS := fun d b h => by
  cases d <;> first | (cases h; exact ⟨_, rfl, by decide +kernel⟩) | cases h
theorem ans_tup : Ans "tuple" isTp := fun d b h => by
  cases d <;> first | (cases h; exact ⟨_, rfl, by decide +kernel⟩) | cases h
theorem ans_lst : Ans "list" isL := fun d b h => by
  cases d <;> first | (cases h; exact ⟨_, rfl, by decide +kernel⟩) | cases h
def dIs (p : D → Option Bool) : D → Option D := fun d => (p d).bind fun b => some (.bl b)
section
variable {p q pT p1 : Pos} {T T1 T2 : Str} {t t1 t2 : String}
theorem isi_weak {K : PySem.W.Frag} {g : D → Option Bool} {σ : L2.St} {H : Hp} {Q : VK} (an : Ans t g) (q : tOf K (eUn (dIs g) fa) σ H Q) : tCB (rIsi K) (tCons (tOfB K fa) (tCons (tC (.ty t)) tNil)) σ H Q := by
  obtain ⟨as, O, ρ, S, d, S', R, hf, k⟩ := q
  unfold eUn dIs at hf
  obtain ⟨⟨d1, S1⟩, h1, hf⟩ := Option.bind_eq_some_iff.mp hf
  obtain ⟨r, h2, hf⟩ := Option.bind_eq_some_iff.mp hf
  obtain ⟨b, h3, h2⟩ := Option.bind_eq_some_iff.mp h2
  cases h2
  cases hf
  refine ⟨as, O, ρ, S, d1, S1, R, h1, fun v H1 s1 c1 r1 => ?_⟩
  obtain ⟨n, hn, hk⟩ := an d1 b h3
  exact ⟨v, .ty t, _, _, b, rfl, .ty t, ty_of r1 hn, kit_ty hk, k _ H1 s1 c1 (.bl _)⟩
theorem me_isi {g : D → Option Bool} (an : Ans t g) (hg : Gl X "isinstance") (hm : X.mg "isinstance" = none) (hgT : Gl X T) (hmT : X.mg T = none) (hvT : bootBuiltins T = some (.type t)) (ha : PE X a (tOfB X.K fa))
    (hnT : T ≠ "__name__" := by decide) (hdT : (T == ("__debug__" : Str)) = false := by decide)
    (he : starEach [a, .Name T pT] X.env = (false, eval a X.env) :: starEach [.Name T pT] X.env := by rfl) (hpl : (backTo pos (starEach [.Name T pT] X.env)).any (·.1) = false := by rfl) :
    PE X (.Call (.Name "isinstance" p) [a, .Name T pT] [] pos) (tOf X.K (eUn (dIs g) fa)) :=
  (pe_callB call_isi hg hm boot_isinstance (pa_cons ha (pa_cons (pe_bltn (v := .ty t) hgT hmT hvT rfl hnT hdT) pa_nil rfl) he) (by decide) (by decide) he hpl).weak fun _ _ _ => isi_weak an
theorem isi2_weak {K : PySem.W.Frag} {σ : L2.St} {H : Hp} {Q : VK} (h1 : t1 = "list" ∧ t2 = "tuple" ∨ t1 = "tuple" ∧ t2 = "list") (q : tOf K (eUn (dIs isLT) fa) σ H Q) : tCB (rIsiT K) (tCons (tOfB K fa) (tCons (tTup (tCons (tC (.ty t1)) (tCons (tC (.ty t2)) tNil))) tNil)) σ H Q := by
  obtain ⟨as, O, ρ, S, d, S', R, hf, k⟩ := q
  unfold eUn dIs at hf
  obtain ⟨⟨d1, S1⟩, h2, hf⟩ := Option.bind_eq_some_iff.mp hf
  obtain ⟨r, h3, hf⟩ := Option.bind_eq_some_iff.mp hf
  obtain ⟨b, h4, h3⟩ := Option.bind_eq_some_iff.mp h3
  cases h3
  cases hf
  refine ⟨as, O, ρ, S, d1, S1, R, h2, fun v H1 s1 c1 r1 => ⟨by show 2 ≤ sizeLine; decide, fun tp hp => ?_⟩⟩
  have R1 := R.step s1 c1
  have sm := same_new (o := .tup [.ty t1, .ty t2]) hp
  obtain ⟨n, hn⟩ : ∃ n, tyn d1 = some n := by cases d1 <;> first | exact ⟨_, rfl⟩ | cases h4
  have ty := ty_of (r1.stp R1.wf (Same.stp sm)) hn
  refine ⟨v, tp, [.ty t1, .ty t2], _, [.type t1, .type t2], b, rfl, upd_same, .cons (.ty t1) (.cons (.ty t2) .nil), ty, ?_, k _ _ (s1.trans (Same.stp sm)) (c1.same R1.wf sm) (.bl _)⟩
  have a1 : ∀ b', kitB n t1 = some b' → PySem.W.kitOne K (.type n) (.type t1) = some b' := fun b' h => kit_ty h
  have a2 : ∀ b', kitB n t2 = some b' → PySem.W.kitOne K (.type n) (.type t2) = some b' := fun b' h => kit_ty h
  have fin : ∀ b1 b2, kitB n t1 = some b1 → kitB n t2 = some b2 → (b1 || b2) = b → PySem.W.kitAny K (.type n) [.type t1, .type t2] = some b := fun b1 b2 e1 e2 e => by
    refine kitAny_cons (a1 b1 e1) (fun z => ?_) (fun z => by rw [z] at e; simpa using e.symm)
    refine kitAny_cons (a2 b2 e2) (fun z' => ?_) (fun z' => by rw [z'] at e; simpa using e.symm)
    rw [z, z'] at e
    unfold PySem.W.kitAny
    rw [← e]
    rfl
  obtain ⟨b1, b2, e1, e2, e3⟩ : ∃ b1 b2, isL d1 = some b1 ∧ isTp d1 = some b2 ∧ (b1 || b2) = b := by
    cases d1 <;> first | (cases h4; exact ⟨_, _, rfl, rfl, rfl⟩) | cases h4
  obtain ⟨n1, hn1, k1⟩ := ans_lst d1 b1 e1
  obtain ⟨n2, hn2, k2⟩ := ans_tup d1 b2 e2
  rw [hn] at hn1 hn2
  cases hn1
  cases hn2
  rcases h1 with ⟨rfl, rfl⟩ | ⟨rfl, rfl⟩
  · exact fin _ _ k1 k2 e3
  · exact fin _ _ k2 k1 (by rw [Bool.or_comm]; exact e3)
theorem me_isi2 {x1 : Nat} {pp : Pos} (h12 : t1 = "list" ∧ t2 = "tuple" ∨ t1 = "tuple" ∧ t2 = "list") (hg : Gl X "isinstance") (hm : X.mg "isinstance" = none) (hg1 : Gl X T1) (hm1 : X.mg T1 = none) (hv1 : bootBuiltins T1 = some (.type t1)) (hg2 : Gl X T2) (hm2 : X.mg T2 = none) (hv2 : bootBuiltins T2 = some (.type t2)) (ha : PE X a (tOfB X.K fa))
    (hn1 : T1 ≠ "__name__" := by decide) (hd1 : (T1 == ("__debug__" : Str)) = false := by decide) (hn2 : T2 ≠ "__name__" := by decide) (hd2 : (T2 == ("__debug__" : Str)) = false := by decide)
    (he : starEach [a, .Tuple [.Name T1 pT, .Name T2 p1] x1 pp] X.env = (false, eval a X.env) :: starEach [.Tuple [.Name T1 pT, .Name T2 p1] x1 pp] X.env := by rfl) (hpl : (backTo pos (starEach [.Tuple [.Name T1 pT, .Name T2 p1] x1 pp] X.env)).any (·.1) = false := by rfl) :
    PE X (.Call (.Name "isinstance" p) [a, .Tuple [.Name T1 pT, .Name T2 p1] x1 pp] [] pos) (tOf X.K (eUn (dIs isLT) fa)) :=
  (pe_callB call_isiT hg hm boot_isinstance (pa_cons ha (pa_cons (pe_tup (pa_cons (pe_bltn (v := .ty t1) hg1 hm1 hv1 rfl hn1 hd1) (pa_cons (pe_bltn (v := .ty t2) hg2 hm2 hv2 rfl hn2 hd2) pa_nil rfl) rfl)) pa_nil rfl) he) (by decide) (by decide) he hpl).weak fun _ _ _ => isi2_weak h12
end
def KD (K : PySem.W.Frag) (v : V) (d : D) : Prop := ∀ as O H, Rp K as O H v d
theorem KD.int {K : PySem.W.Frag} (i : Int) : KD K (.int i) (.int i) := fun _ _ _ => .int i
theorem KD.str {K : PySem.W.Frag} (i : Str) : KD K (.str i) (.str i) := fun _ _ _ => .str i
theorem me_glob {x : Str} {v : V} {u : Value} {d : D} (hg : Gl X x) (hm : X.mg x = some u) (r : RelV v u) (kd : KD X.K v d) (hd : (x == ("__debug__" : Str)) = false := by decide) : PE X (.Name x pos) (tOf X.K (eC d)) := me_con (pe_glob hg hm r hd) kd
def sApp (i : Nat) (f : Ev) : Sv := fun ρ S => (f ρ S).bind fun p => match ρ[i]? with
  | some (.own (.lst xs)) => if xs.length < 16777216 then some (.nx (ρ.set i (.own (.lst (xs ++ [p.1])))) p.2) else none
  | _ => none
theorem ms_app (i : Nat) {x : Str} {px apos cpos : Pos} (ho : PE X (.Name x px) (tVar i)) (ha : PE X a (tOf X.K fa))
    (hbase : attributeBase (.Name x px) "append" X.env (eval (.Name x px) X.env) = eval (.Name x px) X.env := by rfl)
    (hfew : ((backTo cpos (starEach [a] X.env)).all (fun x => !x.1) && (backToKw cpos (keywordEach [] X.env)).all (fun x => x.1.isSome)
      && decide ([a].length + ([] : List Keyword).length + (if ([] : List Keyword).isEmpty then 0 else 1) < 30)) = true := by rfl)
    (hline : (apos.endLine == cpos.line) = true := by rfl) (hs : starEach [a] X.env = (false, eval a X.env) :: starEach [] X.env := by rfl) (hplain : (backTo cpos (starEach [] X.env)).any (·.1) = false := by rfl)
    (hsw : swapsWith (.Call (.Attribute (.Name x px) "append" apos) [a] [] cpos) none pos.line X.env = pure false := by rfl) :
    PS X (.Expr (.Call (.Attribute (.Name x px) "append" apos) [a] [] cpos) pos) (tOfS fr X.K (sApp i fa)) :=
  (ps_expr (pe_bm PySem.F.plainAttrs_list PySem.F.slot_list_append PySem.F.type_list_append mt_append ho (pa_cons ha pa_nil hs) hbase hfew hline hs hplain) hsw).weak fun D σ H q => by
    obtain ⟨as, O, B, G, ρ, S, o, R, hf, k⟩ := q
    unfold sApp at hf
    obtain ⟨⟨d1, S1⟩, h1, hf⟩ := Option.bind_eq_some_iff.mp hf
    split at hf
    · rename_i xs hx
      split at hf
      · rename_i hl
        cases hf
        obtain ⟨p, h2, nb, ng, cp⟩ := R.own i _ hx
        cases cp with
        | @lst ws _ hp t =>
          refine ⟨.ref p, h2, .inl ⟨rfl, _, .inl (.inl hp)⟩, as, _, ρ, S, d1, S1, R.e, h1, fun v H1 s1 c1 r1 => ?_⟩
          have R1 := R.step s1 c1
          have hp1 : H1 p = some (.lst ws) := s1 p _ (R.notas nb) hp
          have t1 := t.stp R.wf s1
          have kk : Kp (OO O ρ σ) H1 (upd H1 p (.lst (ws ++ [v]))) := fun b u n e => by
            rw [upd_ne (fun z => n (by rw [z]; exact .inr ⟨i, _, hx, h2⟩))]
            exact e
          refine ⟨p, _, v, rfl, rfl, hp1, by rw [sizeLine_16, Rp.length t1]; exact hl, ?_⟩
          exact k _ _ (R1.mutOwn (o := .lst (ws ++ [v])) hx h2 trivial (.lst upd_same (RpL.kp R1.wf.nt kk _ _ (t1.append (.cons r1 .nil)))))
      · cases hf
    · cases hf
def sIxO (i : Nat) (f fj : Ev) : Sv := fun ρ S => (f ρ S).bind fun p => (fj ρ p.2).bind fun q => match ρ[i]?, q.1 with
  | some (.own (.lst xs)), .int j => (ixN xs.length j).bind fun n => some (.nx (ρ.set i (.own (.lst (xs.set n p.1)))) q.2)
  | _, _ => none
theorem RpL.set {K : PySem.W.Frag} {as : List Addr} {O : Addr → Prop} {H : Hp} {v : V} {d : D} (r : Rp K as O H v d) : ∀ (n : Nat) {vs : List V} {ds : List D}, RpL K as O H vs ds → RpL K as O H (vs.set n v) (ds.set n d)
  | _, _, _, .nil => .nil
  | 0, _, _, .cons _ t => .cons r t
  | n + 1, _, _, .cons q t => .cons q (RpL.set r n t)
theorem ms_ixO (i : Nat) {x : Str} {px tpos : Pos} (ho : PE X (.Name x px) (tVar i)) (hj : PE X b (tOf X.K fb)) (he : PE X e (tOf X.K f))
    (ha : ∀ v, assign (.Subscript (.Name x px) b tpos) X.env v = (do
      let ov ← holding [v] (eval (.Name x px) X.env)
      let iv ← holding [v, ov] (eval b X.env)
      standAt tpos
      holding [v, ov, iv] (setItem ov iv v)
      release [v, ov, iv] []) := by intro _; rfl)
    (hs : swapsWithSole [.Subscript (.Name x px) b tpos] e pos.line X.env = pure false := by rfl) (hw : swappedStores [.Subscript (.Name x px) b tpos] e X.env = pure none := by rfl)
    (h1 : (assignEach [.Subscript (.Name x px) b tpos] X.env).map (·.2) = [assign (.Subscript (.Name x px) b tpos) X.env] := by rfl) :
    PS X (.Assign [.Subscript (.Name x px) b tpos] e pos) (tOfS fr X.K (sIxO i f fb)) :=
  (ps_asg he (pg_sub ho hj set_list ha) hs hw h1).weak fun D σ H q => by
    obtain ⟨as, O, B, G, ρ, S, o, R, hf, k⟩ := q
    unfold sIxO at hf
    obtain ⟨⟨d1, S1⟩, h1, hf⟩ := Option.bind_eq_some_iff.mp hf
    obtain ⟨⟨d2, S2⟩, h2, hf⟩ := Option.bind_eq_some_iff.mp hf
    split at hf
    · rename_i xs j hx hj
      obtain ⟨n, hn, hf⟩ := Option.bind_eq_some_iff.mp hf
      cases hf
      have hj : d2 = .int j := hj
      subst hj
      obtain ⟨p, h3, nb, ng, cp⟩ := R.own i _ hx
      cases cp with
      | @lst ws _ hp t =>
        refine ⟨as, _, ρ, S, d1, S1, R.e, h1, fun v H1 s1 c1 r1 => ⟨.ref p, h3, ?_⟩⟩
        have R1 := R.step s1 c1
        refine ⟨as, _, ρ, S1, .int j, S2, R1.e, h2, fun w H2 s2 c2 r2 => ?_⟩
        have R2 := R1.step s2 c2
        cases r2
        have hp2 : H2 p = some (.lst ws) := s2 p _ (R.notas nb) (s1 p _ (R.notas nb) hp)
        have t2 := (t.stp R.wf s1).stp R1.wf s2
        have r1' := r1.stp R1.wf s2
        have kk : Kp (OO O ρ σ) H2 (upd H2 p (.lst (List.set ws n v))) := fun b u n e => by
          rw [upd_ne (fun z => n (by rw [z]; exact .inr ⟨i, _, hx, h3⟩))]
          exact e
        refine ⟨p, _, j, n, rfl, rfl, hp2, by rw [Rp.length t2]; exact hn, ?_⟩
        exact k _ _ (R2.mutOwn (o := .lst (List.set ws n v)) hx h3 trivial (.lst upd_same (RpL.kp R2.wf.nt kk _ _ (RpL.set r1' n t2))))
    · cases hf
def sIxC (fo f fj : Ev) : Sv := fun ρ S => (f ρ S).bind fun p => (fo ρ p.2).bind fun t => (fj ρ t.2).bind fun q => match t.1, q.1 with
  | .obj k, .int j => match q.2[k]? with
    | some (.lst xs) => (ixN xs.length j).bind fun n => some (.nx ρ (q.2.set k (.lst (xs.set n p.1))))
    | _ => none
  | _, _ => none
theorem ms_ixC {tpos : Pos} {fo : Ev} (ho : PE X a (tOf X.K fo)) (hj : PE X b (tOf X.K fb)) (he : PE X e (tOf X.K f))
    (ha : ∀ v, assign (.Subscript a b tpos) X.env v = (do
      let ov ← holding [v] (eval a X.env)
      let iv ← holding [v, ov] (eval b X.env)
      standAt tpos
      holding [v, ov, iv] (setItem ov iv v)
      release [v, ov, iv] []) := by intro _; rfl)
    (hs : swapsWithSole [.Subscript a b tpos] e pos.line X.env = pure false := by rfl) (hw : swappedStores [.Subscript a b tpos] e X.env = pure none := by rfl)
    (h1 : (assignEach [.Subscript a b tpos] X.env).map (·.2) = [assign (.Subscript a b tpos) X.env] := by rfl) :
    PS X (.Assign [.Subscript a b tpos] e pos) (tOfS fr X.K (sIxC fo f fb)) :=
  (ps_asg he (pg_sub ho hj set_list ha) hs hw h1).weak fun D σ H q => by
    obtain ⟨as, O, B, G, ρ, S, o, R, hf, k⟩ := q
    unfold sIxC at hf
    obtain ⟨⟨d1, S1⟩, h1, hf⟩ := Option.bind_eq_some_iff.mp hf
    obtain ⟨⟨d0, S0⟩, h0, hf⟩ := Option.bind_eq_some_iff.mp hf
    obtain ⟨⟨d2, S2⟩, h2, hf⟩ := Option.bind_eq_some_iff.mp hf
    split at hf
    · rename_i kx j hk hj
      have hk : d0 = .obj kx := hk
      have hj : d2 = .int j := hj
      subst hk hj
      split at hf
      · rename_i xs hx
        obtain ⟨n, hn, hf⟩ := Option.bind_eq_some_iff.mp hf
        cases hf
        refine ⟨as, _, ρ, S, d1, S1, R.e, h1, fun v H1 s1 c1 r1 => ?_⟩
        have R1 := R.step s1 c1
        refine ⟨as, _, ρ, S1, .obj kx, S0, R1.e, h0, fun v0 H3 s3 c3 r3 => ?_⟩
        have R3 := R1.step s3 c3
        refine ⟨as, _, ρ, S0, .int j, S2, R3.e, h2, fun w H2 s2 c2 r2 => ?_⟩
        have R2 := R3.step s2 c2
        cases r2
        cases r3 with
        | @obj p _ hp =>
          have hx : S2[kx]? = some (.lst xs) := hx
          cases c2.ix _ _ _ hp hx with
          | @lst ws _ hq t =>
            have r1' := (r1.stp R1.wf s3).stp R3.wf s2
            have kk : Kp (OO O ρ σ) H2 (upd H2 p (.lst (List.set ws n v))) := fun b u nn e => by
              rw [upd_ne (fun z => nn (by rw [z]; exact .inl (R.sub _ (List.mem_of_getElem? hp))))]
              exact e
            refine ⟨_, _, j, n, rfl, rfl, hq, by rw [Rp.length t]; exact hn, ?_⟩
            exact k _ _ (R2.mutCell (o := .lst (List.set ws n v)) hx hp trivial (.lst upd_same (RpL.kp R2.wf.nt kk _ _ (RpL.set r1' n t))))
      · cases hf
    · cases hf
def sFrz (i : Nat) (g : Sv) : Sv := fun ρ S => match ρ[i]? with
  | some (.own d) => g (ρ.set i (.val d)) S
  | _ => none
theorem mss_frz (i : Nat) (h : PSs X sts (tOfS fr X.K g1)) : PSs X sts (tOfS fr X.K (sFrz i g1)) := h.weak fun D σ H q => by
  obtain ⟨as, O, B, G, ρ, S, o, R, hf, k⟩ := q
  unfold sFrz at hf
  split at hf
  · rename_i d hd
    exact ⟨as, O, B, G, _, S, o, R.freeze hd, hf, k⟩
  · cases hf
def sExp (f : Ev) : Sv := fun ρ S => (f ρ S).bind fun p => some (.nx ρ p.2)
theorem ms_exp (he : PE X e (tOf X.K f)) (hsw : swapsWith e none pos.line X.env = pure false := by rfl) : PS X (.Expr e pos) (tOfS fr X.K (sExp f)) := (ps_expr he hsw).weak fun D σ H q => by
  obtain ⟨as, O, B, G, ρ, S, o, R, hf, k⟩ := q
  unfold sExp at hf
  obtain ⟨⟨d1, S1⟩, h1, hf⟩ := Option.bind_eq_some_iff.mp hf
  cases hf
  exact ⟨as, _, ρ, S, d1, S1, R.e, h1, fun v H1 s1 c1 r1 => k _ _ (R.step s1 c1)⟩
end
end DL
namespace DL
open PySem PySem.Spec PyProof.Rows L2
structure KC (K : PySem.W.Frag) (mgf : Str → Option Value) (x : Str) (d : D) where
  v : V
  u : Value
  mg : mgf x = some u
  rv : RelV v u
  kd : KD K v d
section
variable {P : Program} {w : World} {K : PySem.W.Frag} {mg : Str → Option Value} {base : Heap}
theorem fnM_none {k : Nat} {x : Str} {f : Addr} {fd : FuncData} {ps : List Str} {fr : Bool} (hg : mg x = some (.ref f)) (kp : PySem.W.keepIn K (.ref f) = true) (bd : Binds K fd ps []) : FnM P w K mg base k x f fd ps fr (fun _ _ => none) :=
  ⟨⟨fun _ _ _ _ h => h.1, fun _ _ _ _ _ _ _ _ _ _ _ _ _ h => by
    obtain ⟨_, _, _, _, _, _, _, _, _, _, h, _⟩ := h
    cases h⟩, hg, kp, bd⟩
theorem FnM.mono {k j : Nat} {x : Str} {f : Addr} {fd : FuncData} {ps : List Str} {fr : Bool} {m : List D → List D → Option (D × List D)} (F : FnM P w K mg base j x f fd ps fr m) (h : j ≤ k) : FnM P w K mg base k x f fd ps fr m := ⟨F.ok.mono h, F.mg, F.kp, F.bd⟩
end
theorem hu65 {A : Around} {k : Nat} (hr : Room k A) : A.units + 65 < cLine := by have := hr.un; omega
theorem hu64 {A : Around} {k : Nat} (hr : Room k A) : A.units + 64 < cLine := hr.units
section
variable {X : Cx} {pos pos' : Pos} {e : Expr} {f : Ev} {g1 : Sv} {sts : List Stmt} {i : Nat} {x : Str}
def sCell (i : Nat) (f : Ev) (g : Sv) : Sv := fun ρ S => match S with
  | [] => if i < ρ.length then (f ρ []).bind fun p => match p.2 with
    | [] => (g (ρ.set i (.val (.obj 0))) [p.1]).bind fun o => match o with
      | .rt (.bl b) _ => some (.rt (.bl b) [])
      | _ => none
    | _ => none
    else none
  | _ => none
theorem mss_cell (hN : X.N.Nodup) (hi : X.N[i]? = some x) (hx : Loc X.env.scope x) (he : PE X e (tOfF X.K f)) (hr : PSs X sts (tOfS false X.K g1)) (hs : swapsWith e (some (.Name x pos')) pos.line X.env = pure false := by rfl) (hf : X.fn x = true ∨ X.env.scope.names.lookup x = some .local := by first | exact .inl rfl | exact .inr rfl | assumption) :
    PSs X (.Assign [.Name x pos'] e pos :: sts) (tOfS false X.K (sCell i f g1)) := (pss_cons (ps_set hN hi hx he hs hf) hr).weak fun D σ H q => by
  obtain ⟨as, O, B, G, ρ, S, o, R, hf, k⟩ := q
  have las := R.cells.len
  unfold sCell at hf
  split at hf
  case h_2 => cases hf
  case h_1 =>
  split at hf
  case isFalse => cases hf
  case isTrue hi' =>
  obtain ⟨⟨d1, S1⟩, h1, hf⟩ := Option.bind_eq_some_iff.mp hf
  split at hf
  case h_2 => cases hf
  case h_1 hS1 =>
  have hS1 : S1 = [] := hS1
  subst hS1
  obtain ⟨o1, h2, hf⟩ := Option.bind_eq_some_iff.mp hf
  split at hf
  case h_2 => cases hf
  case h_1 b S2 =>
  cases hf
  have eas : as = [] := List.length_eq_zero_iff.mp las
  subst eas
  refine ⟨[], _, ρ, [], d1, [], R.e, h1, fun p H1 n s1 c1 q1 => ?_⟩
  show tOfS false X.K g1 D (σ.set i (some (.ref p))) H1
  have R1 := R.setOwn (d := d1) i hi' n s1 c1 q1
  refine ⟨[p], ad O p, fun a => B a ∨ a = p, fun a u => G a u ∧ a ≠ p, ρ.set i (.val (.obj 0)), [d1], .rt (.bl b) S2, ?_, h2, ?_⟩
  · have hl : i < σ.length := by rw [R.len]; exact hi'
    have nB : ¬ B p := fun z => R.bt p z n
    have hp1 : Mut (H1 p) := q1.mt
    have sb : ∀ a, OO (ad O p) (ρ.set i (.val (.obj 0))) (σ.set i (some (.ref p))) a → OO O (ρ.set i (.own d1)) (σ.set i (some (.ref p))) a := fun a h => by
      have ownp : OO O (ρ.set i (.own d1)) (σ.set i (some (.ref p))) p := .inr ⟨i, d1, List.getElem?_set_self hi', List.getElem?_set_self hl⟩
      rcases h with h | ⟨j, e, h3, h4⟩
      · rcases h with h | h
        · exact .inl h
        · rw [h]; exact ownp
      · rcases get_set h3 with ⟨rfl, z⟩ | ⟨ne, z⟩
        · cases z
        · exact .inr ⟨j, e, (List.getElem?_set_ne (Ne.symm ne)).trans z, h4⟩
    have an : ∀ {v : V} {d : DL.D}, Rp X.K [] (OO O (ρ.set i (.own d1)) (σ.set i (some (.ref p)))) H1 v d → Rp X.K [p] (OO (ad O p) (ρ.set i (.val (.obj 0))) (σ.set i (some (.ref p)))) H1 v d := fun {v d} r => (rpAs (as := []) (bs := [p]) (fun i a h => by cases i <;> cases h)).1 v d (Rp.anti sb _ _ r)
    have anL : ∀ {v : List V} {d : List DL.D}, RpL X.K [] (OO O (ρ.set i (.own d1)) (σ.set i (some (.ref p)))) H1 v d → RpL X.K [p] (OO (ad O p) (ρ.set i (.val (.obj 0))) (σ.set i (some (.ref p)))) H1 v d := fun {v d} r => (rpAs (as := []) (bs := [p]) (fun i a h => by cases i <;> cases h)).2 v d (RpL.anti sb _ _ r)
    have anC : ∀ {a : Addr} {d : DL.D}, CellR X.K [] (OO O (ρ.set i (.own d1)) (σ.set i (some (.ref p)))) H1 a d → CellR X.K [p] (OO (ad O p) (ρ.set i (.val (.obj 0))) (σ.set i (some (.ref p)))) H1 a d := fun c => by
      cases c with
      | lst h r => exact .lst h (anL r)
    refine ⟨fun a m => .inr (by simpa using m), fun a h => h.elim (fun z => .inl (R.ob a z)) .inr, fun a h => ?_, fun a h => ?_, by simp, fun a u h => R1.g a u h.1, fun a u h m => h.2 (by simpa using m), ⟨rfl, fun j a d e1 e2 => ?_⟩, by simp [R.len], fun j d h => ?_, fun j d h => ?_, fun j k' d e a ne h3 h4 h5 => ?_⟩
    · rcases h with h | h
      · exact R1.bt a h
      · rw [h]; intro z; rw [z] at hp1; exact hp1
    · rcases h with h | h
      · exact R1.mt a h
      · rw [h]; exact hp1
    · cases j with
      | zero =>
        cases e1
        cases e2
        obtain ⟨a', ha', _, _, cc⟩ := R1.own i d1 (List.getElem?_set_self hi')
        rw [List.getElem?_set_self hl] at ha'
        cases ha'
        exact anC cc
      | succ j => cases e1
    · rcases get_set h with ⟨rfl, z⟩ | ⟨ne, z⟩
      · cases z
        exact ⟨.ref p, List.getElem?_set_self hl, .obj rfl⟩
      · obtain ⟨v, h3, r⟩ := R1.val j d ((List.getElem?_set_ne (Ne.symm ne)).trans z)
        exact ⟨v, h3, an r⟩
    · rcases get_set h with ⟨rfl, z⟩ | ⟨ne, z⟩
      · cases z
      · obtain ⟨a, h3, nb, ng, cc⟩ := R1.own j d ((List.getElem?_set_ne (Ne.symm ne)).trans z)
        refine ⟨a, h3, fun z => ?_, fun u z => ng u z.1, anC cc⟩
        rcases z with z | z
        · exact nb z
        · subst z
          exact R1.dist i j d1 d a (Ne.symm ne) (List.getElem?_set_self hi') ((List.getElem?_set_ne (Ne.symm ne)).trans ‹_›) (List.getElem?_set_self hl) h3
    · rcases get_set h3 with ⟨rfl, z⟩ | ⟨ne1, z1⟩
      · cases z
      · rcases get_set h4 with ⟨rfl, z⟩ | ⟨ne2, z2⟩
        · cases z
        · exact R1.dist j k' d e a ne ((List.getElem?_set_ne (Ne.symm ne1)).trans z1) ((List.getElem?_set_ne (Ne.symm ne2)).trans z2) h5
  · intro v H2 g r
    obtain ⟨c2, r2, _⟩ := r
    cases r2
    refine k _ H2 (fun a u z => g a u ⟨z, fun e => ?_⟩) ⟨⟨rfl, fun i a d e1 e2 => by cases e2⟩, .bl b, fun z => (nomatch z)⟩
    subst e
    have := R.g a u z
    rw [n] at this
    cases this
end
def natAt (i : Nat) (ρ : List Slot) : Nat := match ρ[i]? with
  | some (.val (.int k)) => k.natAbs
  | _ => 0
theorem law_end {K : PySem.W.Frag} {H : Hp} {a : Addr} {ns : List Int} {m : List D → List D → Option (D × List D)} (hS : SqL K H a (ns.map V.int)) (h : m [.scr ns] [] = some (.bl true, [])) :
    spM false K 1 m [.ref a] H (fun v _ => v = .bl true) fun _ _ _ => False := by
  refine ⟨rfl, [], fun _ => False, [.scr ns], [], .bl true, [], ⟨fun _ h => (nomatch h), fun _ h => h.elim, List.nodup_nil⟩, ⟨rfl, fun i a d e1 e2 => by cases e2⟩, .cons (.scr ?_) .nil, h, fun v H' _ _ r _ => by cases r; rfl⟩
  rcases hS with hS | ⟨o, its, n, h1, h2⟩
  · exact .inl ⟨fun h => h, hS⟩
  · exact .inr fun H' => .inr ⟨o, its, n, h1, h2⟩
end DL
namespace DL
open PySem PySem.Spec PyProof.Rows L2
section
variable (ρ : List Slot) (S : List D) (i j n : Nat) (d : D) (f fa fb fz : Ev) (fs : Ea) (c c2 : Et) (g g2 : Sv) (p : Pat) (it : Ea) (vs : List Nat)
theorem ev_C : eC d ρ S = some (d, S) := (rfl)
theorem ev_V : eV i ρ S = (match ρ[i]? with | some (.val d) => some (d, S) | _ => none) := (rfl)
theorem ev_B : eB i ρ S = (match ρ[i]? with | some (.val d) => some (d, S) | some (.own d) => some (d, S) | _ => none) := (rfl)
theorem ev_aN : aN ρ S = some ([], S) := (rfl)
theorem ev_aC : aC f fs ρ S = (f ρ S).bind fun p => (fs ρ p.2).bind fun q => some (p.1 :: q.1, q.2) := (rfl)
theorem ev_Tup : eTup fs ρ S = (fs ρ S).bind fun p => if p.1.length ≤ 16777216 then some (.tup p.1, p.2) else none := (rfl)
theorem ev_Lst : eLst fs ρ S = (fs ρ S).bind fun p => if p.1.length ≤ 16777216 then some (.lst p.1, p.2) else none := (rfl)
theorem ev_Bin (h : D → D → Option D) : eBin h fa fb ρ S = (fa ρ S).bind fun p => (fb ρ p.2).bind fun q => (h p.1 q.1).bind fun r => some (r, q.2) := (rfl)
theorem ev_Un (h : D → Option D) : eUn h fa ρ S = (fa ρ S).bind fun p => (h p.1).bind fun r => some (r, p.2) := (rfl)
theorem ev_UnF (h : D → Option (List D)) : eUnF h fa ρ S = (fa ρ S).bind fun p => (h p.1).bind fun r => some (.lst r, p.2) := (rfl)
theorem ev_cV : cV f ρ S = (f ρ S).bind fun p => match p.1 with | .bl b => some (b, p.2) | _ => none := (rfl)
theorem ev_cAnd : cAnd c c2 ρ S = (c ρ S).bind fun p => if p.1 = true then c2 ρ p.2 else some (false, p.2) := (rfl)
theorem ev_cOr : cOr c c2 ρ S = (c ρ S).bind fun p => if p.1 = true then some (true, p.2) else c2 ρ p.2 := (rfl)
theorem ev_cNot : cNot c ρ S = (c ρ S).bind fun p => some (!p.1, p.2) := (rfl)
theorem ev_cYes : cYes ρ S = some (true, S) := (rfl)
theorem ev_And : eAnd fa fb ρ S = (fa ρ S).bind fun p => match p.1 with | .bl true => fb ρ p.2 | .bl false => some (.bl false, p.2) | _ => none := (rfl)
theorem ev_Or : eOr fa fb ρ S = (fa ρ S).bind fun p => match p.1 with | .bl true => some (.bl true, p.2) | .bl false => fb ρ p.2 | _ => none := (rfl)
theorem ev_Not : eNot fa ρ S = (fa ρ S).bind fun p => match p.1 with | .bl b => some (.bl (!b), p.2) | _ => none := (rfl)
theorem ev_If : eIf c fa fb ρ S = (c ρ S).bind fun p => if p.1 = true then fa ρ p.2 else fb ρ p.2 := (rfl)
theorem ev_Chain (h h2 : D → D → Option D) : eChain h h2 fa fb fz ρ S = (fa ρ S).bind fun p => (fb ρ p.2).bind fun q => (h p.1 q.1).bind fun r => match r with
  | .bl true => (fz ρ q.2).bind fun t => (h2 q.1 t.1).bind fun u => some (u, t.2)
  | .bl false => some (.bl false, q.2)
  | _ => none := (rfl)
theorem ev_Call (m : List D → List D → Option (D × List D)) : eCall n m fs ρ S = (fs ρ S).bind fun q => if q.1.length = n then m q.1 q.2 else none := (rfl)
theorem ev_Ix : eIx fa fb ρ S = (fa ρ S).bind fun p => (fb ρ p.2).bind fun q => (ixD q.2 p.1 q.1).bind fun r => some (r, q.2) := (rfl)
theorem ev_Sl (lo hi : Eo) : eSl fa lo hi ρ S = (fa ρ S).bind fun p => (lo ρ p.2).bind fun q => (hi ρ q.2).bind fun t => (slD q.1 t.1 p.1).bind fun r => some (r, t.2) := (rfl)
theorem ev_oN : oN ρ S = some (none, S) := (rfl)
theorem ev_oE : oE f ρ S = (f ρ S).bind fun p => match p.1 with | .int i => some (some i, p.2) | _ => none := (rfl)
theorem ev_aS : aS f fs ρ S = (f ρ S).bind fun p => (match p.1 with | .lst xs => some xs | .tup xs => some xs | _ => none).bind fun xs => (fs ρ p.2).bind fun q => some (xs ++ q.1, q.2) := (rfl)
theorem ev_Comp : eComp p it c f vs ρ S = (it ρ S).bind fun q => if q.1.length ≤ 16777216 then (compL p c f (wipeD ρ vs) q.1 q.2).bind fun t => some (.lst t.1, t.2) else none := (rfl)
theorem ev_iAny : iAny f ρ S = (f ρ S).bind fun q => (seqOf q.1).bind fun xs => some (xs, q.2) := (rfl)
theorem ev_iRange1 : iRange1 fs ρ S = (fs ρ S).bind fun q => match q.1 with | [.int j] => if inWord j = true then some (rangeD 0 j, q.2) else none | _ => none := (rfl)
theorem ev_iRange2 : iRange2 fs ρ S = (fs ρ S).bind fun q => match q.1 with | [.int i, .int j] => if (inWord i && inWord j) = true then some (rangeD i j, q.2) else none | _ => none := (rfl)
theorem ev_iZip : iZip fs ρ S = (fs ρ S).bind fun q => match q.1 with | [d1, d2] => (seqOf d1).bind fun xs => (seqOf d2).bind fun ys => some (zipD xs ys, q.2) | _ => none := (rfl)
theorem ev_iEnum : iEnum fs ρ S = (fs ρ S).bind fun q => match q.1 with | [d1] => (seqOf d1).bind fun xs => some (enumD 0 xs, q.2) | _ => none := (rfl)
theorem ev_sNil : sNil ρ S = some (.nx ρ S) := (rfl)
theorem ev_sSeq : sSeq g g2 ρ S = (g ρ S).bind fun o => match o with | .nx ρ' S' => g2 ρ' S' | o => some o := (rfl)
theorem ev_sIf : sIf c g g2 ρ S = (c ρ S).bind fun p => if p.1 = true then g ρ p.2 else g2 ρ p.2 := (rfl)
theorem ev_sRet : sRet f ρ S = (f ρ S).bind fun p => some (.rt p.1 p.2) := (rfl)
theorem ev_sRetO : sRetO i ρ S = (match ρ[i]? with | some (.own d) => some (.rt d S) | _ => none) := (rfl)
theorem ev_sRetN : sRetN ρ S = some (.rt .non S) := (rfl)
theorem ev_sAsg : sAsg p f ρ S = (f ρ S).bind fun q => (binds p q.1).bind fun l => some (.nx (putD ρ l) q.2) := (rfl)
theorem ev_sSet : sSet i f ρ S = (f ρ S).bind fun q => some (.nx (ρ.set i (.val q.1)) q.2) := (rfl)
theorem ev_sSetO : sSetO i f ρ S = (f ρ S).bind fun q => if i < ρ.length then some (.nx (ρ.set i (.own q.1)) q.2) else none := (rfl)
theorem ev_sPar : sPar i j fa fb ρ S = (fa ρ S).bind fun p => (fb ρ p.2).bind fun q => some (.nx ((ρ.set i (.val p.1)).set j (.val q.1)) q.2) := (rfl)
theorem ev_sFor : sFor p it g ρ S = (it ρ S).bind fun q => forL p g q.1 ρ q.2 := (rfl)
theorem ev_sWhile (nf : List Slot → Nat) : sWhile nf c g ρ S = whileN c g (nf ρ) ρ S := (rfl)
theorem ev_sApp : sApp i f ρ S = (f ρ S).bind fun p => match ρ[i]? with | some (.own (.lst xs)) => if xs.length < 16777216 then some (.nx (ρ.set i (.own (.lst (xs ++ [p.1])))) p.2) else none | _ => none := (rfl)
theorem ev_sIxO (fj : Ev) : sIxO i f fj ρ S = (f ρ S).bind fun p => (fj ρ p.2).bind fun q => match ρ[i]?, q.1 with | some (.own (.lst xs)), .int j => (ixN xs.length j).bind fun n => some (.nx (ρ.set i (.own (.lst (xs.set n p.1)))) q.2) | _, _ => none := (rfl)
theorem ev_sIxC (fo fj : Ev) : sIxC fo f fj ρ S = (f ρ S).bind fun p => (fo ρ p.2).bind fun t => (fj ρ t.2).bind fun q => match t.1, q.1 with
  | .obj k, .int j => match q.2[k]? with
    | some (.lst xs) => (ixN xs.length j).bind fun n => some (.nx ρ (q.2.set k (.lst (xs.set n p.1))))
    | _ => none
  | _, _ => none := (rfl)
theorem ev_sFrz : sFrz i g ρ S = (match ρ[i]? with | some (.own d) => g (ρ.set i (.val d)) S | _ => none) := (rfl)
theorem ev_sExp : sExp f ρ S = (f ρ S).bind fun p => some (.nx ρ p.2) := (rfl)
theorem ev_sPass : sPass ρ S = some (.nx ρ S) := (rfl)
theorem ev_runB (fr : Bool) (N : Nat) (ds : List D) : runB fr N g ds S = (g (ds.map .val ++ List.replicate (N - ds.length) .non) S).bind fun o => match o with
  | .rt d S' => some (d, S')
  | .nx _ S' => if fr = true then none else some (.non, S')
  | _ => none := (rfl)
theorem ev_while (fb' : Sv) : whileN c fb' (n + 1) ρ S = (c ρ S).bind fun q => if q.1 = true then (fb' ρ q.2).bind fun o => match o with
    | .nx ρ' S' => whileN c fb' n ρ' S'
    | .ct ρ' S' => whileN c fb' n ρ' S'
    | .bk ρ' S' => some (.nx ρ' S')
    | .rt d S' => some (.rt d S')
    else some (.nx ρ q.2) := (rfl)
theorem ev_forN : forL p g [] ρ S = some (.nx ρ S) := (rfl)
theorem ev_forC (x : D) (xs : List D) : forL p g (x :: xs) ρ S = (binds p x).bind fun l => (g (putD ρ l) S).bind fun o => match o with
    | .nx ρ' S' => forL p g xs ρ' S'
    | .ct ρ' S' => forL p g xs ρ' S'
    | .bk ρ' S' => some (.nx ρ' S')
    | .rt d S' => some (.rt d S') := (rfl)
theorem ev_compN : compL p c f ρ [] S = some ([], S) := (rfl)
theorem ev_compC (x : D) (xs : List D) : compL p c f ρ (x :: xs) S = (binds p x).bind fun l => (c (putD ρ l) S).bind fun q => if q.1 = true then (f (putD ρ l) q.2).bind fun r => (compL p c f ρ xs r.2).bind fun t => some (r.1 :: t.1, t.2)
    else compL p c f ρ xs q.2 := (rfl)
theorem ev_put0 : putD ρ [] = ρ := (rfl)
theorem ev_put1 (l : List (Nat × D)) : putD ρ ((i, d) :: l) = putD (ρ.set i (.val d)) l := (rfl)
theorem ev_wipe0 : wipeD ρ [] = ρ := (rfl)
theorem ev_wipe1 : wipeD ρ (n :: vs) = (wipeD ρ vs).set n .non := (rfl)
theorem ev_nat (ρ : List Slot) (i : Nat) : natAt i ρ = (match ρ[i]? with | some (.val (.int k)) => k.natAbs | _ => 0) := (rfl)
theorem ev_bnm : binds (.nm i) d = some [(i, d)] := by unfold binds; rfl
theorem ev_btup (ps : List Pat) (ds : List D) : binds (.tup ps) (.tup ds) = bindsL ps ds := by simp only [binds]
theorem ev_bL0 : bindsL [] [] = some [] := by unfold bindsL; rfl
theorem ev_bL1 (ps : List Pat) (ds : List D) : bindsL (p :: ps) (d :: ds) = (binds p d).bind fun a => (bindsL ps ds).bind fun b => some (a ++ b) := by simp only [bindsL]
end
section
variable (a b : Int) (S : List D) (xs ys : List D) (k : Nat)
theorem dv_add : dAdd (.int a) (.int b) = some (.int (a + b)) := (rfl)
theorem dv_sub : dSub (.int a) (.int b) = some (.int (a - b)) := (rfl)
theorem dv_neg : dNeg (.int a) = some (.int (-a)) := (rfl)
theorem dv_mul (h : (small a || small b || (wide a && wide b)) = true) : dMul (.int a) (.int b) = some (.int (a * b)) := by
  show (if (small a || small b || (wide a && wide b)) = true then some (D.int (a * b)) else none) = _
  rw [if_pos h]
theorem dv_mod (h : 0 < b) : dMod (.int a) (.int b) = some (.int (a % b)) := by
  show (if b = 0 then none else some (D.int (a.fmod b))) = _
  rw [if_neg (by omega), Int.fmod_eq_emod_of_nonneg _ (by omega)]
theorem dv_div (h : 0 < b) (w : wide b = true) : dDiv (.int a) (.int b) = some (.int (a / b)) := by
  show (if (decide (0 < b) && wide b) = true then some (D.int (a / b)) else _) = _
  rw [if_pos (by rw [w, Bool.and_true]; exact decide_eq_true h)]
theorem dv_lt : dLt (.int a) (.int b) = some (.bl (decide (a < b))) := (rfl)
theorem dv_le : dLe (.int a) (.int b) = some (.bl (decide (a ≤ b))) := (rfl)
theorem dv_gt : dGt (.int a) (.int b) = some (.bl (decide (b < a))) := (rfl)
theorem dv_ge : dGe (.int a) (.int b) = some (.bl (decide (b ≤ a))) := (rfl)
theorem dv_int : dInt (.int a) = some (.int a) := (rfl)
theorem dv_abs : dAbs (.int a) = some (.int (a.natAbs : Int)) := by unfold dAbs; simp only [Option.some.injEq, D.int.injEq]; split <;> omega
theorem dv_lenL : dLen (.lst xs) = some (.int xs.length) := (rfl)
theorem dv_lenT : dLen (.tup xs) = some (.int xs.length) := (rfl)
theorem dv_tupL : dTup (.lst xs) = some (.tup xs) := (rfl)
theorem dv_tupT : dTup (.tup xs) = some (.tup xs) := (rfl)
theorem dv_lofL : lOf (.lst xs) = some xs := (rfl)
theorem dv_lofT : lOf (.tup xs) = some xs := (rfl)
theorem dv_lofS (ns : List Int) : lOf (.scr ns) = some (ns.map .int) := (rfl)
theorem dv_seqL : seqOf (.lst xs) = some xs := (rfl)
theorem dv_seqT : seqOf (.tup xs) = some xs := (rfl)
theorem dv_ixL : ixD S (.lst xs) (.int a) = atI xs a := (rfl)
theorem dv_ixT : ixD S (.tup xs) (.int a) = atI xs a := (rfl)
theorem dv_ixO : ixD S (.obj k) (.int a) = (match S[k]? with | some (.lst xs) => atI xs a | _ => none) := (rfl)
theorem atI_nat {α : Type} (ys : List α) (n : Nat) : atI ys (n : Int) = ys[n]? := by
  unfold atI ixN
  rw [if_pos (by omega)]
  by_cases h : n < ys.length
  · rw [if_pos (by omega)]; rfl
  · rw [if_neg (by omega), List.getElem?_eq_none (by omega)]; rfl
theorem atI_0 {α : Type} (ys : List α) : atI ys 0 = ys[0]? := atI_nat ys 0
theorem atI_1 {α : Type} (ys : List α) : atI ys 1 = ys[1]? := atI_nat ys 1
theorem atI_2 {α : Type} (ys : List α) : atI ys 2 = ys[2]? := atI_nat ys 2
end
end DL
namespace DL
open PySem PySem.Spec PyProof.Rows L2
theorem forL_inv0 {p : Pat} {g : Sv} (P : List D → List Slot → List D → Prop) (N : Nat) : ∀ (xs pre : List D) (ρ : List Slot) (S : List D), pre.length + xs.length ≤ N → P pre ρ S →
    (∀ pre x ρ S, x ∈ xs → pre.length < N → P pre ρ S → ∃ l ρ' S', binds p x = some l ∧ g (putD ρ l) S = some (.nx ρ' S') ∧ P (pre ++ [x]) ρ' S') →
    ∃ ρ' S', forL p g xs ρ S = some (.nx ρ' S') ∧ P (pre ++ xs) ρ' S'
  | [], pre, ρ, S, _, h, _ => ⟨ρ, S, rfl, by rw [List.append_nil]; exact h⟩
  | x :: xs, pre, ρ, S, hN, h, step => by
    simp only [List.length_cons] at hN
    obtain ⟨l, ρ1, S1, h1, h2, h3⟩ := step pre x ρ S List.mem_cons_self (by omega) h
    obtain ⟨ρ2, S2, h4, h5⟩ := forL_inv0 P N xs (pre ++ [x]) ρ1 S1 (by simp only [List.length_append, List.length_cons, List.length_nil]; omega) h3 (fun pre y ρ S m => step pre y ρ S (List.mem_cons_of_mem _ m))
    refine ⟨ρ2, S2, ?_, by rw [← List.append_cons] at h5; exact h5⟩
    rw [ev_forC, h1, Option.bind_some, h2, Option.bind_some]
    exact h4
theorem forL_inv {p : Pat} {g : Sv} (P : List D → List Slot → List D → Prop) (xs : List D) (ρ : List Slot) (S : List D) (h : P [] ρ S)
    (step : ∀ pre x ρ S, x ∈ xs → pre.length < xs.length → P pre ρ S → ∃ l ρ' S', binds p x = some l ∧ g (putD ρ l) S = some (.nx ρ' S') ∧ P (pre ++ [x]) ρ' S') :
    ∃ ρ' S', forL p g xs ρ S = some (.nx ρ' S') ∧ P xs ρ' S' := by
  have := forL_inv0 P xs.length xs [] ρ S (by simp) h step
  simpa using this
theorem forL_all {p : Pat} {g : Sv} (P : List Slot → List D → Prop) (xs : List D) (ρ : List Slot) (S : List D) (h : P ρ S)
    (step : ∀ x ρ S, x ∈ xs → P ρ S → ∃ l ρ' S', binds p x = some l ∧ (g (putD ρ l) S = some (.nx ρ' S') ∨ g (putD ρ l) S = some (.ct ρ' S')) ∧ P ρ' S') :
    ∃ ρ' S', forL p g xs ρ S = some (.nx ρ' S') ∧ P ρ' S' := by
  induction xs generalizing ρ S with
  | nil => exact ⟨ρ, S, rfl, h⟩
  | cons x xs ih =>
    obtain ⟨l, ρ1, S1, h1, h2, h3⟩ := step x ρ S List.mem_cons_self h
    obtain ⟨ρ2, S2, h4, h5⟩ := ih ρ1 S1 h3 (fun y ρ S m => step y ρ S (List.mem_cons_of_mem _ m))
    refine ⟨ρ2, S2, ?_, h5⟩
    rcases h2 with h2 | h2 <;> (rw [ev_forC, h1, Option.bind_some, h2, Option.bind_some]; exact h4)
theorem forL_fold {α β : Type} {p : Pat} {g : Sv} (e : β → D) (G : α → List Slot) (F : α → β → α) (S : List D) (ok : α → Prop)
    (step : ∀ a x, ok a → ∃ l, binds p (e x) = some l ∧ g (putD (G a) l) S = some (.nx (G (F a x)) S) ∧ ok (F a x)) : ∀ (xs : List β) (a : α), ok a → forL p g (xs.map e) (G a) S = some (.nx (G (xs.foldl F a)) S) ∧ ok (xs.foldl F a)
  | [], a, h => ⟨rfl, h⟩
  | x :: xs, a, h => by
    obtain ⟨l, h1, h2, h3⟩ := step a x h
    rw [List.map_cons, ev_forC, h1, Option.bind_some, h2, Option.bind_some]
    exact forL_fold e G F S ok step xs (F a x) h3
theorem compL_map {β : Type} {p : Pat} {f : Ev} {ρ : List Slot} {S : List D} (e h : β → D) : ∀ (xs : List β), (∀ x ∈ xs, ∃ l, binds p (e x) = some l ∧ f (putD ρ l) S = some (h x, S)) → compL p cYes f ρ (xs.map e) S = some (xs.map h, S)
  | [], _ => rfl
  | x :: xs, H => by
    obtain ⟨l, h1, h2⟩ := H x List.mem_cons_self
    rw [List.map_cons, ev_compC, h1, Option.bind_some, ev_cYes, Option.bind_some]
    simp only [if_true]
    rw [h2, Option.bind_some, compL_map e h xs (fun y m => H y (List.mem_cons_of_mem _ m)), Option.bind_some]
    rfl
theorem compL_filter {β : Type} {p : Pat} {c : Et} {f : Ev} {ρ : List Slot} {S : List D} (e h : β → D) (t : β → Bool) : ∀ (xs : List β), (∀ x ∈ xs, ∃ l, binds p (e x) = some l ∧ c (putD ρ l) S = some (t x, S) ∧ (t x = true → f (putD ρ l) S = some (h x, S))) → compL p c f ρ (xs.map e) S = some ((xs.filter t).map h, S)
  | [], _ => rfl
  | x :: xs, H => by
    obtain ⟨l, h1, h2, h3⟩ := H x List.mem_cons_self
    have ih := compL_filter e h t xs (fun y m => H y (List.mem_cons_of_mem _ m))
    rw [List.map_cons, ev_compC, h1, Option.bind_some, h2, Option.bind_some]
    cases ht : t x with
    | true =>
      simp only [if_true]
      rw [h3 ht, Option.bind_some, ih, Option.bind_some, List.filter_cons_of_pos ht]
      rfl
    | false =>
      simp only [Bool.false_eq_true, if_false]
      rw [ih, List.filter_cons_of_neg (by rw [ht]; decide)]
theorem rangeD_eq (n : Nat) : rangeD 0 (n : Int) = (List.range n).map fun (k : Nat) => D.int (k : Int) := by
  unfold rangeD
  rw [Int.sub_zero, Int.toNat_natCast]
  simp only [Int.zero_add]
theorem pick_of {xs : List D} {k : Int} (h0 : 0 ≤ k) (h1 : k < (xs.length : Int)) : ∃ d, d ∈ xs ∧ atI xs k = some d := by
  obtain ⟨n, rfl⟩ : ∃ n : Nat, k = n := ⟨k.toNat, by omega⟩
  rw [atI_nat]
  have : n < xs.length := by omega
  exact ⟨xs[n], List.getElem_mem _, List.getElem?_eq_getElem this⟩
mutual
theorem eqD_refl : ∀ d : D, okD 1000 d = true → eqD d d = true
  | .non, _ => rfl
  | .bl b, _ => by simp [eqD]
  | .int i, _ => by simp [eqD]
  | .str x, _ => by simp [eqD]
  | .tup xs, h => by
    simp only [eqD]
    exact eqL_refl xs (okL_mono 999 1000 (by decide) xs (by simpa [okD] using h))
  | .lst xs, h => by
    simp only [eqD]
    exact eqL_refl xs (okL_mono 999 1000 (by decide) xs (by simpa [okD] using h))
  | .obj _, h => by simp [okD] at h
  | .dct _, h => by simp [okD] at h
  | .scr _, h => by simp [okD] at h
theorem eqL_refl : ∀ d : List D, okL 1000 d = true → eqL d d = true
  | [], _ => rfl
  | x :: xs, h => by
    have a : okD 1000 x = true ∧ okL 1000 xs = true := by simpa [okL] using h
    simp only [eqL]
    rw [eqD_refl x a.1, eqL_refl xs a.2]
    rfl
theorem okD_mono : ∀ (n m : Nat), n ≤ m → ∀ d : D, okD n d = true → okD m d = true
  | _, _, _, .non, _ => by simp [okD]
  | _, _, _, .bl _, _ => by simp [okD]
  | _, _, _, .int _, _ => by simp [okD]
  | _, _, _, .str _, h => by simpa [okD] using h
  | n + 1, m + 1, h, .tup xs, hd => by
    simp only [okD] at hd ⊢
    exact okL_mono n m (by omega) xs hd
  | n + 1, m + 1, h, .lst xs, hd => by
    simp only [okD] at hd ⊢
    exact okL_mono n m (by omega) xs hd
  | 0, _, _, .tup _, h => by simp [okD] at h
  | 0, _, _, .lst _, h => by simp [okD] at h
  | _ + 1, 0, h, .tup _, _ => by omega
  | _ + 1, 0, h, .lst _, _ => by omega
  | _, _, _, .obj _, h => by simp [okD] at h
  | _, _, _, .dct _, h => by simp [okD] at h
  | _, _, _, .scr _, h => by simp [okD] at h
theorem okL_mono : ∀ (n m : Nat), n ≤ m → ∀ d : List D, okL n d = true → okL m d = true
  | _, _, _, [], _ => by simp [okL]
  | n, m, h, x :: xs, hd => by
    have a : okD n x = true ∧ okL n xs = true := by simpa [okL] using hd
    simp only [okL]
    rw [okD_mono n m h x a.1, okL_mono n m h xs a.2]
    rfl
end
section
variable {ρ ρ' : List Slot} {S S' : List D} {g T a b : Sv} {c : Et} {f fa fb : Ev} {d d2 : D} {o : Out} {i j : Nat} {p : Pat} {it : Ea}
theorem seq_nx (h : g ρ S = some (.nx ρ' S')) : sSeq g T ρ S = T ρ' S' := by rw [ev_sSeq, h, Option.bind_some]
theorem seq_rt (h : g ρ S = some (.rt d S')) : sSeq g T ρ S = some (.rt d S') := by rw [ev_sSeq, h, Option.bind_some]
theorem if_t (h : c ρ S = some (true, S')) : sIf c a b ρ S = a ρ S' := by rw [ev_sIf, h, Option.bind_some]; rfl
theorem if_f (h : c ρ S = some (false, S')) : sIf c a b ρ S = b ρ S' := by rw [ev_sIf, h, Option.bind_some]; rfl
theorem ret_s (h : f ρ S = some (d, S')) : sRet f ρ S = some (.rt d S') := by rw [ev_sRet, h, Option.bind_some]
theorem set_s (h : f ρ S = some (d, S')) : sSet i f ρ S = some (.nx (ρ.set i (.val d)) S') := by rw [ev_sSet, h, Option.bind_some]
theorem par_s {S2 : List D} (h : fa ρ S = some (d, S')) (h2 : fb ρ S' = some (d2, S2)) : sPar i j fa fb ρ S = some (.nx ((ρ.set i (.val d)).set j (.val d2)) S2) := by rw [ev_sPar, h, Option.bind_some, h2, Option.bind_some]
theorem asg_s {l : List (Nat × D)} (h : f ρ S = some (d, S')) (hb : binds p d = some l) : sAsg p f ρ S = some (.nx (putD ρ l) S') := by rw [ev_sAsg, h, Option.bind_some, hb, Option.bind_some]
theorem for_s {ds : List D} (h : it ρ S = some (ds, S')) (h2 : forL p g ds ρ S' = some o) : sFor p it g ρ S = some o := by rw [ev_sFor, h, Option.bind_some]; exact h2
theorem exp_s (h : f ρ S = some (d, S')) : sExp f ρ S = some (.nx ρ S') := by rw [ev_sExp, h, Option.bind_some]
theorem run_rt {fr : Bool} {N : Nat} {ds : List D} (hρ : ds.map .val ++ List.replicate (N - ds.length) .non = ρ) (h : g ρ S = some (.rt d S')) : runB fr N g ds S = some (d, S') := by rw [ev_runB, hρ, h, Option.bind_some]
theorem run_nx {N : Nat} {ds : List D} (hρ : ds.map .val ++ List.replicate (N - ds.length) .non = ρ) (h : g ρ S = some (.nx ρ' S')) : runB false N g ds S = some (.non, S') := by rw [ev_runB, hρ, h, Option.bind_some]; rfl
theorem comp_s {vs : List Nat} {ds : List D} {res : List D} {S2 : List D} (h : it ρ S = some (ds, S')) (hl : ds.length ≤ 16777216) (h2 : compL p c f (wipeD ρ vs) ds S' = some (res, S2)) : eComp p it c f vs ρ S = some (.lst res, S2) := by
  rw [ev_Comp, h, Option.bind_some, if_pos hl, h2, Option.bind_some]
theorem call_s {n : Nat} {m : List D → List D → Option (D × List D)} {fs : Ea} {ds : List D} {r : D × List D} (h : fs ρ S = some (ds, S')) (hn : ds.length = n) (h2 : m ds S' = some r) : eCall n m fs ρ S = some r := by
  rw [ev_Call, h, Option.bind_some, if_pos hn, h2]
theorem bin_s {g : D → D → Option D} {S2 : List D} {r : D} (h : fa ρ S = some (d, S')) (h2 : fb ρ S' = some (d2, S2)) (h3 : g d d2 = some r) : eBin g fa fb ρ S = some (r, S2) := by
  rw [ev_Bin, h, Option.bind_some, h2, Option.bind_some, h3, Option.bind_some]
theorem un_s {g : D → Option D} {r : D} (h : fa ρ S = some (d, S')) (h3 : g d = some r) : eUn g fa ρ S = some (r, S') := by
  rw [ev_Un, h, Option.bind_some, h3, Option.bind_some]
theorem unF_s {g : D → Option (List D)} {r : List D} (h : fa ρ S = some (d, S')) (h3 : g d = some r) : eUnF g fa ρ S = some (.lst r, S') := by
  rw [ev_UnF, h, Option.bind_some, h3, Option.bind_some]
theorem ix_s {S2 : List D} {r : D} (h : fa ρ S = some (d, S')) (h2 : fb ρ S' = some (d2, S2)) (h3 : ixD S2 d d2 = some r) : eIx fa fb ρ S = some (r, S2) := by
  rw [ev_Ix, h, Option.bind_some, h2, Option.bind_some, h3, Option.bind_some]
theorem eif_t (h : c ρ S = some (true, S')) : eIf c fa fb ρ S = fa ρ S' := by rw [ev_If, h, Option.bind_some]; rfl
theorem eif_f (h : c ρ S = some (false, S')) : eIf c fa fb ρ S = fb ρ S' := by rw [ev_If, h, Option.bind_some]; rfl
theorem aC_s {fs : Ea} {ds S2 : List D} (h : f ρ S = some (d, S')) (h2 : fs ρ S' = some (ds, S2)) : aC f fs ρ S = some (d :: ds, S2) := by rw [ev_aC, h, Option.bind_some, h2, Option.bind_some]
theorem tup_s {fs : Ea} {ds : List D} (h : fs ρ S = some (ds, S')) (hl : ds.length ≤ 16777216) : eTup fs ρ S = some (.tup ds, S') := by rw [ev_Tup, h, Option.bind_some, if_pos hl]
theorem lst_s {fs : Ea} {ds : List D} (h : fs ρ S = some (ds, S')) (hl : ds.length ≤ 16777216) : eLst fs ρ S = some (.lst ds, S') := by rw [ev_Lst, h, Option.bind_some, if_pos hl]
theorem cV_s {k : Bool} (h : f ρ S = some (.bl k, S')) : cV f ρ S = some (k, S') := by rw [ev_cV, h, Option.bind_some]
theorem range1_s {fs : Ea} {k : Int} (h : fs ρ S = some ([.int k], S')) (hw : inWord k = true) : iRange1 fs ρ S = some (rangeD 0 k, S') := by rw [ev_iRange1, h, Option.bind_some]; exact if_pos hw
theorem range2_s {fs : Ea} {k l : Int} (h : fs ρ S = some ([.int k, .int l], S')) (hw : inWord k = true) (hw2 : inWord l = true) : iRange2 fs ρ S = some (rangeD k l, S') := by rw [ev_iRange2, h, Option.bind_some]; exact if_pos (by rw [hw, hw2]; rfl)
theorem cNot_s {k : Bool} (h : c ρ S = some (k, S')) : cNot c ρ S = some (!k, S') := by rw [ev_cNot, h, Option.bind_some]
end
end DL
namespace DL
open PySem PySem.Spec PyProof.Rows L2
section
variable {X : Cx} {pos : Pos} {e a b c : Expr} {es : List Expr} {f fa fb fz : Ev} {fs : Ea} {fc fd : Et} {fr : Bool} {g1 g2 : Sv} {st : Stmt} {sts : List Stmt}
def revL : D → Option (List D)
  | .lst xs => some xs.reverse
  | _ => none
theorem RpL.rev {K : PySem.W.Frag} {as : List Addr} {O : Addr → Prop} {H : Hp} : ∀ {vs : List V} {ds : List D}, RpL K as O H vs ds → RpL K as O H vs.reverse ds.reverse
  | _, _, .nil => .nil
  | _, _, .cons r t => by
    rw [List.reverse_cons, List.reverse_cons]
    exact (RpL.rev t).append (.cons r .nil)
theorem mf_rev {k : Nat} {p1 p2 p3 : Pos} (ha : PE X a (tOfB X.K fa)) : PE X (.Subscript a (.Slice none none (some (.UnaryOp .USub (.Constant (.int 1) k p1) p2)) p3) pos) (tOfF X.K (eUnF revL fa)) := (pe_revL ha).weak fun σ H Q q => by
  obtain ⟨as, O, ρ, S, d, S', R, hf, kk⟩ := q
  unfold eUnF at hf
  obtain ⟨⟨d1, S1⟩, h1, hf⟩ := Option.bind_eq_some_iff.mp hf
  obtain ⟨r, h3, hf⟩ := Option.bind_eq_some_iff.mp hf
  cases hf
  refine ⟨as, O, ρ, S, d1, S1, R, h1, fun v H1 s1 c1 r1 => ?_⟩
  have R1 := R.step s1 c1
  unfold revL at h3
  split at h3
  · rename_i xs e
    have e : d1 = .lst xs := e
    subst e
    cases h3
    obtain ⟨p0, vs, rfl, h, t⟩ := RpB.lst r1
    refine ⟨p0, vs, rfl, .inl (.inl h), fun p hp => ?_⟩
    have q := new_cells (o := .lst vs.reverse) R1.wf c1 hp
    exact kk p _ (R.free s1 c1 hp) (s1.trans (Same.stp (same_new hp))) q.1 (.lst upd_same (q.2 _ _ (RpL.rev t)))
  · cases h3
def sPop (i : Nat) (f : Ev) : Sv := fun ρ S => (f ρ S).bind fun p => match ρ[i]?, p.1 with
  | some (.own (.lst xs)), .int j => if -9223372036854775808 ≤ j ∧ j < 9223372036854775808 then (ixN xs.length j).bind fun n => some (.nx (ρ.set i (.own (.lst (xs.eraseIdx n)))) p.2) else none
  | _, _ => none
def sIns (i : Nat) (fj f : Ev) : Sv := fun ρ S => (fj ρ S).bind fun q => (f ρ q.2).bind fun p => match ρ[i]?, q.1 with
  | some (.own (.lst xs)), .int j => if xs.length < 16777216 ∧ 0 ≤ j ∧ j < 9223372036854775808 then some (.nx (ρ.set i (.own (.lst (xs.take j.toNat ++ [p.1] ++ xs.drop j.toNat)))) p.2) else none
  | _, _ => none
theorem RpL.erase {K : PySem.W.Frag} {as : List Addr} {O : Addr → Prop} {H : Hp} : ∀ (n : Nat) {vs : List V} {ds : List D}, RpL K as O H vs ds → RpL K as O H (vs.eraseIdx n) (ds.eraseIdx n)
  | _, _, _, .nil => .nil
  | 0, _, _, .cons _ t => t
  | n + 1, _, _, .cons q t => .cons q (RpL.erase n t)
theorem RpL.tk {K : PySem.W.Frag} {as : List Addr} {O : Addr → Prop} {H : Hp} : ∀ (n : Nat) {vs : List V} {ds : List D}, RpL K as O H vs ds → RpL K as O H (vs.take n) (ds.take n)
  | n, _, _, .nil => by rw [List.take_nil, List.take_nil]; exact .nil
  | 0, _, _, .cons _ t => .nil
  | n + 1, _, _, .cons q t => .cons q (RpL.tk n t)
theorem RpL.dr {K : PySem.W.Frag} {as : List Addr} {O : Addr → Prop} {H : Hp} : ∀ (n : Nat) {vs : List V} {ds : List D}, RpL K as O H vs ds → RpL K as O H (vs.drop n) (ds.drop n)
  | n, _, _, .nil => by rw [List.drop_nil, List.drop_nil]; exact .nil
  | 0, _, _, .cons q t => .cons q t
  | n + 1, _, _, .cons q t => RpL.dr n t
theorem ms_pop (i : Nat) {x : Str} {px apos cpos : Pos} (ho : PE X (.Name x px) (tVar i)) (ha : PE X a (tOf X.K fa))
    (hbase : attributeBase (.Name x px) "pop" X.env (eval (.Name x px) X.env) = eval (.Name x px) X.env := by rfl)
    (hfew : ((backTo cpos (starEach [a] X.env)).all (fun x => !x.1) && (backToKw cpos (keywordEach [] X.env)).all (fun x => x.1.isSome)
      && decide ([a].length + ([] : List Keyword).length + (if ([] : List Keyword).isEmpty then 0 else 1) < 30)) = true := by rfl)
    (hline : (apos.endLine == cpos.line) = true := by rfl) (hs : starEach [a] X.env = (false, eval a X.env) :: starEach [] X.env := by rfl) (hplain : (backTo cpos (starEach [] X.env)).any (·.1) = false := by rfl)
    (hsw : swapsWith (.Call (.Attribute (.Name x px) "pop" apos) [a] [] cpos) none pos.line X.env = pure false := by rfl) :
    PS X (.Expr (.Call (.Attribute (.Name x px) "pop" apos) [a] [] cpos) pos) (tOfS fr X.K (sPop i fa)) :=
  (ps_expr (pe_bm PySem.F.plainAttrs_list PySem.F.slot_list_pop PySem.F.type_list_pop mt_popAt ho (pa_cons ha pa_nil hs) hbase hfew hline hs hplain) hsw).weak fun D σ H q => by
    obtain ⟨as, O, B, G, ρ, S, o, R, hf, k⟩ := q
    unfold sPop at hf
    obtain ⟨⟨d1, S1⟩, h1, hf⟩ := Option.bind_eq_some_iff.mp hf
    split at hf
    · rename_i xs j hx hj
      have hj : d1 = .int j := hj
      subst hj
      split at hf
      · rename_i hl
        obtain ⟨n, hn, hf⟩ := Option.bind_eq_some_iff.mp hf
        cases hf
        obtain ⟨p, h2, nb, ng, cp⟩ := R.own i _ hx
        cases cp with
        | @lst ws _ hp t =>
          refine ⟨.ref p, h2, .inl ⟨rfl, _, .inl (.inl hp)⟩, as, _, ρ, S, .int j, S1, R.e, h1, fun v H1 s1 c1 r1 => ?_⟩
          have R1 := R.step s1 c1
          cases r1
          have hp1 : H1 p = some (.lst ws) := s1 p _ (R.notas nb) hp
          have t1 := t.stp R.wf s1
          have kk : Kp (OO O ρ σ) H1 (upd H1 p (.lst (ws.eraseIdx n))) := fun b u nn e => by
            rw [upd_ne (fun z => nn (by rw [z]; exact .inr ⟨i, _, hx, h2⟩))]
            exact e
          obtain ⟨q1, q2, _⟩ := ixN_seq hn
          have q3 : n < ws.length := by rw [Rp.length t1]; exact q2
          refine ⟨p, _, j, n, ws[n], rfl, rfl, hp1, by omega, by omega, ?_, List.getElem?_eq_getElem q3, ?_⟩
          · rw [Rp.length t1]; exact q1
          exact k _ _ (R1.mutOwn (o := .lst (ws.eraseIdx n)) hx h2 trivial (.lst upd_same (RpL.kp R1.wf.nt kk _ _ (RpL.erase n t1))))
      · cases hf
    · cases hf
theorem ms_ins (i : Nat) {x : Str} {px apos cpos : Pos} (ho : PE X (.Name x px) (tVar i)) (ha : PE X a (tOf X.K fa)) (hb : PE X b (tOf X.K fb))
    (hbase : attributeBase (.Name x px) "insert" X.env (eval (.Name x px) X.env) = eval (.Name x px) X.env := by rfl)
    (hfew : ((backTo cpos (starEach [a, b] X.env)).all (fun x => !x.1) && (backToKw cpos (keywordEach [] X.env)).all (fun x => x.1.isSome)
      && decide ([a, b].length + ([] : List Keyword).length + (if ([] : List Keyword).isEmpty then 0 else 1) < 30)) = true := by rfl)
    (hline : (apos.endLine == cpos.line) = true := by rfl) (hs : starEach [a, b] X.env = (false, eval a X.env) :: starEach [b] X.env := by rfl) (hs2 : starEach [b] X.env = (false, eval b X.env) :: starEach [] X.env := by rfl) (hplain : (backTo cpos (starEach [b] X.env)).any (·.1) = false := by rfl)
    (hsw : swapsWith (.Call (.Attribute (.Name x px) "insert" apos) [a, b] [] cpos) none pos.line X.env = pure false := by rfl) :
    PS X (.Expr (.Call (.Attribute (.Name x px) "insert" apos) [a, b] [] cpos) pos) (tOfS fr X.K (sIns i fa fb)) :=
  (ps_expr (pe_bm PySem.F.plainAttrs_list PySem.F.slot_list_insert PySem.F.type_list_insert mt_insert ho (pa_cons ha (pa_cons hb pa_nil hs2) hs) hbase hfew hline hs hplain) hsw).weak fun D σ H q => by
    obtain ⟨as, O, B, G, ρ, S, o, R, hf, k⟩ := q
    unfold sIns at hf
    obtain ⟨⟨d1, S1⟩, h1, hf1⟩ := Option.bind_eq_some_iff.mp hf
    clear hf
    obtain ⟨⟨d2, S2⟩, h2, hf⟩ := Option.bind_eq_some_iff.mp hf1
    clear hf1
    split at hf
    · rename_i xs j hx hj
      have hj : d1 = .int j := hj
      subst hj
      split at hf
      · rename_i hl
        cases hf
        obtain ⟨p, h3, nb, ng, cp⟩ := R.own i _ hx
        cases cp with
        | @lst ws _ hp t =>
          refine ⟨.ref p, h3, .inl ⟨rfl, _, .inl (.inl hp)⟩, as, _, ρ, S, .int j, S1, R.e, h1, fun v H1 s1 c1 r1 => ?_⟩
          have R1 := R.step s1 c1
          cases r1
          refine ⟨as, _, ρ, S1, d2, S2, R1.e, h2, fun v H2 s2 c2 r2 => ?_⟩
          have R2 := R1.step s2 c2
          have hp2 : H2 p = some (.lst ws) := s2 p _ (R.notas nb) (s1 p _ (R.notas nb) hp)
          have t2 := (t.stp R.wf s1).stp R1.wf s2
          have kk : Kp (OO O ρ σ) H2 (upd H2 p (.lst (ws.take j.toNat ++ [v] ++ ws.drop j.toNat))) := fun b u nn e => by
            rw [upd_ne (fun z => nn (by rw [z]; exact .inr ⟨i, _, hx, h3⟩))]
            exact e
          refine ⟨p, _, j, v, rfl, rfl, hp2, by rw [sizeLine_16, Rp.length t2]; omega, by omega, by omega, ?_⟩
          exact k _ _ (R2.mutOwn (o := .lst (ws.take j.toNat ++ [v] ++ ws.drop j.toNat)) hx h3 trivial (.lst upd_same (RpL.kp R2.wf.nt kk _ _ (((RpL.tk _ t2).append (.cons r2 .nil)).append (RpL.dr _ t2)))))
      · cases hf
    · cases hf
end
section
variable {ρ ρ' : List Slot} {S S' : List D} {f fj : Ev} {i : Nat}
theorem ev_sPop : sPop i f ρ S = (f ρ S).bind fun p => match ρ[i]?, p.1 with | some (.own (.lst xs)), .int j => if -9223372036854775808 ≤ j ∧ j < 9223372036854775808 then (ixN xs.length j).bind fun n => some (.nx (ρ.set i (.own (.lst (xs.eraseIdx n)))) p.2) else none | _, _ => none := (rfl)
theorem ev_sIns : sIns i fj f ρ S = (fj ρ S).bind fun q => (f ρ q.2).bind fun p => match ρ[i]?, q.1 with | some (.own (.lst xs)), .int j => if xs.length < 16777216 ∧ 0 ≤ j ∧ j < 9223372036854775808 then some (.nx (ρ.set i (.own (.lst (xs.take j.toNat ++ [p.1] ++ xs.drop j.toNat)))) p.2) else none | _, _ => none := (rfl)
end
end DL
namespace DL
open PySem PySem.Spec PyProof.Rows L2
def blsD : List D → Option (List Bool)
  | [] => some []
  | .bl b :: xs => (blsD xs).map (b :: ·)
  | _ :: _ => none
theorem blsD_map : ∀ bs : List Bool, blsD (bs.map D.bl) = some bs
  | [] => rfl
  | b :: bs => by
    show (blsD (bs.map D.bl)).map (b :: ·) = _
    rw [blsD_map bs]; rfl
theorem rp_bls {K : PySem.W.Frag} {as : List Addr} {O : Addr → Prop} {H : Hp} : ∀ {vs : List V} {xs : List D} {bs : List Bool}, RpL K as O H vs xs → blsD xs = some bs → vs = bs.map V.bl
  | [], [], bs, .nil, h => by cases h; rfl
  | v :: vs, x :: xs, bs, .cons r t, h => by
    cases x with
    | bl b =>
      have h : (blsD xs).map (b :: ·) = some bs := h
      obtain ⟨cs, h1, h2⟩ := Option.map_eq_some_iff.mp h
      subst h2
      cases r
      rw [rp_bls t h1]; rfl
    | _ => cases h
def dAll : D → Option D
  | .lst xs => (blsD xs).map fun bs => .bl (bs.all id)
  | _ => none
def dAny : D → Option D
  | .lst xs => (blsD xs).map fun bs => .bl (bs.any id)
  | _ => none
def dCount : D → D → Option D
  | .str a, .str b => some (.int (Txt.count a b))
  | _, _ => none
def dIsB : D → D → Option D
  | .bl a, .bl b => some (.bl (decide (a = b)))
  | _, _ => none
section
variable {X : Cx} {pos : Pos} {e a b c : Expr} {es : List Expr} {f fa fb fz : Ev} {fs : Ea} {fc fd : Et} {fr : Bool} {g1 g2 : Sv} {st : Stmt} {sts : List Stmt}
theorem cd_all (hc : X.calm = true) : CallR X (.builtin "all") (rC1 X.K dAll) := by
  intro pins s σ H xs us Q I r q
  obtain ⟨as, O, d, rr, x, rfl, w, rd, hg, k⟩ := q
  unfold dAll at hg
  split at hg
  · obtain ⟨bs, h1, h2⟩ := Option.map_eq_some_iff.mp hg
    subst h2
    obtain ⟨a, vs, rfl, h, t⟩ := rd.lst
    have e := rp_bls t h1
    subst e
    exact cr_all hc pins s σ H _ us Q I r ⟨a, bs, rfl, .inl (.inl h), k _ H (Same.refl H) (.bl _)⟩
  · cases hg
theorem cd_any (hc : X.calm = true) : CallR X (.builtin "any") (rC1 X.K dAny) := by
  intro pins s σ H xs us Q I r q
  obtain ⟨as, O, d, rr, x, rfl, w, rd, hg, k⟩ := q
  unfold dAny at hg
  split at hg
  · obtain ⟨bs, h1, h2⟩ := Option.map_eq_some_iff.mp hg
    subst h2
    obtain ⟨a, vs, rfl, h, t⟩ := rd.lst
    have e := rp_bls t h1
    subst e
    exact cr_any hc pins s σ H _ us Q I r ⟨a, bs, rfl, .inl (.inl h), k _ H (Same.refl H) (.bl _)⟩
  · cases hg
theorem od_isB : OpR X (compareOp .Is) (r2D X.K dIsB) := by
  intro pins s σ H x y v u Q I rx ry q
  obtain ⟨as, O, d, e, r, w, rd, re, hg, k⟩ := q
  unfold dIsB at hg
  split at hg
  · rename_i a b
    cases hg
    have e1 : x = .bl a := by
      rcases rd with rd | ⟨_, _, _, c⟩
      · cases rd; rfl
      · cases c
    have e2 : y = .bl b := by
      rcases re with re | ⟨_, _, _, c⟩
      · cases re; rfl
      · cases c
    subst e1 e2
    exact op_isBl pins s σ H _ _ v u Q I rx ry ⟨a, b, rfl, rfl, k _ H (Same.refl H) (.bl _)⟩
  · cases hg
def rM2 (K : PySem.W.Frag) (g : D → D → Option D) : V → List V → Hp → VK → Prop := fun x xs H Q => ∃ as O d e r y, xs = [y] ∧ Wf as O H ∧ RpB K as O H x d ∧ RpB K as O H y e ∧ g d e = some r ∧ ∀ v H', Same H H' → Rp K as O H' v r → Q v H'
theorem md_count : MtR X "str.count" (rM2 X.K dCount) := by
  intro pins s σ H x xs v us Q I rx rxs q
  obtain ⟨as, O, d, e, r, y, rfl, w, rd, re, hg, k⟩ := q
  unfold dCount at hg
  split at hg
  · cases hg
    have e1 := rd.str
    have e2 := re.str
    subst e1 e2
    exact mt_count pins s σ H _ _ v us Q I rx rxs ⟨_, _, rfl, rfl, k _ H (Same.refl H) (.int _)⟩
  · cases hg
def strD : D → Bool
  | .str _ => true
  | _ => false
def eMs (g : D → D → Option D) (fo fa : Ev) : Ev := fun ρ S => (fo ρ S).bind fun p => if strD p.1 then (fa ρ p.2).bind fun q => (g p.1 q.1).bind fun r => some (r, q.2) else none
theorem me_ms {o : Expr} {fo : Ev} {name : Str} {apos cpos : Pos} {id : String} {g : D → D → Option D} (slot : PySem.Slot "str" name id) (hty : typeOf (.builtin id) = pure (.type "method_descriptor")) (hm : MtR X id (rM2 X.K g)) (ho : PE X o (tOfB X.K fo)) (ha : PE X a (tOfB X.K fa))
    (hbase : attributeBase o name X.env (eval o X.env) = eval o X.env := by rfl)
    (hfew : ((backTo cpos (starEach [a] X.env)).all (fun x => !x.1) && (backToKw cpos (keywordEach [] X.env)).all (fun x => x.1.isSome)
      && decide ([a].length + ([] : List Keyword).length + (if ([] : List Keyword).isEmpty then 0 else 1) < 30)) = true := by rfl)
    (hline : (apos.endLine == cpos.line) = true := by rfl) (hs : starEach [a] X.env = (false, eval a X.env) :: starEach [] X.env := by rfl) (hplain : (backTo cpos (starEach [] X.env)).any (·.1) = false := by rfl) :
    PE X (.Call (.Attribute o name apos) [a] [] cpos) (tOf X.K (eMs g fo fa)) := (pe_bm PySem.F.plainAttrs_str slot hty hm ho (pa_cons ha pa_nil hs) hbase hfew hline hs hplain).weak fun σ H Q q => by
  obtain ⟨as, O, ρ, S, d, S', R, hf, k⟩ := q
  unfold eMs at hf
  obtain ⟨⟨d1, S1⟩, h1, hf1⟩ := Option.bind_eq_some_iff.mp hf
  clear hf
  split at hf1
  · rename_i hstr
    obtain ⟨⟨d2, S2⟩, h2, hf⟩ := Option.bind_eq_some_iff.mp hf1
    obtain ⟨r, h3, hf⟩ := Option.bind_eq_some_iff.mp hf
    cases hf
    refine ⟨as, O, ρ, S, d1, S1, R, h1, fun v H1 s1 c1 r1 => ?_⟩
    have R1 := R.step s1 c1
    obtain ⟨z, rfl⟩ : ∃ z, d1 = .str z := by
      cases d1 <;> first | exact ⟨_, rfl⟩ | cases hstr
    have e1 := RpB.str r1
    subst e1
    refine ⟨rfl, as, O, ρ, S1, d2, S2, R1, h2, fun w H2 s2 c2 r2 => ?_⟩
    have R2 := R1.step s2 c2
    exact ⟨as, O, .str z, d2, _, w, rfl, R2.wf, r1.stp R1.wf s2, r2, h3, fun v H' sm r => k v H' ((s1.trans s2).trans (Same.stp sm)) (c2.same R2.wf sm) r⟩
  · cases hf1
end
section
variable {ρ : List Slot} {S : List D}
theorem ev_Ms {g : D → D → Option D} {fo fa : Ev} : eMs g fo fa ρ S = (fo ρ S).bind fun p => if strD p.1 then (fa ρ p.2).bind fun q => (g p.1 q.1).bind fun r => some (r, q.2) else none := (rfl)
end
end DL
namespace K
open DL
def fr (q : Rat) : Rat := q - q.floor
theorem fr_nonneg (q : Rat) : 0 ≤ fr q := by
  have := Rat.floor_le q
  unfold fr
  grind
theorem fr_lt (q : Rat) : fr q < 1 := by
  have := Rat.lt_floor_add_one q
  unfold fr
  have h : ((q.floor + 1 : Int) : Rat) = (q.floor : Rat) + 1 := by rw [Rat.intCast_add]; rfl
  grind
def Eqv (q r : Rat) : Prop := ∃ n : Int, q = r + n
theorem Eqv.refl (q : Rat) : Eqv q q := ⟨0, by grind⟩
theorem Eqv.symm {q r : Rat} (h : Eqv q r) : Eqv r q := by
  obtain ⟨n, h⟩ := h
  exact ⟨-n, by rw [Rat.intCast_neg]; grind⟩
theorem Eqv.trans {q r s : Rat} (h : Eqv q r) (h' : Eqv r s) : Eqv q s := by
  obtain ⟨n, h⟩ := h
  obtain ⟨m, h'⟩ := h'
  exact ⟨n + m, by rw [Rat.intCast_add]; grind⟩
theorem Eqv.add {q r q' r' : Rat} (h : Eqv q r) (h' : Eqv q' r') : Eqv (q + q') (r + r') := by
  obtain ⟨n, h⟩ := h
  obtain ⟨m, h'⟩ := h'
  exact ⟨n + m, by rw [Rat.intCast_add]; grind⟩
theorem Eqv.mul {q r : Rat} (h : Eqv q r) (k : Int) : Eqv (q * k) (r * k) := by
  obtain ⟨n, h⟩ := h
  exact ⟨n * k, by rw [Rat.intCast_mul]; grind⟩
theorem fr_eqv (q : Rat) : Eqv (fr q) q := ⟨-q.floor, by rw [Rat.intCast_neg]; unfold fr; grind⟩
theorem eqv_eq {q r : Rat} (h : Eqv q r) (h1 : 0 ≤ q) (h2 : q < 1) (h3 : 0 ≤ r) (h4 : r < 1) : q = r := by
  obtain ⟨n, h⟩ := h
  have a : ((-1 : Int) : Rat) < n := by grind
  have b : (n : Rat) < ((1 : Int) : Rat) := by grind
  rw [Rat.intCast_lt_intCast] at a b
  have : n = 0 := by omega
  subst this
  grind
theorem fr_eq_iff {q r : Rat} : fr q = fr r ↔ Eqv q r := by
  constructor
  · intro h
    exact (fr_eqv q).symm.trans (h ▸ fr_eqv r)
  · intro h
    exact eqv_eq (((fr_eqv q).trans h).trans (fr_eqv r).symm) (fr_nonneg q) (fr_lt q) (fr_nonneg r) (fr_lt r)
theorem fr_self {q : Rat} (h1 : 0 ≤ q) (h2 : q < 1) : fr q = q := eqv_eq (fr_eqv q) (fr_nonneg q) (fr_lt q) h1 h2
theorem fr_fr (q : Rat) : fr (fr q) = fr q := fr_self (fr_nonneg q) (fr_lt q)
theorem fr_zero : fr 0 = 0 := fr_self (by decide) (by decide)
def dR (q : Rat) : D := .tup [.int q.num, .int q.den]
theorem dR_inj {q r : Rat} (h : dR q = dR r) : q = r := by
  unfold dR at h
  injection h with h
  injection h with h1 h2
  injection h1 with h1
  injection h2 with h2 _
  injection h2 with h2
  exact Rat.ext h1 (by omega)
theorem den_pos (q : Rat) : (0 : Int) < q.den := by have := q.den_nz; omega
theorem num_div_den (q : Rat) : (q.num : Rat) / (q.den : Rat) = q := by
  have := Rat.num_divInt_den q
  rw [Rat.divInt_eq_div] at this
  exact this
theorem part_q (t b : Int) (hb : 0 < b) : D.tup [.int (t % b / (Int.gcd (t % b) b : Int)), .int (b / (Int.gcd (t % b) b : Int))] = dR (fr ((t : Rat) / (b : Rat))) := by
  have hb' : (b : Rat) ≠ 0 := by
    intro h
    have : b = 0 := by exact_mod_cast Rat.intCast_eq_zero_iff.mp h
    omega
  have e : fr ((t : Rat) / (b : Rat)) = ((t % b : Int) : Rat) / (b : Rat) := by
    have h0 := Int.emod_nonneg t (show b ≠ 0 by omega)
    have h1 := Int.emod_lt_of_pos t hb
    have hbp : (0 : Rat) < b := by
      have : ((0 : Int) : Rat) < b := Rat.intCast_lt_intCast.mpr hb
      exact this
    have h0' : (0 : Rat) ≤ ((t % b : Int) : Rat) := by
      have : ((0 : Int) : Rat) ≤ ((t % b : Int) : Rat) := Rat.intCast_le_intCast.mpr h0
      exact this
    have h1' : ((t % b : Int) : Rat) < b := Rat.intCast_lt_intCast.mpr h1
    refine eqv_eq ((fr_eqv _).trans ⟨t / b, ?_⟩) (fr_nonneg _) (fr_lt _) ?_ ?_
    · have q := Int.emod_add_mul_ediv t b
      have q2 : ((t % b + b * (t / b) : Int) : Rat) = (t : Rat) := by rw [q]
      rw [Rat.intCast_add, Rat.intCast_mul] at q2
      grind
    · rw [Rat.div_def]; exact Rat.mul_nonneg h0' (Rat.le_of_lt (Rat.inv_pos.mpr hbp))
    · rw [Rat.div_lt_iff hbp, Rat.one_mul]; exact h1'
  rw [e, ← Rat.divInt_eq_div]
  unfold dR
  have hg : 0 < b.gcd (t % b) := Int.gcd_pos_of_ne_zero_left _ (by omega)
  rw [Rat.num_divInt, Rat.den_divInt, Int.sign_eq_one_of_pos hb, Int.one_mul, if_neg (by omega), Int.gcd_comm (t % b) b]
  have hd : (b.gcd (t % b) : Int) ∣ b := Int.gcd_dvd_left ..
  have e2 : b / ((b.gcd (t % b) : Nat) : Int) = ((b.natAbs / b.gcd (t % b) : Nat) : Int) := by
    rw [Int.natCast_ediv, Int.natAbs_of_nonneg (by omega)]
  rw [e2]
end K
namespace K
open PySem PySem.Spec PyProof.Rows L2 DL
def topS (i : Nat) : Stmt := PySem.Challenge.pw_unclearhands_k01_clocks_recognized.main.body.getD i (.Pass ⟨0, 0, 0, 0⟩)
def k_FASTEST : D := .int (1000000)
def k_LOOKS : D := .str "abcd"
def g_divisor : Sv :=
  (sSeq (sPar 2 3 (eUn dAbs (eB 0)) (eUn dAbs (eB 1))) (sSeq (sWhile (fun ρ => natAt 3 ρ + 1) (cV (eBin dGt (eB 3) (eC (.int 0)))) (sPar 2 3 (eV 3) (eBin dMod (eB 2) (eB 3)))) (sRet (eV 2))))
def m_divisor : List D → List D → Option (D × List D) := runB false 4 g_divisor
def g_is_integer : Sv :=
  (sRet (eAnd (eUn (dIs isI) (eB 0)) (eAnd (eNot (eUn (dIs isBo) (eB 0))) (eChain dLe dLe (eB 1) (eB 0) (eB 2)))))
def m_is_integer : List D → List D → Option (D × List D) := runB false 3 g_is_integer
def g_are_looks : Sv :=
  (sSeq (sIf (cOr (cNot (cV (eUn (dIs isS) (eB 0)))) (cOr (cV (eBin dNe (eUn dLen (eB 0)) (eB 1))) (cNot (cV (eUn dAll (eComp (.nm 2) (iAny (eV 0)) cYes (eBin dIn (eB 2) (eC k_LOOKS)) [2])))))) (sRet (eC (.bl false))) sNil) (sRet (eUn dAll (eComp (.nm 2) (iAny (eC k_LOOKS)) cYes (eBin dLe (eMs dCount (eB 0) (eB 2)) (eC (.int 3))) [2]))))
def m_are_looks : List D → List D → Option (D × List D) := runB false 3 g_are_looks
def g_law_draw : Sv :=
  (sSeq (sSet 2 (eC (.int 2305843009213693951))) (sSeq (sIf (cV (eBin dLt (eIx (eB 0) (eC (.int 2))) (eB 1))) (sSeq (sSet 3 (eC (.int 0))) (sSeq (sIf (cV (eBin dGt (eUn dLen (eIx (eB 0) (eC (.int 0)))) (eC (.int 0)))) (sSet 3 (eIx (eIx (eB 0) (eC (.int 0))) (eBin dMod (eUn dInt (eIx (eB 0) (eC (.int 1)))) (eUn dLen (eIx (eB 0) (eC (.int 0))))))) sNil) (sSeq (sIf (cOr (cV (eBin dGe (eIx (eB 0) (eC (.int 1))) (eUn dLen (eIx (eB 0) (eC (.int 0)))))) (cV (eBin dLt (eB 3) (eBin dPow (eC (.int 10)) (eC (.int 18)))))) (sSeq (sSet 3 (eBin dMod (eUn dInt (eBin dAdd (eB 3) (eBin dMul (eC (.int 1000003)) (eIx (eB 0) (eC (.int 1)))))) (eB 2))) (sSeq (sSet 3 (eBin dMod (eUn dInt (eBin dAdd (eBin dAdd (eBin dMul (eB 3) (eB 3)) (eBin dMul (eC (.int 1181783497276652981)) (eB 3))) (eC (.int 2049848353892358983)))) (eB 2))) (sSet 3 (eBin dMod (eUn dInt (eBin dAdd (eBin dMul (eB 3) (eB 3)) (eC (.int 1442695040888963407)))) (eB 2))))) sNil) (sSeq (sIxC (eV 0) (eBin dAdd (eIx (eB 0) (eC (.int 1))) (eC (.int 1))) (eC (.int 1))) (sIxC (eV 0) (eV 3) (eC (.int 2))))))) sNil) (sSeq (sSet 4 (eBin dMod (eUn dInt (eIx (eB 0) (eC (.int 2)))) (eB 1))) (sSeq (sIxC (eV 0) (eBin dDiv (eIx (eB 0) (eC (.int 2))) (eB 1)) (eC (.int 2))) (sRet (eV 4))))))
def m_law_draw : List D → List D → Option (D × List D) := runB false 5 g_law_draw
def g_law_whole : Sv :=
  (sRet (eAnd (eUn (dIs isI) (eB 0)) (eNot (eUn (dIs isBo) (eB 0)))))
def m_law_whole : List D → List D → Option (D × List D) := runB false 1 g_law_whole
def g_law_gcd : Sv :=
  (sSeq (sPar 2 3 (eUn dAbs (eB 0)) (eUn dAbs (eB 1))) (sSeq (sWhile (fun ρ => natAt 3 ρ + 1) (cV (eBin dGt (eB 3) (eC (.int 0)))) (sPar 2 3 (eV 3) (eBin dMod (eUn dInt (eB 2)) (eB 3)))) (sRet (eV 2))))
def m_law_gcd : List D → List D → Option (D × List D) := runB false 4 g_law_gcd
def g_common_divisor : Sv :=
  (sSeq (sSet 1 (eC (.int 0))) (sSeq (sFor (.nm 2) (iAny (eV 0)) (sSet 1 (eCall 2 m_divisor (aC (eV 1) (aC (eV 2) aN))))) (sRet (eV 1))))
def m_common_divisor : List D → List D → Option (D × List D) := runB false 3 g_common_divisor
def g_law_within : Sv :=
  (sRet (eAnd (eCall 1 m_law_whole (aC (eV 0) aN)) (eChain dLe dLe (eB 1) (eB 0) (eB 2))))
def m_law_within : List D → List D → Option (D × List D) := runB false 3 g_law_within
def g_law_clock : Sv :=
  (sSeq (sSet 2 (eIx (eLst (aC (eC (.int 2)) (aC (eC (.int 2)) (aC (eC (.int 3)) (aC (eC (.int 2)) (aC (eC (.int 4)) aN)))))) (eCall 2 m_law_draw (aC (eV 0) (aC (eC (.int 5)) aN))))) (sSeq (sSet 3 (eTup aN)) (sSeq (sFor (.nm 4) (iRange1 (aC (eV 2) aN)) (sSeq (sSet 5 (eBin dAdd (eC (.int 1)) (eCall 2 m_law_draw (aC (eV 0) (aC (eV 1) aN))))) (sSet 3 (eBin dAdd (eB 3) (eTup (aC (eIf (cV (eBin dEq (eCall 2 m_law_draw (aC (eV 0) (aC (eC (.int 5)) aN))) (eC (.int 0)))) (eUn dNeg (eB 5)) (eV 5)) aN)))))) (sSeq (sSet 6 (eC (.int 0))) (sSeq (sFor (.nm 5) (iAny (eV 3)) (sSet 6 (eCall 2 m_law_gcd (aC (eV 6) (aC (eV 5) aN))))) (sSeq (sSet 3 (eUn dTup (eComp (.nm 5) (iAny (eV 3)) cYes (eBin dDiv (eB 5) (eB 6)) [5]))) (sSeq (sSet 7 (eSl (eIx (eLst (aC (eC (.str "aaab")) (aC (eC (.str "aabb")) (aC (eC (.str "aabc")) (aC (eC (.str "abcd")) (aC (eC (.str "abab")) aN)))))) (eCall 2 m_law_draw (aC (eV 0) (aC (eC (.int 5)) aN)))) oN (oE (eV 2)))) (sSeq (sSet 7 (eIf (cAnd (cV (eBin dLt (eB 2) (eC (.int 4)))) (cV (eBin dGt (eCall 2 m_law_draw (aC (eV 0) (aC (eC (.int 3)) aN))) (eC (.int 0))))) (eSl (eC (.str "aaa")) oN (oE (eV 2))) (eV 7))) (sRet (eTup (aC (eV 3) (aC (eV 7) (aC (eIx (eLst (aC (eC (.int 1)) (aC (eC (.int 1)) (aC (eC (.int 1)) (aC (eC (.int 2)) (aC (eC (.int 3)) (aC (eC (.int 4)) aN))))))) (eCall 2 m_law_draw (aC (eV 0) (aC (eC (.int 6)) aN)))) aN)))))))))))))
def m_law_clock : List D → List D → Option (D × List D) := runB false 8 g_law_clock
def g_are_hands : Sv :=
  (sSeq (sIf (cOr (cNot (cV (eUn (dIs isTp) (eB 0)))) (cNot (cV (eChain dLe dLe (eC (.int 2)) (eUn dLen (eB 0)) (eC (.int 4)))))) (sRet (eC (.bl false))) sNil) (sSeq (sIf (cNot (cV (eUn dAll (eComp (.nm 1) (iAny (eV 0)) cYes (eAnd (eCall 3 m_is_integer (aC (eV 1) (aC (eUn dNeg (eC k_FASTEST)) (aC (eC k_FASTEST) aN)))) (eBin dNe (eB 1) (eC (.int 0)))) [1])))) (sRet (eC (.bl false))) sNil) (sRet (eBin dEq (eCall 1 m_common_divisor (aC (eV 0) aN)) (eC (.int 1))))))
def m_are_hands : List D → List D → Option (D × List D) := runB false 2 g_are_hands
def g_law_is_clock : Sv :=
  (sSeq (sIf (cOr (cNot (cV (eUn (dIs isTp) (eB 0)))) (cV (eBin dNe (eUn dLen (eB 0)) (eC (.int 3))))) (sRet (eC (.bl false))) sNil) (sSeq (sIf (cOr (cNot (cV (eUn (dIs isTp) (eIx (eB 0) (eC (.int 0)))))) (cNot (cV (eChain dLt dLt (eC (.int 1)) (eUn dLen (eIx (eB 0) (eC (.int 0)))) (eC (.int 5)))))) (sRet (eC (.bl false))) sNil) (sSeq (sSet 1 (eC (.int 0))) (sSeq (sFor (.nm 2) (iAny (eIx (eB 0) (eC (.int 0)))) (sSeq (sIf (cOr (cNot (cV (eCall 3 m_law_within (aC (eV 2) (aC (eUn dNeg (eBin dPow (eC (.int 10)) (eC (.int 6)))) (aC (eBin dPow (eC (.int 10)) (eC (.int 6))) aN)))))) (cV (eBin dEq (eB 2) (eC (.int 0))))) (sRet (eC (.bl false))) sNil) (sSet 1 (eCall 2 m_law_gcd (aC (eV 1) (aC (eV 2) aN)))))) (sSeq (sIf (cOr (cV (eBin dNe (eB 1) (eC (.int 1)))) (cOr (cNot (cV (eUn (dIs isS) (eIx (eB 0) (eC (.int 1)))))) (cV (eBin dNe (eUn dLen (eIx (eB 0) (eC (.int 1)))) (eUn dLen (eIx (eB 0) (eC (.int 0)))))))) (sRet (eC (.bl false))) sNil) (sSeq (sIf (cV (eBin dNe (eComp (.nm 3) (iAny (eIx (eB 0) (eC (.int 1)))) (cOr (cV (eBin dNi (eB 3) (eLst (aC (eC (.str "a")) (aC (eC (.str "b")) (aC (eC (.str "c")) (aC (eC (.str "d")) aN))))))) (cV (eBin dGt (eMs dCount (eIx (eB 0) (eC (.int 1))) (eB 3)) (eC (.int 3))))) (eV 3) [3]) (eLst aN))) (sRet (eC (.bl false))) sNil) (sRet (eCall 3 m_law_within (aC (eIx (eB 0) (eC (.int 2))) (aC (eC (.int 1)) (aC (eC (.int 6)) aN)))))))))))
def m_law_is_clock : List D → List D → Option (D × List D) := runB false 4 g_law_is_clock
def g_is_clock : Sv :=
  (sSeq (sIf (cOr (cNot (cV (eUn (dIs isTp) (eB 0)))) (cOr (cV (eBin dNe (eUn dLen (eB 0)) (eC (.int 3)))) (cNot (cV (eCall 1 m_are_hands (aC (eIx (eB 0) (eC (.int 0))) aN)))))) (sRet (eC (.bl false))) sNil) (sRet (eAnd (eCall 2 m_are_looks (aC (eIx (eB 0) (eC (.int 1))) (aC (eUn dLen (eIx (eB 0) (eC (.int 0)))) aN))) (eCall 3 m_is_integer (aC (eIx (eB 0) (eC (.int 2))) (aC (eC (.int 1)) (aC (eC (.int 6)) aN)))))))
def m_is_clock : List D → List D → Option (D × List D) := runB false 1 g_is_clock
def g_law_any (m : List D → List D → Option (D × List D)) : Sv :=
  (sSeq (sSet 2 (eCall 2 m_law_draw (aC (eV 0) (aC (eC (.int 13)) aN)))) (sSeq (sIf (cAnd (cV (eBin dLt (eB 2) (eC (.int 4)))) (cV (eBin dGt (eB 1) (eC (.int 0))))) (sSeq (sSet 3 (eComp (.nm 4) (iRange1 (aC (eCall 2 m_law_draw (aC (eV 0) (aC (eC (.int 4)) aN))) aN)) cYes (eCall 2 m (aC (eV 0) (aC (eBin dSub (eB 1) (eC (.int 1))) aN))) [4])) (sRet (eIx (eLst (aC (eV 3) (aC (eUn dTup (eB 3)) (aC (eUn dTup (eB 3)) (aC (eUn dTup (eB 3)) aN))))) (eB 2)))) sNil) (sSeq (sIf (cV (eBin dLt (eB 2) (eC (.int 8)))) (sRet (eIx (eLst (aC (eBin dSub (eCall 2 m_law_draw (aC (eV 0) (aC (eC (.int 12)) aN))) (eC (.int 2))) (aC (eCall 2 m_law_draw (aC (eV 0) (aC (eBin dPow (eC (.int 10)) (eC (.int 12))) aN))) (aC (eC (.int 0)) (aC (eC (.int 3)) aN))))) (eBin dMax2 (eC (.int 0)) (eBin dSub (eB 2) (eC (.int 4)))))) sNil) (sSeq (sSet 3 (eLst (aC (eC (.str "")) (aC (eC (.str "a")) (aC (eC (.str "aa")) (aC (eC (.str "ab")) (aC (eC (.str "1/2")) (aC (eC (.str "e")) (aC (eC (.str "aab")) aN))))))))) (sRet (eIx (eLst (aC (eC (.bl true)) (aC (eC (.bl false)) (aC (eC .non) (aC (eIx (eB 3) (eCall 2 m_law_draw (aC (eV 0) (aC (eC (.int 7)) aN)))) (aC (eTup (aC (eC (.int 1)) (aC (eC (.int 2)) aN))) aN)))))) (eBin dSub (eB 2) (eC (.int 8)))))))))
def m_law_any : Nat → List D → List D → Option (D × List D)
  | 0 => fun _ _ => none
  | n + 1 => runB false 5 (g_law_any (m_law_any n))
def g_law_like (m : List D → List D → Option (D × List D)) : Sv :=
  (sSeq (sIf (cV (eUn (dIs isLT) (eB 0))) (sSeq (sIf (cOr (cV (eBin dNe (eUn (dIs isL) (eB 0)) (eUn (dIs isL) (eB 1)))) (cV (eBin dNe (eUn (dIs isTp) (eB 0)) (eUn (dIs isTp) (eB 1))))) (sRet (eC (.bl false))) sNil) (sSeq (sIf (cV (eBin dNe (eUn dLen (eB 0)) (eUn dLen (eB 1)))) (sRet (eC (.bl false))) sNil) (sRet (eBin dEq (eComp (.nm 2) (iRange1 (aC (eUn dLen (eB 0)) aN)) (cNot (cV (eCall 2 m (aC (eIx (eB 0) (eB 2)) (aC (eIx (eB 1) (eB 2)) aN))))) (eV 2) [2]) (eLst aN))))) sNil) (sSeq (sIf (cV (eUn (dIs isLT) (eB 1))) (sRet (eC (.bl false))) sNil) (sRet (eAnd (eBin dEq (eUn (dIs isBo) (eB 0)) (eUn (dIs isBo) (eB 1))) (eBin dEq (eB 0) (eB 1))))))
def m_law_like : Nat → List D → List D → Option (D × List D)
  | 0 => fun _ _ => none
  | n + 1 => runB false 3 (g_law_like (m_law_like n))
def g_law_spoilt (m : List D → List D → Option (D × List D)) : Sv :=
  (sSeq (sIf (cAnd (cV (eUn (dIs isLT) (eB 1))) (cAnd (cV (eBin dGt (eUn dLen (eB 1)) (eC (.int 0)))) (cV (eBin dGt (eCall 2 m_law_draw (aC (eV 0) (aC (eC (.int 7)) aN))) (eC (.int 0)))))) (sSeq (sSet 2 (eCall 2 m_law_draw (aC (eV 0) (aC (eUn dLen (eB 1)) aN)))) (sSeq (sSetO 3 (eUnF lOf (eB 1))) (sSeq (sSet 4 (eCall 2 m_law_draw (aC (eV 0) (aC (eC (.int 12)) aN)))) (sSeq (sIf (cV (eBin dLt (eB 4) (eC (.int 8)))) (sIxO 3 (eCall 2 m (aC (eV 0) (aC (eIx (eB 3) (eB 2)) aN))) (eV 2)) (sIf (cV (eBin dEq (eB 4) (eC (.int 8)))) (sPop 3 (eV 2)) (sIf (cV (eBin dEq (eB 4) (eC (.int 9)))) (sIns 3 (eV 2) (eIx (eB 3) (eCall 2 m_law_draw (aC (eV 0) (aC (eUn dLen (eB 3)) aN))))) (sIf (cV (eBin dEq (eB 4) (eC (.int 10)))) (sSetO 3 (eUnF revL (eB 3))) (sIns 3 (eV 2) (eCall 2 (m_law_any 3) (aC (eV 0) (aC (eC (.int 1)) aN)))))))) (sFrz 3 (sRet (eIf (cV (eUn (dIs isTp) (eB 1))) (eUn dTup (eB 3)) (eV 3)))))))) sNil) (sSeq (sIf (cAnd (cV (eCall 1 m_law_whole (aC (eV 1) aN))) (cV (eBin dGt (eCall 2 m_law_draw (aC (eV 0) (aC (eC (.int 6)) aN))) (eC (.int 0))))) (sRet (eBin dAdd (eB 1) (eIx (eLst (aC (eC (.int 1)) (aC (eUn dNeg (eC (.int 1))) (aC (eC (.int 2)) (aC (eUn dNeg (eC (.int 2))) (aC (eC (.int 9)) (aC (eC (.int 1000)) aN))))))) (eCall 2 m_law_draw (aC (eV 0) (aC (eC (.int 6)) aN)))))) sNil) (sSeq (sIf (cAnd (cV (eUn (dIs isS) (eB 1))) (cV (eBin dGt (eCall 2 m_law_draw (aC (eV 0) (aC (eC (.int 3)) aN))) (eC (.int 0))))) (sSeq (sSet 5 (eCall 2 m_law_draw (aC (eV 0) (aC (eBin dAdd (eUn dLen (eB 1)) (eC (.int 1))) aN)))) (sRet (eBin dAdd (eBin dAdd (eSl (eB 1) oN (oE (eV 5))) (eIx (eLst (aC (eC (.str " ")) (aC (eC (.str "z")) (aC (eC (.str "A")) (aC (eC (.str "|")) (aC (eC (.str "abcdefgh")) (aC (eC (.str "")) aN))))))) (eCall 2 m_law_draw (aC (eV 0) (aC (eC (.int 6)) aN))))) (eSl (eB 1) (oE (eV 5)) oN)))) sNil) (sSeq (sIf (cAnd (cV (eUn (dIs isLT) (eB 1))) (cV (eBin dEq (eCall 2 m_law_draw (aC (eV 0) (aC (eC (.int 2)) aN))) (eC (.int 0))))) (sRet (eIf (cV (eUn (dIs isTp) (eB 1))) (eUnF lOf (eB 1)) (eUn dTup (eB 1)))) sNil) (sRet (eCall 2 (m_law_any 3) (aC (eV 0) (aC (eC (.int 2)) aN))))))))
def m_law_spoilt : Nat → List D → List D → Option (D × List D)
  | 0 => fun _ _ => none
  | n + 1 => runB false 6 (g_law_spoilt (m_law_spoilt n))
def g_law : Sv :=
  (sCell 1 (eLst (aC (eUnF lOf (eB 0)) (aC (eC (.int 0)) (aC (eC (.int 0)) aN)))) (sSeq (sFor (.nm 2) (iRange1 (aC (eC (.int 16)) aN)) (sSeq (sSet 3 (eCall 2 m_law_clock (aC (eV 1) (aC (eBin dPow (eC (.int 10)) (eC (.int 6))) aN)))) (sSeq (sAsg (.tup [(.nm 4), (.nm 5), (.nm 6)]) (eV 3)) (sSeq (sSet 7 (eLst (aC (eV 3) (aC (eUnF lOf (eB 3)) (aC (eTup (aC (eV 4) (aC (eV 5) aN))) (aC (eTup (aC (eV 4) (aC (eV 5) (aC (eC (.int 0)) aN)))) (aC (eTup (aC (eV 4) (aC (eV 5) (aC (eC (.int 7)) aN)))) aN))))))) (sSeq (sSet 7 (eBin dAdd (eB 7) (eLst (aC (eTup (aC (eV 4) (aC (eBin dAdd (eB 5) (eC (.str "a"))) (aC (eV 6) aN)))) (aC (eTup (aC (eUnF lOf (eB 4)) (aC (eV 5) (aC (eV 6) aN)))) aN))))) (sSeq (sSet 7 (eBin dAdd (eB 7) (eLst (aC (eTup (aC (eBin dAdd (eB 4) (eTup (aC (eC (.int 0)) aN))) (aC (eBin dAdd (eB 5) (eC (.str "d"))) (aC (eV 6) aN)))) (aC (eTup (aC (eSl (eB 4) oN (oE (eC (.int 1)))) (aC (eSl (eB 5) oN (oE (eC (.int 1)))) (aC (eV 6) aN)))) aN))))) (sSeq (sSet 7 (eBin dAdd (eB 7) (eLst (aC (eTup (aC (eTup (aC (eC (.int 1)) (aC (eC (.int 1)) (aC (eC (.int 1)) (aC (eC (.int 1)) aN))))) (aC (eC (.str "aaaa")) (aC (eC (.int 1)) aN)))) (aC (eTup (aC (eTup (aC (eC (.int 1)) (aC (eC (.int 1)) (aC (eC (.int 1)) (aC (eC (.int 1)) aN))))) (aC (eC (.str "aaab")) (aC (eC (.int 1)) aN)))) aN))))) (sSeq (sSet 7 (eBin dAdd (eB 7) (eLst (aC (eTup (aC (eTup (aC (eC (.int 2)) (aC (eC (.int 4)) aN))) (aC (eC (.str "aa")) (aC (eC (.int 1)) aN)))) (aC (eTup (aC (eTup (aC (eC (.int 1)) (aC (eBin dPow (eC (.int 10)) (eC (.int 6))) aN))) (aC (eC (.str "ab")) (aC (eC (.int 1)) aN)))) (aC (eTup (aC (eTup (aC (eC (.int 1)) (aC (eBin dAdd (eBin dPow (eC (.int 10)) (eC (.int 6))) (eC (.int 1))) aN))) (aC (eC (.str "ab")) (aC (eC (.int 1)) aN)))) aN)))))) (sSeq (sSet 7 (eBin dAdd (eB 7) (eLst (aC (eTup (aC (eTup (aC (eC (.int 1)) (aC (eUn dNeg (eBin dPow (eC (.int 10)) (eC (.int 6)))) aN))) (aC (eC (.str "ae")) (aC (eC (.int 1)) aN)))) (aC (eTup (aC (eTup (aC (eC (.int 1)) (aC (eC (.bl true)) aN))) (aC (eC (.str "aa")) (aC (eC (.int 1)) aN)))) (aC (eC .non) aN)))))) (sFor (.nm 8) (iAny (eBin dAdd (eBin dAdd (eB 7) (eComp (.nm 9) (iRange1 (aC (eC (.int 8)) aN)) cYes (eCall 2 (m_law_spoilt 4) (aC (eV 1) (aC (eV 3) aN))) [9])) (eLst (aC (eCall 2 (m_law_any 3) (aC (eV 1) (aC (eC (.int 2)) aN))) aN)))) (sIf (cNot (cV (eCall 2 (m_law_like 8) (aC (eCall 1 m_is_clock (aC (eV 8) aN)) (aC (eCall 1 m_law_is_clock (aC (eV 8) aN)) aN))))) (sRet (eC (.bl false))) sNil))))))))))) (sRet (eBin dIsB (eCall 1 m_is_clock (aC (eTup (aC (eSl (eTup (aC (eC (.int 1)) (aC (eC (.int 1)) (aC (eC (.int 2)) (aC (eC (.int 3)) (aC (eC (.int 5)) aN)))))) oN (oE (eC (.int 4)))) (aC (eC (.str "abcd")) (aC (eC (.int 6)) aN)))) aN)) (eC (.bl true))))))
def m_law : List D → List D → Option (D × List D) := runB false 10 g_law
section
variable {P : Program} {w : World} {K : PySem.W.Frag} {mg : Str → Option Value} {base : Heap}
abbrev s_divisor : Stmt := topS 1
theorem sc_divisor : FnScope ["one", "other", "first", "second"] ["one", "other"] (defScope s_divisor) := ⟨rfl, rfl, rfl, by decide +kernel, rfl, by decide +kernel, by decide +kernel⟩
theorem ok_divisor {f : Addr} {fd : FuncData} (F : FnP K "divisor" s_divisor f fd) (hg : mg "divisor" = some (.ref f)) (z_abs : mg "abs" = none) : FnM P w K mg base 1 "divisor" f fd ["one", "other"] false m_divisor := by
  have nd := sc_divisor.nd
  refine def_ok (k := 0) F sc_divisor hg (F.bindsN (ps := ["one", "other"]) fun _ _ _ _ _ _ us hl => match us, hl with | [_, _], _ => rfl) (fun _ _ _ => rfl) (fun cdv A outer s H E hr => ?_)
  exact (mss_cons (ms_par (i := 2) (j := 3) rfl nd rfl rfl (by decide) rfl rfl (me_b1 cd_abs (by rfl) z_abs boot_abs (me_bv 0)) (me_b1 cd_abs (by rfl) z_abs boot_abs (me_bv 1)) (by rfl)) (mss_cons (ms_while PassesOwn.never (mt_cmp od_gt (me_bv 3) (me_b me_int) (nomark _)) (mss_one (ms_par (i := 2) (j := 3) rfl nd rfl rfl (by decide) rfl rfl (me_v 3) (me_bin od_mod (me_bv 2) (me_bv 3)) (by rfl)))) (mss_one (ms_ret (me_v 2)))))
abbrev s_is_integer : Stmt := topS 5
theorem sc_is_integer : FnScope ["value", "low", "high"] ["value", "low", "high"] (defScope s_is_integer) := ⟨rfl, rfl, rfl, by decide +kernel, rfl, by decide +kernel, by decide +kernel⟩
theorem ok_is_integer {f : Addr} {fd : FuncData} (F : FnP K "is_integer" s_is_integer f fd) (hg : mg "is_integer" = some (.ref f)) (z_bool : mg "bool" = none) (z_int : mg "int" = none) (z_isinstance : mg "isinstance" = none) : FnM P w K mg base 1 "is_integer" f fd ["value", "low", "high"] false m_is_integer := by
  have nd := sc_is_integer.nd
  refine def_ok (k := 0) F sc_is_integer hg (F.bindsN (ps := ["value", "low", "high"]) fun _ _ _ _ _ _ us hl => match us, hl with | [_, _, _], _ => rfl) (fun _ _ _ => rfl) (fun cdv A outer s H E hr => ?_)
  exact (mss_one (ms_ret (me_and (me_isi ans_int (by rfl) z_isinstance (by rfl) z_int boot_int (me_bv 0)) (me_and (me_not (me_isi ans_bool (by rfl) z_isinstance (by rfl) z_bool boot_bool (me_bv 0))) (me_and1 (me_chain od_le od_le (me_bv 1) (me_bv 0) (me_bv 2)))))))
abbrev s_are_looks : Stmt := topS 7
theorem sc_are_looks : FnScope ["value", "many", "look"] ["value", "many"] (defScope s_are_looks) := ⟨rfl, rfl, rfl, by decide +kernel, rfl, by decide +kernel, by decide +kernel⟩
theorem ok_are_looks {f : Addr} {fd : FuncData} (F : FnP K "are_looks" s_are_looks f fd) (hg : mg "are_looks" = some (.ref f)) (c_LOOKS : KC K mg "LOOKS" k_LOOKS) (z_all : mg "all" = none) (z_isinstance : mg "isinstance" = none) (z_len : mg "len" = none) (z_str : mg "str" = none) : FnM P w K mg base 1 "are_looks" f fd ["value", "many"] false m_are_looks := by
  have nd := sc_are_looks.nd
  refine def_ok (k := 0) F sc_are_looks hg (F.bindsN (ps := ["value", "many"]) fun _ _ _ _ _ _ us hl => match us, hl with | [_, _], _ => rfl) (fun _ _ _ => rfl) (fun cdv A outer s H E hr => ?_)
  have hu := hu64 hr
  have hu5 := hu65 hr
  exact (mss_cons (ms_if (PW.pt (mw_or (mt_not (mt_val (me_isi ans_str (by rfl) z_isinstance (by rfl) z_str boot_str (me_bv 0)))) (mw_or (mt_cmp (od_ne hu) (me_b (me_b1 cd_len (by rfl) z_len boot_len (me_bv 0))) (me_bv 1) (nomark _)) (mw_or1 (mt_not (mt_val (me_b1 (cd_all rfl) (by rfl) z_all boot_all (me_b (me_f (mf_comp (own := [("look", 2)]) (vs := [2]) (p := (.nm 2)) rfl nd (mi_any (me_v 0)) (blkOk_by (N := ["value", "many", "look"]) (sc := defScope s_are_looks) (by decide +kernel)) (fun _ _ _ _ _ => (mg_name (i := 2) nd rfl (by first | exact .inl rfl | exact .inr rfl))) (fun _ _ _ _ _ => mts_nil) (fun _ _ _ _ _ => (me_cmp (od_in hu5) (me_bv 2) (me_b (me_glob (by rfl) c_LOOKS.mg c_LOOKS.rv c_LOOKS.kd)) (by rfl))))))))))))) (mss_one (ms_ret me_bl)) mss_nil) (mss_one (ms_ret (me_b1 (cd_all rfl) (by rfl) z_all boot_all (me_b (me_f (mf_comp (own := [("look", 2)]) (vs := [2]) (p := (.nm 2)) rfl nd (mi_any (me_glob (by rfl) c_LOOKS.mg c_LOOKS.rv c_LOOKS.kd)) (blkOk_by (N := ["value", "many", "look"]) (sc := defScope s_are_looks) (by decide +kernel)) (fun _ _ _ _ _ => (mg_name (i := 2) nd rfl (by first | exact .inl rfl | exact .inr rfl))) (fun _ _ _ _ _ => mts_nil) (fun _ _ _ _ _ => (me_cmp od_le (me_b (me_ms PySem.F.slot_str_count PySem.F.type_str_count md_count (me_bv 0) (me_bv 2))) (me_b me_int) (nomark _))))))))))
abbrev s_law_draw : Stmt := topS 11
theorem sc_law_draw : FnScope ["_law_tape", "_law_many", "_law_prime", "_law_cell", "_law_found"] ["_law_tape", "_law_many"] (defScope s_law_draw) := ⟨rfl, rfl, rfl, by decide +kernel, rfl, by decide +kernel, by decide +kernel⟩
theorem ok_law_draw {f : Addr} {fd : FuncData} (F : FnP K "_law_draw" s_law_draw f fd) (hg : mg "_law_draw" = some (.ref f)) (z_int : mg "int" = none) (z_len : mg "len" = none) : FnM P w K mg base 1 "_law_draw" f fd ["_law_tape", "_law_many"] false m_law_draw := by
  have nd := sc_law_draw.nd
  refine def_ok (k := 0) F sc_law_draw hg (F.bindsN (ps := ["_law_tape", "_law_many"]) fun _ _ _ _ _ _ us hl => match us, hl with | [_, _], _ => rfl) (fun _ _ _ => rfl) (fun cdv A outer s H E hr => ?_)
  exact (mss_cons (ms_set (i := 2) nd rfl (by first | exact .inl rfl | exact .inr rfl) me_int) (mss_cons (ms_if (mt_cmp od_lt (me_b (me_ix (me_bv 0) (me_b me_int))) (me_bv 1) (nomark _)) (mss_cons (ms_set (i := 3) nd rfl (by first | exact .inl rfl | exact .inr rfl) me_int) (mss_cons (ms_if (mt_cmp od_gt (me_b (me_b1 cd_len (by rfl) z_len boot_len (me_b (me_ix (me_bv 0) (me_b me_int))))) (me_b me_int) (nomark _)) (mss_one (ms_set (i := 3) nd rfl (by first | exact .inl rfl | exact .inr rfl) (me_ix (me_b (me_ix (me_bv 0) (me_b me_int))) (me_b (me_bin od_mod (me_b (me_t1 cd_int (by rfl) z_int boot_int (me_b (me_ix (me_bv 0) (me_b me_int))))) (me_b (me_b1 cd_len (by rfl) z_len boot_len (me_b (me_ix (me_bv 0) (me_b me_int)))))))))) mss_nil) (mss_cons (ms_if (PW.pt (mw_or (mt_cmp od_ge (me_b (me_ix (me_bv 0) (me_b me_int))) (me_b (me_b1 cd_len (by rfl) z_len boot_len (me_b (me_ix (me_bv 0) (me_b me_int))))) (nomark _)) (mw_or1 (mt_cmp od_lt (me_bv 3) (me_b (me_bin od_pow (me_b me_int) (me_b me_int))) (nomark _))))) (mss_cons (ms_set (i := 3) nd rfl (by first | exact .inl rfl | exact .inr rfl) (me_bin od_mod (me_b (me_t1 cd_int (by rfl) z_int boot_int (me_b (me_bin od_add (me_bv 3) (me_b (me_bin od_mul (me_b me_int) (me_b (me_ix (me_bv 0) (me_b me_int))))))))) (me_bv 2))) (mss_cons (ms_set (i := 3) nd rfl (by first | exact .inl rfl | exact .inr rfl) (me_bin od_mod (me_b (me_t1 cd_int (by rfl) z_int boot_int (me_b (me_bin od_add (me_b (me_bin od_add (me_b (me_bin od_mul (me_bv 3) (me_bv 3))) (me_b (me_bin od_mul (me_b me_int) (me_bv 3))))) (me_b me_int))))) (me_bv 2))) (mss_one (ms_set (i := 3) nd rfl (by first | exact .inl rfl | exact .inr rfl) (me_bin od_mod (me_b (me_t1 cd_int (by rfl) z_int boot_int (me_b (me_bin od_add (me_b (me_bin od_mul (me_bv 3) (me_bv 3))) (me_b me_int))))) (me_bv 2)))))) mss_nil) (mss_cons (ms_ixC (me_v 0) me_int (me_bin od_add (me_b (me_ix (me_bv 0) (me_b me_int))) (me_b me_int))) (mss_one (ms_ixC (me_v 0) me_int (me_v 3))))))) mss_nil) (mss_cons (ms_set (i := 4) nd rfl (by first | exact .inl rfl | exact .inr rfl) (me_bin od_mod (me_b (me_t1 cd_int (by rfl) z_int boot_int (me_b (me_ix (me_bv 0) (me_b me_int))))) (me_bv 1))) (mss_cons (ms_ixC (me_v 0) me_int (me_bin od_div (me_b (me_ix (me_bv 0) (me_b me_int))) (me_bv 1))) (mss_one (ms_ret (me_v 4)))))))
abbrev s_law_whole : Stmt := topS 12
theorem sc_law_whole : FnScope ["_law_item"] ["_law_item"] (defScope s_law_whole) := ⟨rfl, rfl, rfl, by decide +kernel, rfl, by decide +kernel, by decide +kernel⟩
theorem ok_law_whole {f : Addr} {fd : FuncData} (F : FnP K "_law_whole" s_law_whole f fd) (hg : mg "_law_whole" = some (.ref f)) (z_bool : mg "bool" = none) (z_int : mg "int" = none) (z_isinstance : mg "isinstance" = none) : FnM P w K mg base 1 "_law_whole" f fd ["_law_item"] false m_law_whole := by
  have nd := sc_law_whole.nd
  refine def_ok (k := 0) F sc_law_whole hg (F.bindsN (ps := ["_law_item"]) fun _ _ _ _ _ _ us hl => match us, hl with | [_], _ => rfl) (fun _ _ _ => rfl) (fun cdv A outer s H E hr => ?_)
  exact (mss_one (ms_ret (me_and (me_isi ans_int (by rfl) z_isinstance (by rfl) z_int boot_int (me_bv 0)) (me_and1 (me_not (me_isi ans_bool (by rfl) z_isinstance (by rfl) z_bool boot_bool (me_bv 0)))))))
abbrev s_law_gcd : Stmt := topS 17
theorem sc_law_gcd : FnScope ["_law_one", "_law_other", "_law_first", "_law_second"] ["_law_one", "_law_other"] (defScope s_law_gcd) := ⟨rfl, rfl, rfl, by decide +kernel, rfl, by decide +kernel, by decide +kernel⟩
theorem ok_law_gcd {f : Addr} {fd : FuncData} (F : FnP K "_law_gcd" s_law_gcd f fd) (hg : mg "_law_gcd" = some (.ref f)) (z_abs : mg "abs" = none) (z_int : mg "int" = none) : FnM P w K mg base 1 "_law_gcd" f fd ["_law_one", "_law_other"] false m_law_gcd := by
  have nd := sc_law_gcd.nd
  refine def_ok (k := 0) F sc_law_gcd hg (F.bindsN (ps := ["_law_one", "_law_other"]) fun _ _ _ _ _ _ us hl => match us, hl with | [_, _], _ => rfl) (fun _ _ _ => rfl) (fun cdv A outer s H E hr => ?_)
  exact (mss_cons (ms_par (i := 2) (j := 3) rfl nd rfl rfl (by decide) rfl rfl (me_b1 cd_abs (by rfl) z_abs boot_abs (me_bv 0)) (me_b1 cd_abs (by rfl) z_abs boot_abs (me_bv 1)) (by rfl)) (mss_cons (ms_while PassesOwn.never (mt_cmp od_gt (me_bv 3) (me_b me_int) (nomark _)) (mss_one (ms_par (i := 2) (j := 3) rfl nd rfl rfl (by decide) rfl rfl (me_v 3) (me_bin od_mod (me_b (me_t1 cd_int (by rfl) z_int boot_int (me_bv 2))) (me_bv 3)) (by rfl)))) (mss_one (ms_ret (me_v 2)))))
abbrev s_common_divisor : Stmt := topS 9
theorem sc_common_divisor : FnScope ["hands", "found", "turns"] ["hands"] (defScope s_common_divisor) := ⟨rfl, rfl, rfl, by decide +kernel, rfl, by decide +kernel, by decide +kernel⟩
theorem ok_common_divisor {f : Addr} {fd : FuncData} (F : FnP K "common_divisor" s_common_divisor f fd) (hg : mg "common_divisor" = some (.ref f)) {f_divisor : Addr} {fd_divisor : FuncData} (F_divisor : FnM P w K mg base 1 "divisor" f_divisor fd_divisor ["one", "other"] false m_divisor) : FnM P w K mg base 2 "common_divisor" f fd ["hands"] false m_common_divisor := by
  have nd := sc_common_divisor.nd
  refine def_ok (k := 1) F sc_common_divisor hg (F.bindsN (ps := ["hands"]) fun _ _ _ _ _ _ us hl => match us, hl with | [_], _ => rfl) (fun _ _ _ => rfl) (fun cdv A outer s H E hr => ?_)
  exact (mss_cons (ms_set (i := 1) nd rfl (by first | exact .inl rfl | exact .inr rfl) me_int) (mss_cons (ms_for (p := (.nm 2)) PassesOwn.never rfl (mi_any (me_v 0)) (mg_name (i := 2) nd rfl (by first | exact .inl rfl | exact .inr rfl)) (mss_one (ms_set (i := 1) nd rfl (by first | exact .inl rfl | exact .inr rfl) (me_call F_divisor (hr.mono (by decide)) (by rfl) (ma_cons (me_v 1) (ma_cons (me_v 2) ma_nil)))))) (mss_one (ms_ret (me_v 1)))))
abbrev s_law_within : Stmt := topS 13
theorem sc_law_within : FnScope ["_law_item", "_law_low", "_law_high"] ["_law_item", "_law_low", "_law_high"] (defScope s_law_within) := ⟨rfl, rfl, rfl, by decide +kernel, rfl, by decide +kernel, by decide +kernel⟩
theorem ok_law_within {f : Addr} {fd : FuncData} (F : FnP K "_law_within" s_law_within f fd) (hg : mg "_law_within" = some (.ref f)) {f_law_whole : Addr} {fd_law_whole : FuncData} (F_law_whole : FnM P w K mg base 1 "_law_whole" f_law_whole fd_law_whole ["_law_item"] false m_law_whole) : FnM P w K mg base 2 "_law_within" f fd ["_law_item", "_law_low", "_law_high"] false m_law_within := by
  have nd := sc_law_within.nd
  refine def_ok (k := 1) F sc_law_within hg (F.bindsN (ps := ["_law_item", "_law_low", "_law_high"]) fun _ _ _ _ _ _ us hl => match us, hl with | [_, _, _], _ => rfl) (fun _ _ _ => rfl) (fun cdv A outer s H E hr => ?_)
  exact (mss_one (ms_ret (me_and (me_call F_law_whole (hr.mono (by decide)) (by rfl) (ma_cons (me_v 0) ma_nil)) (me_and1 (me_chain od_le od_le (me_bv 1) (me_bv 0) (me_bv 2))))))
abbrev s_law_clock : Stmt := topS 18
theorem sc_law_clock : FnScope ["_law_tape", "_law_most", "_law_many", "_law_hands", "_law_at", "_law_turns", "_law_my_divisor", "_law_looks"] ["_law_tape", "_law_most"] (defScope s_law_clock) := ⟨rfl, rfl, rfl, by decide +kernel, rfl, by decide +kernel, by decide +kernel⟩
theorem ok_law_clock {f : Addr} {fd : FuncData} (F : FnP K "_law_clock" s_law_clock f fd) (hg : mg "_law_clock" = some (.ref f)) {f_law_draw : Addr} {fd_law_draw : FuncData} (F_law_draw : FnM P w K mg base 1 "_law_draw" f_law_draw fd_law_draw ["_law_tape", "_law_many"] false m_law_draw) {f_law_gcd : Addr} {fd_law_gcd : FuncData} (F_law_gcd : FnM P w K mg base 1 "_law_gcd" f_law_gcd fd_law_gcd ["_law_one", "_law_other"] false m_law_gcd) (z_range : mg "range" = none) (z_tuple : mg "tuple" = none) : FnM P w K mg base 2 "_law_clock" f fd ["_law_tape", "_law_most"] false m_law_clock := by
  have nd := sc_law_clock.nd
  refine def_ok (k := 1) F sc_law_clock hg (F.bindsN (ps := ["_law_tape", "_law_most"]) fun _ _ _ _ _ _ us hl => match us, hl with | [_, _], _ => rfl) (fun _ _ _ => rfl) (fun cdv A outer s H E hr => ?_)
  have hu := hu64 hr
  have hu5 := hu65 hr
  exact (mss_cons (ms_set (i := 2) nd rfl (by first | exact .inl rfl | exact .inr rfl) (me_ix (me_b (me_f (mf_lst (ma_cons me_int (ma_cons me_int (ma_cons me_int (ma_cons me_int (ma_cons me_int ma_nil)))))))) (me_b (me_call F_law_draw (hr.mono (by decide)) (by rfl) (ma_cons (me_v 0) (ma_cons me_int ma_nil)))))) (mss_cons (ms_set (i := 3) nd rfl (by first | exact .inl rfl | exact .inr rfl) (me_tup ma_nil)) (mss_cons (ms_for (p := (.nm 4)) PassesOwn.never rfl (mi_range1 (by rfl) z_range (ma_cons (me_v 2) ma_nil)) (mg_name (i := 4) nd rfl (by first | exact .inl rfl | exact .inr rfl)) (mss_cons (ms_set (i := 5) nd rfl (by first | exact .inl rfl | exact .inr rfl) (me_bin od_add (me_b me_int) (me_b (me_call F_law_draw (hr.mono (by decide)) (by rfl) (ma_cons (me_v 0) (ma_cons (me_v 1) ma_nil)))))) (mss_one (ms_set (i := 3) nd rfl (by first | exact .inl rfl | exact .inr rfl) (me_bin od_add (me_bv 3) (me_b (me_tup (ma_cons (me_if (mt_cmp (od_eq hu) (me_b (me_call F_law_draw (hr.mono (by decide)) (by rfl) (ma_cons (me_v 0) (ma_cons me_int ma_nil)))) (me_b me_int) (nomark _)) (me_un ud_neg (me_bv 5)) (me_v 5)) ma_nil)))))))) (mss_cons (ms_set (i := 6) nd rfl (by first | exact .inl rfl | exact .inr rfl) me_int) (mss_cons (ms_for (p := (.nm 5)) PassesOwn.never rfl (mi_any (me_v 3)) (mg_name (i := 5) nd rfl (by first | exact .inl rfl | exact .inr rfl)) (mss_one (ms_set (i := 6) nd rfl (by first | exact .inl rfl | exact .inr rfl) (me_call F_law_gcd (hr.mono (by decide)) (by rfl) (ma_cons (me_v 6) (ma_cons (me_v 5) ma_nil)))))) (mss_cons (ms_set (i := 3) nd rfl (by first | exact .inl rfl | exact .inr rfl) (me_t1 cd_tuple (by rfl) z_tuple boot_tuple (me_b (me_f (mf_comp (own := [("_law_turns", 5)]) (vs := [5]) (p := (.nm 5)) rfl nd (mi_any (me_v 3)) (blkOk_by (N := ["_law_tape", "_law_most", "_law_many", "_law_hands", "_law_at", "_law_turns", "_law_my_divisor", "_law_looks"]) (sc := defScope s_law_clock) (by decide +kernel)) (fun _ _ _ _ _ => (mg_name (i := 5) nd rfl (by first | exact .inl rfl | exact .inr rfl))) (fun _ _ _ _ _ => mts_nil) (fun _ _ _ _ _ => (me_bin od_div (me_bv 5) (me_bv 6)))))))) (mss_cons (ms_set (i := 7) nd rfl (by first | exact .inl rfl | exact .inr rfl) (me_sl (me_b (me_ix (me_b (me_f (mf_lst (ma_cons me_str (ma_cons me_str (ma_cons me_str (ma_cons me_str (ma_cons me_str ma_nil)))))))) (me_b (me_call F_law_draw (hr.mono (by decide)) (by rfl) (ma_cons (me_v 0) (ma_cons me_int ma_nil)))))) mo_none (mo_some (me_v 2)))) (mss_cons (ms_set (i := 7) nd rfl (by first | exact .inl rfl | exact .inr rfl) (me_if (PW.pt (mw_and (mt_cmp od_lt (me_bv 2) (me_b me_int) (nomark _)) (mw_and1 (mt_cmp od_gt (me_b (me_call F_law_draw (hr.mono (by decide)) (by rfl) (ma_cons (me_v 0) (ma_cons me_int ma_nil)))) (me_b me_int) (nomark _))))) (me_sl (me_b me_str) mo_none (mo_some (me_v 2))) (me_v 7))) (mss_one (ms_ret (me_tup (ma_cons (me_v 3) (ma_cons (me_v 7) (ma_cons (me_ix (me_b (me_f (mf_lst (ma_cons me_int (ma_cons me_int (ma_cons me_int (ma_cons me_int (ma_cons me_int (ma_cons me_int ma_nil))))))))) (me_b (me_call F_law_draw (hr.mono (by decide)) (by rfl) (ma_cons (me_v 0) (ma_cons me_int ma_nil))))) ma_nil))))))))))))))
abbrev s_are_hands : Stmt := topS 6
theorem sc_are_hands : FnScope ["value", "turns"] ["value"] (defScope s_are_hands) := ⟨rfl, rfl, rfl, by decide +kernel, rfl, by decide +kernel, by decide +kernel⟩
theorem ok_are_hands {f : Addr} {fd : FuncData} (F : FnP K "are_hands" s_are_hands f fd) (hg : mg "are_hands" = some (.ref f)) {f_common_divisor : Addr} {fd_common_divisor : FuncData} (F_common_divisor : FnM P w K mg base 2 "common_divisor" f_common_divisor fd_common_divisor ["hands"] false m_common_divisor) {f_is_integer : Addr} {fd_is_integer : FuncData} (F_is_integer : FnM P w K mg base 1 "is_integer" f_is_integer fd_is_integer ["value", "low", "high"] false m_is_integer) (c_FASTEST : KC K mg "FASTEST" k_FASTEST) (z_all : mg "all" = none) (z_isinstance : mg "isinstance" = none) (z_len : mg "len" = none) (z_tuple : mg "tuple" = none) : FnM P w K mg base 3 "are_hands" f fd ["value"] false m_are_hands := by
  have nd := sc_are_hands.nd
  refine def_ok (k := 2) F sc_are_hands hg (F.bindsN (ps := ["value"]) fun _ _ _ _ _ _ us hl => match us, hl with | [_], _ => rfl) (fun _ _ _ => rfl) (fun cdv A outer s H E hr => ?_)
  have hu := hu64 hr
  have hu5 := hu65 hr
  exact (mss_cons (ms_if (PW.pt (mw_or (mt_not (mt_val (me_isi ans_tup (by rfl) z_isinstance (by rfl) z_tuple boot_tuple (me_bv 0)))) (mw_or1 (mt_not (mt_chain od_le od_le (me_b me_int) (me_b (me_b1 cd_len (by rfl) z_len boot_len (me_bv 0))) (me_b me_int)))))) (mss_one (ms_ret me_bl)) mss_nil) (mss_cons (ms_if (mt_not (mt_val (me_b1 (cd_all rfl) (by rfl) z_all boot_all (me_b (me_f (mf_comp (own := [("turns", 1)]) (vs := [1]) (p := (.nm 1)) rfl nd (mi_any (me_v 0)) (blkOk_by (N := ["value", "turns"]) (sc := defScope s_are_hands) (by decide +kernel)) (fun _ _ _ _ _ => (mg_name (i := 1) nd rfl (by first | exact .inl rfl | exact .inr rfl))) (fun _ _ _ _ _ => mts_nil) (fun _ _ _ _ _ => (me_and (me_call F_is_integer (hr.mono (by decide)) (by rfl) (ma_cons (me_v 1) (ma_cons (me_un ud_neg (me_b (me_glob (by rfl) c_FASTEST.mg c_FASTEST.rv c_FASTEST.kd))) (ma_cons (me_glob (by rfl) c_FASTEST.mg c_FASTEST.rv c_FASTEST.kd) ma_nil)))) (me_and1 (me_cmp (od_ne hu) (me_bv 1) (me_b me_int) (nomark _))))))))))) (mss_one (ms_ret me_bl)) mss_nil) (mss_one (ms_ret (me_cmp (od_eq hu) (me_b (me_call F_common_divisor (hr.mono (by decide)) (by rfl) (ma_cons (me_v 0) ma_nil))) (me_b me_int) (nomark _))))))
abbrev s_law_is_clock : Stmt := topS 19
theorem sc_law_is_clock : FnScope ["_law_value", "_law_my_divisor", "_law_turns", "_law_look"] ["_law_value"] (defScope s_law_is_clock) := ⟨rfl, rfl, rfl, by decide +kernel, rfl, by decide +kernel, by decide +kernel⟩
theorem ok_law_is_clock {f : Addr} {fd : FuncData} (F : FnP K "_law_is_clock" s_law_is_clock f fd) (hg : mg "_law_is_clock" = some (.ref f)) {f_law_gcd : Addr} {fd_law_gcd : FuncData} (F_law_gcd : FnM P w K mg base 1 "_law_gcd" f_law_gcd fd_law_gcd ["_law_one", "_law_other"] false m_law_gcd) {f_law_within : Addr} {fd_law_within : FuncData} (F_law_within : FnM P w K mg base 2 "_law_within" f_law_within fd_law_within ["_law_item", "_law_low", "_law_high"] false m_law_within) (z_isinstance : mg "isinstance" = none) (z_len : mg "len" = none) (z_str : mg "str" = none) (z_tuple : mg "tuple" = none) : FnM P w K mg base 3 "_law_is_clock" f fd ["_law_value"] false m_law_is_clock := by
  have nd := sc_law_is_clock.nd
  refine def_ok (k := 2) F sc_law_is_clock hg (F.bindsN (ps := ["_law_value"]) fun _ _ _ _ _ _ us hl => match us, hl with | [_], _ => rfl) (fun _ _ _ => rfl) (fun cdv A outer s H E hr => ?_)
  have hu := hu64 hr
  have hu5 := hu65 hr
  exact (mss_cons (ms_if (PW.pt (mw_or (mt_not (mt_val (me_isi ans_tup (by rfl) z_isinstance (by rfl) z_tuple boot_tuple (me_bv 0)))) (mw_or1 (mt_cmp (od_ne hu) (me_b (me_b1 cd_len (by rfl) z_len boot_len (me_bv 0))) (me_b me_int) (nomark _))))) (mss_one (ms_ret me_bl)) mss_nil) (mss_cons (ms_if (PW.pt (mw_or (mt_not (mt_val (me_isi ans_tup (by rfl) z_isinstance (by rfl) z_tuple boot_tuple (me_b (me_ix (me_bv 0) (me_b me_int)))))) (mw_or1 (mt_not (mt_chain od_lt od_lt (me_b me_int) (me_b (me_b1 cd_len (by rfl) z_len boot_len (me_b (me_ix (me_bv 0) (me_b me_int))))) (me_b me_int)))))) (mss_one (ms_ret me_bl)) mss_nil) (mss_cons (ms_set (i := 1) nd rfl (by first | exact .inl rfl | exact .inr rfl) me_int) (mss_cons (ms_for (p := (.nm 2)) PassesOwn.never rfl (mi_any (me_ix (me_bv 0) (me_b me_int))) (mg_name (i := 2) nd rfl (by first | exact .inl rfl | exact .inr rfl)) (mss_cons (ms_if (PW.pt (mw_or (mt_not (mt_val (me_call F_law_within (hr.mono (by decide)) (by rfl) (ma_cons (me_v 2) (ma_cons (me_un ud_neg (me_b (me_bin od_pow (me_b me_int) (me_b me_int)))) (ma_cons (me_bin od_pow (me_b me_int) (me_b me_int)) ma_nil)))))) (mw_or1 (mt_cmp (od_eq hu) (me_bv 2) (me_b me_int) (nomark _))))) (mss_one (ms_ret me_bl)) mss_nil) (mss_one (ms_set (i := 1) nd rfl (by first | exact .inl rfl | exact .inr rfl) (me_call F_law_gcd (hr.mono (by decide)) (by rfl) (ma_cons (me_v 1) (ma_cons (me_v 2) ma_nil))))))) (mss_cons (ms_if (PW.pt (mw_or (mt_cmp (od_ne hu) (me_bv 1) (me_b me_int) (nomark _)) (mw_or (mt_not (mt_val (me_isi ans_str (by rfl) z_isinstance (by rfl) z_str boot_str (me_b (me_ix (me_bv 0) (me_b me_int)))))) (mw_or1 (mt_cmp (od_ne hu) (me_b (me_b1 cd_len (by rfl) z_len boot_len (me_b (me_ix (me_bv 0) (me_b me_int))))) (me_b (me_b1 cd_len (by rfl) z_len boot_len (me_b (me_ix (me_bv 0) (me_b me_int))))) (nomark _)))))) (mss_one (ms_ret me_bl)) mss_nil) (mss_cons (ms_if (mt_cmp (od_ne hu) (me_b (me_f (mf_comp (own := [("_law_look", 3)]) (vs := [3]) (p := (.nm 3)) rfl nd (mi_any (me_ix (me_bv 0) (me_b me_int))) (blkOk_by (N := ["_law_value", "_law_my_divisor", "_law_turns", "_law_look"]) (sc := defScope s_law_is_clock) (by decide +kernel)) (fun _ _ _ _ _ => (mg_name (i := 3) nd rfl (by first | exact .inl rfl | exact .inr rfl))) (fun _ _ _ _ _ => (mts_one (PW.pt (mw_or (mt_cmp (od_ni hu5) (me_bv 3) (me_b (me_f (mf_lst (ma_cons me_str (ma_cons me_str (ma_cons me_str (ma_cons me_str ma_nil))))))) (by rfl)) (mw_or1 (mt_cmp od_gt (me_b (me_ms PySem.F.slot_str_count PySem.F.type_str_count md_count (me_b (me_ix (me_bv 0) (me_b me_int))) (me_bv 3))) (me_b me_int) (nomark _))))))) (fun _ _ _ _ _ => (me_v 3))))) (me_b (me_f (mf_lst ma_nil))) (nomark _)) (mss_one (ms_ret me_bl)) mss_nil) (mss_one (ms_ret (me_call F_law_within (hr.mono (by decide)) (by rfl) (ma_cons (me_ix (me_bv 0) (me_b me_int)) (ma_cons me_int (ma_cons me_int ma_nil))))))))))))
abbrev s_is_clock : Stmt := topS 8
theorem sc_is_clock : FnScope ["value"] ["value"] (defScope s_is_clock) := ⟨rfl, rfl, rfl, by decide +kernel, rfl, by decide +kernel, by decide +kernel⟩
theorem ok_is_clock {f : Addr} {fd : FuncData} (F : FnP K "is_clock" s_is_clock f fd) (hg : mg "is_clock" = some (.ref f)) {f_are_hands : Addr} {fd_are_hands : FuncData} (F_are_hands : FnM P w K mg base 3 "are_hands" f_are_hands fd_are_hands ["value"] false m_are_hands) {f_are_looks : Addr} {fd_are_looks : FuncData} (F_are_looks : FnM P w K mg base 1 "are_looks" f_are_looks fd_are_looks ["value", "many"] false m_are_looks) {f_is_integer : Addr} {fd_is_integer : FuncData} (F_is_integer : FnM P w K mg base 1 "is_integer" f_is_integer fd_is_integer ["value", "low", "high"] false m_is_integer) (z_isinstance : mg "isinstance" = none) (z_len : mg "len" = none) (z_tuple : mg "tuple" = none) : FnM P w K mg base 4 "is_clock" f fd ["value"] false m_is_clock := by
  have nd := sc_is_clock.nd
  refine def_ok (k := 3) F sc_is_clock hg (F.bindsN (ps := ["value"]) fun _ _ _ _ _ _ us hl => match us, hl with | [_], _ => rfl) (fun _ _ _ => rfl) (fun cdv A outer s H E hr => ?_)
  have hu := hu64 hr
  have hu5 := hu65 hr
  exact (mss_cons (ms_if (PW.pt (mw_or (mt_not (mt_val (me_isi ans_tup (by rfl) z_isinstance (by rfl) z_tuple boot_tuple (me_bv 0)))) (mw_or (mt_cmp (od_ne hu) (me_b (me_b1 cd_len (by rfl) z_len boot_len (me_bv 0))) (me_b me_int) (nomark _)) (mw_or1 (mt_not (mt_val (me_call F_are_hands (hr.mono (by decide)) (by rfl) (ma_cons (me_ix (me_bv 0) (me_b me_int)) ma_nil)))))))) (mss_one (ms_ret me_bl)) mss_nil) (mss_one (ms_ret (me_and (me_call F_are_looks (hr.mono (by decide)) (by rfl) (ma_cons (me_ix (me_bv 0) (me_b me_int)) (ma_cons (me_b1 cd_len (by rfl) z_len boot_len (me_b (me_ix (me_bv 0) (me_b me_int)))) ma_nil))) (me_and1 (me_call F_is_integer (hr.mono (by decide)) (by rfl) (ma_cons (me_ix (me_bv 0) (me_b me_int)) (ma_cons me_int (ma_cons me_int ma_nil)))))))))
abbrev s_law_any : Stmt := topS 16
theorem sc_law_any : FnScope ["_law_tape", "_law_deep", "_law_course", "_law_some", "_law_k"] ["_law_tape", "_law_deep"] (defScope s_law_any) := ⟨rfl, rfl, rfl, by decide +kernel, rfl, by decide +kernel, by decide +kernel⟩
theorem ok_law_any {f : Addr} {fd : FuncData} (F : FnP K "_law_any" s_law_any f fd) (hg : mg "_law_any" = some (.ref f)) {f_law_draw : Addr} {fd_law_draw : FuncData} (F_law_draw : FnM P w K mg base 1 "_law_draw" f_law_draw fd_law_draw ["_law_tape", "_law_many"] false m_law_draw) (z_max : mg "max" = none) (z_range : mg "range" = none) (z_tuple : mg "tuple" = none) : ∀ n : Nat, FnM P w K mg base (n + 1) "_law_any" f fd ["_law_tape", "_law_deep"] false (m_law_any n)
  | 0 => fnM_none hg F.kp (F.bindsN (ps := ["_law_tape", "_law_deep"]) fun _ _ _ _ _ _ us hl => match us, hl with | [_, _], _ => rfl)
  | n + 1 => by
    have IH := ok_law_any F hg F_law_draw z_max z_range z_tuple n
    have nd := sc_law_any.nd
    refine def_ok (k := n + 1) F sc_law_any hg (F.bindsN (ps := ["_law_tape", "_law_deep"]) fun _ _ _ _ _ _ us hl => match us, hl with | [_, _], _ => rfl) (fun _ _ _ => rfl) (fun cdv A outer s H E hr => ?_)
    exact (mss_cons (ms_set (i := 2) nd rfl (by first | exact .inl rfl | exact .inr rfl) (me_call F_law_draw (hr.mono (by omega)) (by rfl) (ma_cons (me_v 0) (ma_cons me_int ma_nil)))) (mss_cons (ms_if (PW.pt (mw_and (mt_cmp od_lt (me_bv 2) (me_b me_int) (nomark _)) (mw_and1 (mt_cmp od_gt (me_bv 1) (me_b me_int) (nomark _))))) (mss_cons (ms_setC (i := 3) (own := [("_law_k", 4)]) (vs := [4]) (p := (.nm 4)) rfl nd rfl rfl (sw_true rfl rfl rfl (by decide +kernel)) (mi_range1 (by rfl) z_range (ma_cons (me_call F_law_draw (hr.mono (by omega)) (by rfl) (ma_cons (me_v 0) (ma_cons me_int ma_nil))) ma_nil)) (blkOk_by (N := ["_law_tape", "_law_deep", "_law_course", "_law_some", "_law_k"]) (sc := defScope s_law_any) (by decide +kernel)) (fun _ _ _ _ _ => (mg_name (i := 4) nd rfl (by first | exact .inl rfl | exact .inr rfl))) (fun _ _ _ _ _ => mts_nil) (fun _ _ _ _ _ => (me_call IH hr (by rfl) (ma_cons (me_v 0) (ma_cons (me_bin od_sub (me_bv 1) (me_b me_int)) ma_nil))))) (mss_one (ms_ret (me_ix (me_b (me_f (mf_lst (ma_cons (me_v 3) (ma_cons (me_t1 cd_tuple (by rfl) z_tuple boot_tuple (me_bv 3)) (ma_cons (me_t1 cd_tuple (by rfl) z_tuple boot_tuple (me_bv 3)) (ma_cons (me_t1 cd_tuple (by rfl) z_tuple boot_tuple (me_bv 3)) ma_nil))))))) (me_bv 2))))) mss_nil) (mss_cons (ms_if (mt_cmp od_lt (me_bv 2) (me_b me_int) (nomark _)) (mss_one (ms_ret (me_ix (me_b (me_f (mf_lst (ma_cons (me_bin od_sub (me_b (me_call F_law_draw (hr.mono (by omega)) (by rfl) (ma_cons (me_v 0) (ma_cons me_int ma_nil)))) (me_b me_int)) (ma_cons (me_call F_law_draw (hr.mono (by omega)) (by rfl) (ma_cons (me_v 0) (ma_cons (me_bin od_pow (me_b me_int) (me_b me_int)) ma_nil))) (ma_cons me_int (ma_cons me_int ma_nil))))))) (me_b (me_b2 (cd_max2 rfl) (by rfl) z_max boot_max (me_b me_int) (me_b (me_bin od_sub (me_bv 2) (me_b me_int)))))))) mss_nil) (mss_cons (ms_set (i := 3) nd rfl (by first | exact .inl rfl | exact .inr rfl) (me_f (mf_lst (ma_cons me_str (ma_cons me_str (ma_cons me_str (ma_cons me_str (ma_cons me_str (ma_cons me_str (ma_cons me_str ma_nil)))))))))) (mss_one (ms_ret (me_ix (me_b (me_f (mf_lst (ma_cons me_bl (ma_cons me_bl (ma_cons me_non (ma_cons (me_ix (me_bv 3) (me_b (me_call F_law_draw (hr.mono (by omega)) (by rfl) (ma_cons (me_v 0) (ma_cons me_int ma_nil))))) (ma_cons (me_tup (ma_cons me_int (ma_cons me_int ma_nil))) ma_nil)))))))) (me_b (me_bin od_sub (me_bv 2) (me_b me_int))))))))))
abbrev s_law_like : Stmt := topS 14
theorem sc_law_like : FnScope ["_law_one", "_law_two", "_law_k"] ["_law_one", "_law_two"] (defScope s_law_like) := ⟨rfl, rfl, rfl, by decide +kernel, rfl, by decide +kernel, by decide +kernel⟩
theorem ok_law_like {f : Addr} {fd : FuncData} (F : FnP K "_law_like" s_law_like f fd) (hg : mg "_law_like" = some (.ref f)) (z_bool : mg "bool" = none) (z_isinstance : mg "isinstance" = none) (z_len : mg "len" = none) (z_list : mg "list" = none) (z_range : mg "range" = none) (z_tuple : mg "tuple" = none) : ∀ n : Nat, FnM P w K mg base (n + 0) "_law_like" f fd ["_law_one", "_law_two"] false (m_law_like n)
  | 0 => fnM_none hg F.kp (F.bindsN (ps := ["_law_one", "_law_two"]) fun _ _ _ _ _ _ us hl => match us, hl with | [_, _], _ => rfl)
  | n + 1 => by
    have IH := ok_law_like F hg z_bool z_isinstance z_len z_list z_range z_tuple n
    have nd := sc_law_like.nd
    refine def_ok (k := n + 0) F sc_law_like hg (F.bindsN (ps := ["_law_one", "_law_two"]) fun _ _ _ _ _ _ us hl => match us, hl with | [_, _], _ => rfl) (fun _ _ _ => rfl) (fun cdv A outer s H E hr => ?_)
    have hu := hu64 hr
    have hu5 := hu65 hr
    exact (mss_cons (ms_if (mt_val (me_isi2 (.inl ⟨rfl, rfl⟩) (by rfl) z_isinstance (by rfl) z_list boot_list (by rfl) z_tuple boot_tuple (me_bv 0))) (mss_cons (ms_if (PW.pt (mw_or (mt_cmp (od_ne hu) (me_b (me_isi ans_lst (by rfl) z_isinstance (by rfl) z_list boot_list (me_bv 0))) (me_b (me_isi ans_lst (by rfl) z_isinstance (by rfl) z_list boot_list (me_bv 1))) (nomark _)) (mw_or1 (mt_cmp (od_ne hu) (me_b (me_isi ans_tup (by rfl) z_isinstance (by rfl) z_tuple boot_tuple (me_bv 0))) (me_b (me_isi ans_tup (by rfl) z_isinstance (by rfl) z_tuple boot_tuple (me_bv 1))) (nomark _))))) (mss_one (ms_ret me_bl)) mss_nil) (mss_cons (ms_if (mt_cmp (od_ne hu) (me_b (me_b1 cd_len (by rfl) z_len boot_len (me_bv 0))) (me_b (me_b1 cd_len (by rfl) z_len boot_len (me_bv 1))) (nomark _)) (mss_one (ms_ret me_bl)) mss_nil) (mss_one (ms_ret (me_cmp (od_eq hu) (me_b (me_f (mf_comp (own := [("_law_k", 2)]) (vs := [2]) (p := (.nm 2)) rfl nd (mi_range1 (by rfl) z_range (ma_cons (me_b1 cd_len (by rfl) z_len boot_len (me_bv 0)) ma_nil)) (blkOk_by (N := ["_law_one", "_law_two", "_law_k"]) (sc := defScope s_law_like) (by decide +kernel)) (fun _ _ _ _ _ => (mg_name (i := 2) nd rfl (by first | exact .inl rfl | exact .inr rfl))) (fun _ _ _ _ _ => (mts_one (mt_not (mt_val (me_call IH hr (by rfl) (ma_cons (me_ix (me_bv 0) (me_bv 2)) (ma_cons (me_ix (me_bv 1) (me_bv 2)) ma_nil))))))) (fun _ _ _ _ _ => (me_v 2))))) (me_b (me_f (mf_lst ma_nil))) (nomark _)))))) mss_nil) (mss_cons (ms_if (mt_val (me_isi2 (.inl ⟨rfl, rfl⟩) (by rfl) z_isinstance (by rfl) z_list boot_list (by rfl) z_tuple boot_tuple (me_bv 1))) (mss_one (ms_ret me_bl)) mss_nil) (mss_one (ms_ret (me_and (me_cmp (od_eq hu) (me_b (me_isi ans_bool (by rfl) z_isinstance (by rfl) z_bool boot_bool (me_bv 0))) (me_b (me_isi ans_bool (by rfl) z_isinstance (by rfl) z_bool boot_bool (me_bv 1))) (nomark _)) (me_and1 (me_cmp (od_eq hu) (me_bv 0) (me_bv 1) (nomark _))))))))
abbrev s_law_spoilt : Stmt := topS 15
theorem sc_law_spoilt : FnScope ["_law_tape", "_law_item", "_law_k", "_law_rest", "_law_course", "_law_at"] ["_law_tape", "_law_item"] (defScope s_law_spoilt) := ⟨rfl, rfl, rfl, by decide +kernel, rfl, by decide +kernel, by decide +kernel⟩
theorem ok_law_spoilt {f : Addr} {fd : FuncData} (F : FnP K "_law_spoilt" s_law_spoilt f fd) (hg : mg "_law_spoilt" = some (.ref f)) {f_law_any : Addr} {fd_law_any : FuncData} (F_law_any : FnM P w K mg base 4 "_law_any" f_law_any fd_law_any ["_law_tape", "_law_deep"] false (m_law_any 3)) {f_law_draw : Addr} {fd_law_draw : FuncData} (F_law_draw : FnM P w K mg base 1 "_law_draw" f_law_draw fd_law_draw ["_law_tape", "_law_many"] false m_law_draw) {f_law_whole : Addr} {fd_law_whole : FuncData} (F_law_whole : FnM P w K mg base 1 "_law_whole" f_law_whole fd_law_whole ["_law_item"] false m_law_whole) (z_isinstance : mg "isinstance" = none) (z_len : mg "len" = none) (z_list : mg "list" = none) (z_str : mg "str" = none) (z_tuple : mg "tuple" = none) : ∀ n : Nat, FnM P w K mg base (n + 4) "_law_spoilt" f fd ["_law_tape", "_law_item"] false (m_law_spoilt n)
  | 0 => fnM_none hg F.kp (F.bindsN (ps := ["_law_tape", "_law_item"]) fun _ _ _ _ _ _ us hl => match us, hl with | [_, _], _ => rfl)
  | n + 1 => by
    have IH := ok_law_spoilt F hg F_law_any F_law_draw F_law_whole z_isinstance z_len z_list z_str z_tuple n
    have nd := sc_law_spoilt.nd
    refine def_ok (k := n + 4) F sc_law_spoilt hg (F.bindsN (ps := ["_law_tape", "_law_item"]) fun _ _ _ _ _ _ us hl => match us, hl with | [_, _], _ => rfl) (fun _ _ _ => rfl) (fun cdv A outer s H E hr => ?_)
    have hu := hu64 hr
    have hu5 := hu65 hr
    exact (mss_cons (ms_if (PW.pt (mw_and (mt_val (me_isi2 (.inr ⟨rfl, rfl⟩) (by rfl) z_isinstance (by rfl) z_tuple boot_tuple (by rfl) z_list boot_list (me_bv 1))) (mw_and (mt_cmp od_gt (me_b (me_b1 cd_len (by rfl) z_len boot_len (me_bv 1))) (me_b me_int) (nomark _)) (mw_and1 (mt_cmp od_gt (me_b (me_call F_law_draw (hr.mono (by omega)) (by rfl) (ma_cons (me_v 0) (ma_cons me_int ma_nil)))) (me_b me_int) (nomark _)))))) (mss_cons (ms_set (i := 2) nd rfl (by first | exact .inl rfl | exact .inr rfl) (me_call F_law_draw (hr.mono (by omega)) (by rfl) (ma_cons (me_v 0) (ma_cons (me_b1 cd_len (by rfl) z_len boot_len (me_bv 1)) ma_nil)))) (mss_cons (ms_setO (i := 3) nd rfl (by first | exact .inl rfl | exact .inr rfl) (mf_t1 cd_list (by rfl) z_list boot_list (me_bv 1))) (mss_cons (ms_set (i := 4) nd rfl (by first | exact .inl rfl | exact .inr rfl) (me_call F_law_draw (hr.mono (by omega)) (by rfl) (ma_cons (me_v 0) (ma_cons me_int ma_nil)))) (mss_cons (ms_if (mt_cmp od_lt (me_bv 4) (me_b me_int) (nomark _)) (mss_one (ms_ixO 3 (pv 3) (me_v 2) (me_call IH hr (by rfl) (ma_cons (me_v 0) (ma_cons (me_ix (me_bv 3) (me_bv 2)) ma_nil))))) (mss_one (ms_if (mt_cmp (od_eq hu) (me_bv 4) (me_b me_int) (nomark _)) (mss_one (ms_pop 3 (pv 3) (me_v 2))) (mss_one (ms_if (mt_cmp (od_eq hu) (me_bv 4) (me_b me_int) (nomark _)) (mss_one (ms_ins 3 (pv 3) (me_v 2) (me_ix (me_bv 3) (me_b (me_call F_law_draw (hr.mono (by omega)) (by rfl) (ma_cons (me_v 0) (ma_cons (me_b1 cd_len (by rfl) z_len boot_len (me_bv 3)) ma_nil))))))) (mss_one (ms_if (mt_cmp (od_eq hu) (me_bv 4) (me_b me_int) (nomark _)) (mss_one (ms_setO (i := 3) nd rfl (by first | exact .inl rfl | exact .inr rfl) (mf_rev (me_bv 3)))) (mss_one (ms_ins 3 (pv 3) (me_v 2) (me_call F_law_any (hr.mono (by omega)) (by rfl) (ma_cons (me_v 0) (ma_cons me_int ma_nil)))))))))))) (mss_frz 3 (mss_one (ms_ret (me_if (mt_val (me_isi ans_tup (by rfl) z_isinstance (by rfl) z_tuple boot_tuple (me_bv 1))) (me_t1 cd_tuple (by rfl) z_tuple boot_tuple (me_bv 3)) (me_v 3))))))))) mss_nil) (mss_cons (ms_if (PW.pt (mw_and (mt_val (me_call F_law_whole (hr.mono (by omega)) (by rfl) (ma_cons (me_v 1) ma_nil))) (mw_and1 (mt_cmp od_gt (me_b (me_call F_law_draw (hr.mono (by omega)) (by rfl) (ma_cons (me_v 0) (ma_cons me_int ma_nil)))) (me_b me_int) (nomark _))))) (mss_one (ms_ret (me_bin od_add (me_bv 1) (me_b (me_ix (me_b (me_f (mf_lst (ma_cons me_int (ma_cons (me_un ud_neg (me_b me_int)) (ma_cons me_int (ma_cons (me_un ud_neg (me_b me_int)) (ma_cons me_int (ma_cons me_int ma_nil))))))))) (me_b (me_call F_law_draw (hr.mono (by omega)) (by rfl) (ma_cons (me_v 0) (ma_cons me_int ma_nil))))))))) mss_nil) (mss_cons (ms_if (PW.pt (mw_and (mt_val (me_isi ans_str (by rfl) z_isinstance (by rfl) z_str boot_str (me_bv 1))) (mw_and1 (mt_cmp od_gt (me_b (me_call F_law_draw (hr.mono (by omega)) (by rfl) (ma_cons (me_v 0) (ma_cons me_int ma_nil)))) (me_b me_int) (nomark _))))) (mss_cons (ms_set (i := 5) nd rfl (by first | exact .inl rfl | exact .inr rfl) (me_call F_law_draw (hr.mono (by omega)) (by rfl) (ma_cons (me_v 0) (ma_cons (me_bin od_add (me_b (me_b1 cd_len (by rfl) z_len boot_len (me_bv 1))) (me_b me_int)) ma_nil)))) (mss_one (ms_ret (me_bin od_add (me_b (me_bin od_add (me_b (me_sl (me_bv 1) mo_none (mo_some (me_v 5)))) (me_b (me_ix (me_b (me_f (mf_lst (ma_cons me_str (ma_cons me_str (ma_cons me_str (ma_cons me_str (ma_cons me_str (ma_cons me_str ma_nil))))))))) (me_b (me_call F_law_draw (hr.mono (by omega)) (by rfl) (ma_cons (me_v 0) (ma_cons me_int ma_nil)))))))) (me_b (me_sl (me_bv 1) (mo_some (me_v 5)) mo_none)))))) mss_nil) (mss_cons (ms_if (PW.pt (mw_and (mt_val (me_isi2 (.inr ⟨rfl, rfl⟩) (by rfl) z_isinstance (by rfl) z_tuple boot_tuple (by rfl) z_list boot_list (me_bv 1))) (mw_and1 (mt_cmp (od_eq hu) (me_b (me_call F_law_draw (hr.mono (by omega)) (by rfl) (ma_cons (me_v 0) (ma_cons me_int ma_nil)))) (me_b me_int) (nomark _))))) (mss_one (ms_ret (me_if (mt_val (me_isi ans_tup (by rfl) z_isinstance (by rfl) z_tuple boot_tuple (me_bv 1))) (me_f (mf_t1 cd_list (by rfl) z_list boot_list (me_bv 1))) (me_t1 cd_tuple (by rfl) z_tuple boot_tuple (me_bv 1))))) mss_nil) (mss_one (ms_ret (me_call F_law_any (hr.mono (by omega)) (by rfl) (ma_cons (me_v 0) (ma_cons me_int ma_nil)))))))))
abbrev s_law : Stmt := topS 20
theorem sc_law : FnScope ["_law_script", "_law_tape", "_law_turn", "_law_clock_here", "_law_hands", "_law_looks", "_law_marks", "_law_things", "_law_thing", "_law_k"] ["_law_script"] (defScope s_law) := ⟨rfl, rfl, rfl, by decide +kernel, rfl, by decide +kernel, by decide +kernel⟩
theorem ok_law {f : Addr} {fd : FuncData} (F : FnP K "law" s_law f fd) (hg : mg "law" = some (.ref f)) {f_law_any : Addr} {fd_law_any : FuncData} (F_law_any : FnM P w K mg base 4 "_law_any" f_law_any fd_law_any ["_law_tape", "_law_deep"] false (m_law_any 3)) {f_law_clock : Addr} {fd_law_clock : FuncData} (F_law_clock : FnM P w K mg base 2 "_law_clock" f_law_clock fd_law_clock ["_law_tape", "_law_most"] false m_law_clock) {f_law_is_clock : Addr} {fd_law_is_clock : FuncData} (F_law_is_clock : FnM P w K mg base 3 "_law_is_clock" f_law_is_clock fd_law_is_clock ["_law_value"] false m_law_is_clock) {f_law_like : Addr} {fd_law_like : FuncData} (F_law_like : FnM P w K mg base 8 "_law_like" f_law_like fd_law_like ["_law_one", "_law_two"] false (m_law_like 8)) {f_law_spoilt : Addr} {fd_law_spoilt : FuncData} (F_law_spoilt : FnM P w K mg base 8 "_law_spoilt" f_law_spoilt fd_law_spoilt ["_law_tape", "_law_item"] false (m_law_spoilt 4)) {f_is_clock : Addr} {fd_is_clock : FuncData} (F_is_clock : FnM P w K mg base 4 "is_clock" f_is_clock fd_is_clock ["value"] false m_is_clock) (z_list : mg "list" = none) (z_range : mg "range" = none) : FnM P w K mg base 9 "law" f fd ["_law_script"] false m_law := by
  have nd := sc_law.nd
  refine def_ok (k := 8) F sc_law hg (F.bindsN (ps := ["_law_script"]) fun _ _ _ _ _ _ us hl => match us, hl with | [_], _ => rfl) (fun _ _ _ => rfl) (fun cdv A outer s H E hr => ?_)
  exact (mss_cell (i := 1) nd rfl (by first | exact .inl rfl | exact .inr rfl) (mf_lst (ma_cons (me_f (mf_t1 cd_list (by rfl) z_list boot_list (me_bv 0))) (ma_cons me_int (ma_cons me_int ma_nil)))) (mss_cons (ms_for (p := (.nm 2)) PassesOwn.never rfl (mi_range1 (by rfl) z_range (ma_cons me_int ma_nil)) (mg_name (i := 2) nd rfl (by first | exact .inl rfl | exact .inr rfl)) (mss_cons (ms_set (i := 3) nd rfl (by first | exact .inl rfl | exact .inr rfl) (me_call F_law_clock (hr.mono (by decide)) (by rfl) (ma_cons (me_v 1) (ma_cons (me_bin od_pow (me_b me_int) (me_b me_int)) ma_nil)))) (mss_cons (ms_asg (p := (.tup [(.nm 4), (.nm 5), (.nm 6)])) (me_v 3) (mg_tup rfl (mgs_cons (mg_name (i := 4) nd rfl (by first | exact .inl rfl | exact .inr rfl)) (mgs_cons (mg_name (i := 5) nd rfl (by first | exact .inl rfl | exact .inr rfl)) (mgs_cons (mg_name (i := 6) nd rfl (by first | exact .inl rfl | exact .inr rfl)) mgs_nil))))) (mss_cons (ms_set (i := 7) nd rfl (by first | exact .inl rfl | exact .inr rfl) (me_f (mf_lst (ma_cons (me_v 3) (ma_cons (me_f (mf_t1 cd_list (by rfl) z_list boot_list (me_bv 3))) (ma_cons (me_tup (ma_cons (me_v 4) (ma_cons (me_v 5) ma_nil))) (ma_cons (me_tup (ma_cons (me_v 4) (ma_cons (me_v 5) (ma_cons me_int ma_nil)))) (ma_cons (me_tup (ma_cons (me_v 4) (ma_cons (me_v 5) (ma_cons me_int ma_nil)))) ma_nil)))))))) (mss_cons (ms_set (i := 7) nd rfl (by first | exact .inl rfl | exact .inr rfl) (me_bin od_add (me_bv 7) (me_b (me_f (mf_lst (ma_cons (me_tup (ma_cons (me_v 4) (ma_cons (me_bin od_add (me_bv 5) (me_b me_str)) (ma_cons (me_v 6) ma_nil)))) (ma_cons (me_tup (ma_cons (me_f (mf_t1 cd_list (by rfl) z_list boot_list (me_bv 4))) (ma_cons (me_v 5) (ma_cons (me_v 6) ma_nil)))) ma_nil))))))) (mss_cons (ms_set (i := 7) nd rfl (by first | exact .inl rfl | exact .inr rfl) (me_bin od_add (me_bv 7) (me_b (me_f (mf_lst (ma_cons (me_tup (ma_cons (me_bin od_add (me_bv 4) (me_b (me_tup (ma_cons me_int ma_nil)))) (ma_cons (me_bin od_add (me_bv 5) (me_b me_str)) (ma_cons (me_v 6) ma_nil)))) (ma_cons (me_tup (ma_cons (me_sl (me_bv 4) mo_none (mo_some me_int)) (ma_cons (me_sl (me_bv 5) mo_none (mo_some me_int)) (ma_cons (me_v 6) ma_nil)))) ma_nil))))))) (mss_cons (ms_set (i := 7) nd rfl (by first | exact .inl rfl | exact .inr rfl) (me_bin od_add (me_bv 7) (me_b (me_f (mf_lst (ma_cons (me_tup (ma_cons (me_tup (ma_cons me_int (ma_cons me_int (ma_cons me_int (ma_cons me_int ma_nil))))) (ma_cons me_str (ma_cons me_int ma_nil)))) (ma_cons (me_tup (ma_cons (me_tup (ma_cons me_int (ma_cons me_int (ma_cons me_int (ma_cons me_int ma_nil))))) (ma_cons me_str (ma_cons me_int ma_nil)))) ma_nil))))))) (mss_cons (ms_set (i := 7) nd rfl (by first | exact .inl rfl | exact .inr rfl) (me_bin od_add (me_bv 7) (me_b (me_f (mf_lst (ma_cons (me_tup (ma_cons (me_tup (ma_cons me_int (ma_cons me_int ma_nil))) (ma_cons me_str (ma_cons me_int ma_nil)))) (ma_cons (me_tup (ma_cons (me_tup (ma_cons me_int (ma_cons (me_bin od_pow (me_b me_int) (me_b me_int)) ma_nil))) (ma_cons me_str (ma_cons me_int ma_nil)))) (ma_cons (me_tup (ma_cons (me_tup (ma_cons me_int (ma_cons (me_bin od_add (me_b (me_bin od_pow (me_b me_int) (me_b me_int))) (me_b me_int)) ma_nil))) (ma_cons me_str (ma_cons me_int ma_nil)))) ma_nil)))))))) (mss_cons (ms_set (i := 7) nd rfl (by first | exact .inl rfl | exact .inr rfl) (me_bin od_add (me_bv 7) (me_b (me_f (mf_lst (ma_cons (me_tup (ma_cons (me_tup (ma_cons me_int (ma_cons (me_un ud_neg (me_b (me_bin od_pow (me_b me_int) (me_b me_int)))) ma_nil))) (ma_cons me_str (ma_cons me_int ma_nil)))) (ma_cons (me_tup (ma_cons (me_tup (ma_cons me_int (ma_cons me_bl ma_nil))) (ma_cons me_str (ma_cons me_int ma_nil)))) (ma_cons me_non ma_nil)))))))) (mss_one (ms_for (p := (.nm 8)) PassesOwn.never rfl (mi_any (me_bin od_add (me_b (me_bin od_add (me_bv 7) (me_b (me_f (mf_comp (own := [("_law_k", 9)]) (vs := [9]) (p := (.nm 9)) rfl nd (mi_range1 (by rfl) z_range (ma_cons me_int ma_nil)) (blkOk_by (N := ["_law_script", "_law_tape", "_law_turn", "_law_clock_here", "_law_hands", "_law_looks", "_law_marks", "_law_things", "_law_thing", "_law_k"]) (sc := defScope s_law) (by decide +kernel)) (fun _ _ _ _ _ => (mg_name (i := 9) nd rfl (by first | exact .inl rfl | exact .inr rfl))) (fun _ _ _ _ _ => mts_nil) (fun _ _ _ _ _ => (me_call F_law_spoilt (hr.mono (by decide)) (by rfl) (ma_cons (me_v 1) (ma_cons (me_v 3) ma_nil))))))))) (me_b (me_f (mf_lst (ma_cons (me_call F_law_any (hr.mono (by decide)) (by rfl) (ma_cons (me_v 1) (ma_cons me_int ma_nil))) ma_nil)))))) (mg_name (i := 8) nd rfl (by first | exact .inl rfl | exact .inr rfl)) (mss_one (ms_if (mt_not (mt_val (me_call F_law_like (hr.mono (by decide)) (by rfl) (ma_cons (me_call F_is_clock (hr.mono (by decide)) (by rfl) (ma_cons (me_v 8) ma_nil)) (ma_cons (me_call F_law_is_clock (hr.mono (by decide)) (by rfl) (ma_cons (me_v 8) ma_nil)) ma_nil))))) (mss_one (ms_ret me_bl)) mss_nil))))))))))))) (mss_one (ms_ret (me_cmp od_isB (me_b (me_call F_is_clock (hr.mono (by decide)) (by rfl) (ma_cons (me_tup (ma_cons (me_sl (me_b (me_tup (ma_cons me_int (ma_cons me_int (ma_cons me_int (ma_cons me_int (ma_cons me_int ma_nil))))))) mo_none (mo_some me_int)) (ma_cons me_str (ma_cons me_int ma_nil)))) ma_nil))) (me_b me_bl) (nomark _))))))
end
def h_divisor : He.DefD := ⟨("divisor", none), "divisor", "divisor", defArgs s_divisor, defBody s_divisor, defScope s_divisor, [], []⟩
def h_is_integer : He.DefD := ⟨("is_integer", none), "is_integer", "is_integer", defArgs s_is_integer, defBody s_is_integer, defScope s_is_integer, [], []⟩
def h_are_hands : He.DefD := ⟨("are_hands", none), "are_hands", "are_hands", defArgs s_are_hands, defBody s_are_hands, defScope s_are_hands, [], []⟩
def h_are_looks : He.DefD := ⟨("are_looks", none), "are_looks", "are_looks", defArgs s_are_looks, defBody s_are_looks, defScope s_are_looks, [], []⟩
def h_is_clock : He.DefD := ⟨("is_clock", none), "is_clock", "is_clock", defArgs s_is_clock, defBody s_is_clock, defScope s_is_clock, [], []⟩
def h_common_divisor : He.DefD := ⟨("common_divisor", none), "common_divisor", "common_divisor", defArgs s_common_divisor, defBody s_common_divisor, defScope s_common_divisor, [], []⟩
def h_law_draw : He.DefD := ⟨("_law_draw", none), "_law_draw", "_law_draw", defArgs s_law_draw, defBody s_law_draw, defScope s_law_draw, [], []⟩
def h_law_whole : He.DefD := ⟨("_law_whole", none), "_law_whole", "_law_whole", defArgs s_law_whole, defBody s_law_whole, defScope s_law_whole, [], []⟩
def h_law_within : He.DefD := ⟨("_law_within", none), "_law_within", "_law_within", defArgs s_law_within, defBody s_law_within, defScope s_law_within, [], []⟩
def h_law_like : He.DefD := ⟨("_law_like", none), "_law_like", "_law_like", defArgs s_law_like, defBody s_law_like, defScope s_law_like, [], []⟩
def h_law_spoilt : He.DefD := ⟨("_law_spoilt", none), "_law_spoilt", "_law_spoilt", defArgs s_law_spoilt, defBody s_law_spoilt, defScope s_law_spoilt, [], []⟩
def h_law_any : He.DefD := ⟨("_law_any", none), "_law_any", "_law_any", defArgs s_law_any, defBody s_law_any, defScope s_law_any, [], []⟩
def h_law_gcd : He.DefD := ⟨("_law_gcd", none), "_law_gcd", "_law_gcd", defArgs s_law_gcd, defBody s_law_gcd, defScope s_law_gcd, [], []⟩
def h_law_clock : He.DefD := ⟨("_law_clock", none), "_law_clock", "_law_clock", defArgs s_law_clock, defBody s_law_clock, defScope s_law_clock, [], []⟩
def h_law_is_clock : He.DefD := ⟨("_law_is_clock", none), "_law_is_clock", "_law_is_clock", defArgs s_law_is_clock, defBody s_law_is_clock, defScope s_law_is_clock, [], []⟩
def h_law : He.DefD := ⟨("law", none), "law", "law", defArgs s_law, defBody s_law, defScope s_law, [], []⟩
def fnT : List He.DefD := [h_divisor, h_is_integer, h_are_hands, h_are_looks, h_is_clock, h_common_divisor, h_law_draw, h_law_whole, h_law_within, h_law_like, h_law_spoilt, h_law_any, h_law_gcd, h_law_clock, h_law_is_clock, h_law]
def faT : List He.Fa := [.glo "divisor", .glo "is_integer", .glo "are_hands", .glo "are_looks", .glo "is_clock", .glo "common_divisor", .glo "_law_draw", .glo "_law_whole", .glo "_law_within", .glo "_law_like", .glo "_law_spoilt", .glo "_law_any", .glo "_law_gcd", .glo "_law_clock", .glo "_law_is_clock", .glo "law", .free "abs", .free "all", .free "bool", .free "int", .free "isinstance", .free "len", .free "list", .free "max", .free "range", .free "str", .free "tuple", .int "FASTEST" (1000000), .str "LOOKS" "abcd"]
abbrev RR : PySem.W.OpenRow := PySem.W.OpenLaw.row PySem.Challenge.rw_unclearhands_k01_clocks_recognized
abbrev hkT : PySem.W.Hook := He.hookD 4 faT fnT
def obT (s : PySem.W.SharedT) : He.AlD := He.obsDG 4 faT fnT (HandSHeadRun.getT s)
theorem ob_eq (s : PySem.W.SharedT) : obT s = hkT.obs s.abs := He.obsDG_eq (HandSHeadRun.getT_eq s)
def looseT : List Str := (["divisor", "is_integer", "are_hands", "are_looks", "is_clock", "common_divisor", "_law_draw", "_law_whole", "_law_within", "_law_like", "_law_spoilt", "_law_any", "_law_gcd", "_law_clock", "_law_is_clock", "FASTEST", "LOOKS"] : List Str)
theorem runT (w : World) : HandSHeadRun.RunEq RR (PySem.W.view RR.prog [20]) hkT obT 4000 looseT w := by
  intro os
  kernel_rfl
theorem factsT {P : Program} {w : World} {K : PySem.W.Frag} {h : Heap} {mg : Str → Option Value} {f : Addr} (X : K.In h) (G : h.Ns mainGlobals mg) (hfa : mg ("law" : Str) = some (.ref f)) (c : He.SaysD faT fnT K) :
    ∃ fd : FuncData, (∀ (s : Shared) (v : Value), BindsTo s fd ⟨[v], []⟩ [("_law_script", v)]) ∧ ∀ base : Heap, K.In base → base.Ns mainGlobals mg → FnOk P w K mg base CX0 9 f fd ["_law_script"] (spM false K 1 m_law) := by
  obtain ⟨fd_divisor, D_divisor⟩ := c.def_ 0 (d := h_divisor) rfl
  obtain ⟨fd_is_integer, D_is_integer⟩ := c.def_ 1 (d := h_is_integer) rfl
  obtain ⟨fd_are_hands, D_are_hands⟩ := c.def_ 2 (d := h_are_hands) rfl
  obtain ⟨fd_are_looks, D_are_looks⟩ := c.def_ 3 (d := h_are_looks) rfl
  obtain ⟨fd_is_clock, D_is_clock⟩ := c.def_ 4 (d := h_is_clock) rfl
  obtain ⟨fd_common_divisor, D_common_divisor⟩ := c.def_ 5 (d := h_common_divisor) rfl
  obtain ⟨fd_law_draw, D_law_draw⟩ := c.def_ 6 (d := h_law_draw) rfl
  obtain ⟨fd_law_whole, D_law_whole⟩ := c.def_ 7 (d := h_law_whole) rfl
  obtain ⟨fd_law_within, D_law_within⟩ := c.def_ 8 (d := h_law_within) rfl
  obtain ⟨fd_law_like, D_law_like⟩ := c.def_ 9 (d := h_law_like) rfl
  obtain ⟨fd_law_spoilt, D_law_spoilt⟩ := c.def_ 10 (d := h_law_spoilt) rfl
  obtain ⟨fd_law_any, D_law_any⟩ := c.def_ 11 (d := h_law_any) rfl
  obtain ⟨fd_law_gcd, D_law_gcd⟩ := c.def_ 12 (d := h_law_gcd) rfl
  obtain ⟨fd_law_clock, D_law_clock⟩ := c.def_ 13 (d := h_law_clock) rfl
  obtain ⟨fd_law_is_clock, D_law_is_clock⟩ := c.def_ 14 (d := h_law_is_clock) rfl
  obtain ⟨fd_law, D_law⟩ := c.def_ 15 (d := h_law) rfl
  have e := hfa.symm.trans (He.glo_ok X G (c.fact 15 (f := .glo "law") rfl))
  cases e
  have hb : ∀ (s : Shared) (v : Value), BindsTo s fd_law ⟨[v], []⟩ [("_law_script", v)] := fun s v => FunD.bindsA (ps := ["_law_script"]) D_law (fun _ _ _ _ _ _ us hl => match us, hl with | [_], _ => rfl) s [v] rfl
  refine ⟨fd_law, hb, fun base KB GB => ?_⟩
  have z_abs : mg "abs" = none := He.free_ok X G (c.fact 16 (f := .free "abs") rfl)
  have z_all : mg "all" = none := He.free_ok X G (c.fact 17 (f := .free "all") rfl)
  have z_bool : mg "bool" = none := He.free_ok X G (c.fact 18 (f := .free "bool") rfl)
  have z_int : mg "int" = none := He.free_ok X G (c.fact 19 (f := .free "int") rfl)
  have z_isinstance : mg "isinstance" = none := He.free_ok X G (c.fact 20 (f := .free "isinstance") rfl)
  have z_len : mg "len" = none := He.free_ok X G (c.fact 21 (f := .free "len") rfl)
  have z_list : mg "list" = none := He.free_ok X G (c.fact 22 (f := .free "list") rfl)
  have z_max : mg "max" = none := He.free_ok X G (c.fact 23 (f := .free "max") rfl)
  have z_range : mg "range" = none := He.free_ok X G (c.fact 24 (f := .free "range") rfl)
  have z_str : mg "str" = none := He.free_ok X G (c.fact 25 (f := .free "str") rfl)
  have z_tuple : mg "tuple" = none := He.free_ok X G (c.fact 26 (f := .free "tuple") rfl)
  obtain ⟨t_FASTEST, e_FASTEST⟩ := He.int_ok X G (c.fact 27 (f := .int "FASTEST" (1000000)) rfl)
  have c_FASTEST : KC K mg "FASTEST" k_FASTEST := ⟨.int (1000000), .int (1000000) t_FASTEST, e_FASTEST, ⟨t_FASTEST, rfl⟩, KD.int (1000000)⟩
  obtain ⟨t_LOOKS, e_LOOKS⟩ := He.str_ok X G (c.fact 28 (f := .str "LOOKS" "abcd") rfl)
  have c_LOOKS : KC K mg "LOOKS" k_LOOKS := ⟨.str "abcd", .str "abcd" t_LOOKS, e_LOOKS, ⟨t_LOOKS, rfl⟩, KD.str "abcd"⟩
  have F_divisor := ok_divisor (P := P) (w := w) (base := base) D_divisor (He.glo_ok X G (c.fact 0 (f := .glo "divisor") rfl)) z_abs
  have F_is_integer := ok_is_integer (P := P) (w := w) (base := base) D_is_integer (He.glo_ok X G (c.fact 1 (f := .glo "is_integer") rfl)) z_bool z_int z_isinstance
  have F_are_looks := ok_are_looks (P := P) (w := w) (base := base) D_are_looks (He.glo_ok X G (c.fact 3 (f := .glo "are_looks") rfl)) c_LOOKS z_all z_isinstance z_len z_str
  have F_law_draw := ok_law_draw (P := P) (w := w) (base := base) D_law_draw (He.glo_ok X G (c.fact 6 (f := .glo "_law_draw") rfl)) z_int z_len
  have F_law_whole := ok_law_whole (P := P) (w := w) (base := base) D_law_whole (He.glo_ok X G (c.fact 7 (f := .glo "_law_whole") rfl)) z_bool z_int z_isinstance
  have F_law_gcd := ok_law_gcd (P := P) (w := w) (base := base) D_law_gcd (He.glo_ok X G (c.fact 12 (f := .glo "_law_gcd") rfl)) z_abs z_int
  have F_common_divisor := ok_common_divisor (P := P) (w := w) (base := base) D_common_divisor (He.glo_ok X G (c.fact 5 (f := .glo "common_divisor") rfl)) F_divisor
  have F_law_within := ok_law_within (P := P) (w := w) (base := base) D_law_within (He.glo_ok X G (c.fact 8 (f := .glo "_law_within") rfl)) F_law_whole
  have F_law_clock := ok_law_clock (P := P) (w := w) (base := base) D_law_clock (He.glo_ok X G (c.fact 13 (f := .glo "_law_clock") rfl)) F_law_draw F_law_gcd z_range z_tuple
  have F_are_hands := ok_are_hands (P := P) (w := w) (base := base) D_are_hands (He.glo_ok X G (c.fact 2 (f := .glo "are_hands") rfl)) F_common_divisor F_is_integer c_FASTEST z_all z_isinstance z_len z_tuple
  have F_law_is_clock := ok_law_is_clock (P := P) (w := w) (base := base) D_law_is_clock (He.glo_ok X G (c.fact 14 (f := .glo "_law_is_clock") rfl)) F_law_gcd F_law_within z_isinstance z_len z_str z_tuple
  have F_is_clock := ok_is_clock (P := P) (w := w) (base := base) D_is_clock (He.glo_ok X G (c.fact 4 (f := .glo "is_clock") rfl)) F_are_hands F_are_looks F_is_integer z_isinstance z_len z_tuple
  have F_law_any := ok_law_any (P := P) (w := w) (base := base) D_law_any (He.glo_ok X G (c.fact 11 (f := .glo "_law_any") rfl)) F_law_draw z_max z_range z_tuple 3
  have F_law_like := ok_law_like (P := P) (w := w) (base := base) D_law_like (He.glo_ok X G (c.fact 9 (f := .glo "_law_like") rfl)) z_bool z_isinstance z_len z_list z_range z_tuple 8
  have F_law_spoilt := ok_law_spoilt (P := P) (w := w) (base := base) D_law_spoilt (He.glo_ok X G (c.fact 10 (f := .glo "_law_spoilt") rfl)) F_law_any F_law_draw F_law_whole z_isinstance z_len z_list z_str z_tuple 4
  have F_law := ok_law (P := P) (w := w) (base := base) D_law (He.glo_ok X G (c.fact 15 (f := .glo "law") rfl)) F_law_any F_law_clock F_law_is_clock F_law_like F_law_spoilt F_is_clock z_list z_range
  exact F_law.ok
end K
namespace K
open DL
open L2 (atI ixN)
theorem gcd_loop (n : Nat) : ∀ (a b : Nat) (ρ0 ρ1 : Slot) (S : List D), b < n → whileN (cV (eBin dGt (eB 3) (eC (.int 0)))) (sPar 2 3 (eV 3) (eBin dMod (eB 2) (eB 3))) n [ρ0, ρ1, .val (.int a), .val (.int b)] S
    = some (.nx [ρ0, ρ1, .val (.int (Nat.gcd b a)), .val (.int 0)] S) := by
  induction n with
  | zero => intro a b _ _ _ h; omega
  | succ n ih =>
    intro a b ρ0 ρ1 S h
    rw [ev_while]
    by_cases hb : b = 0
    · subst hb
      have hn : ¬ (0 : Int) < ((0 : Nat) : Int) := by omega
      simp only [ev_C, ev_V, ev_B, ev_aN, ev_aC, ev_Tup, ev_Lst, ev_Bin, ev_Un, ev_UnF, ev_cV, ev_cAnd, ev_cOr, ev_cNot, ev_cYes, ev_And, ev_Or, ev_Not, ev_If, ev_Chain, ev_Call, ev_Ix, ev_Sl, ev_oN, ev_oE, ev_aS, ev_Comp, ev_iAny, ev_iRange1, ev_iRange2, ev_iZip, ev_iEnum, ev_sNil, ev_sSeq, ev_sIf, ev_sRet, ev_sRetO, ev_sRetN, ev_sAsg, ev_sSet, ev_sSetO, ev_sPar, ev_sFor, ev_sWhile, ev_sApp, ev_sIxO, ev_sIxC, ev_sFrz, ev_sExp, ev_sPass, ev_runB, ev_forN, ev_compN, ev_put0, ev_put1, ev_wipe0, ev_wipe1, ev_bnm, ev_btup, ev_bL0, ev_bL1, dv_add, dv_sub, dv_neg, dv_lt, dv_le, dv_gt, dv_ge, dv_int, dv_abs, dv_lenL, dv_lenT, dv_tupL, dv_tupT, dv_lofL, dv_lofT, dv_lofS, dv_seqL, dv_seqT, dv_ixL, dv_ixT, dv_ixO, atI_0, atI_1, atI_2, Option.bind_some, Option.bind_none, List.getElem?_cons_zero, List.getElem?_cons_succ, List.getElem?_nil, List.set_cons_zero, List.set_cons_succ, List.set_nil, List.length_cons, List.length_nil, List.map_cons, List.map_nil, List.replicate_succ, List.replicate_zero, List.cons_append, List.nil_append, Nat.reduceAdd, Nat.reduceSub, Nat.reduceLeDiff, Nat.zero_add, Nat.sub_zero, Nat.add_zero, if_true, if_false, Bool.false_eq_true, Nat.reduceEqDiff, Bool.not_true, Bool.not_false, decide_true, decide_false, ev_nat, decide_eq_false hn]
      rw [Nat.gcd_zero_left]
      rfl
    · have hp : (0 : Int) < b := by omega
      have := ih b (a % b) ρ0 ρ1 S (by have := Nat.mod_lt a (show b > 0 by omega); omega)
      simp only [ev_C, ev_V, ev_B, ev_aN, ev_aC, ev_Tup, ev_Lst, ev_Bin, ev_Un, ev_UnF, ev_cV, ev_cAnd, ev_cOr, ev_cNot, ev_cYes, ev_And, ev_Or, ev_Not, ev_If, ev_Chain, ev_Call, ev_Ix, ev_Sl, ev_oN, ev_oE, ev_aS, ev_Comp, ev_iAny, ev_iRange1, ev_iRange2, ev_iZip, ev_iEnum, ev_sNil, ev_sSeq, ev_sIf, ev_sRet, ev_sRetO, ev_sRetN, ev_sAsg, ev_sSet, ev_sSetO, ev_sPar, ev_sFor, ev_sWhile, ev_sApp, ev_sIxO, ev_sIxC, ev_sFrz, ev_sExp, ev_sPass, ev_runB, ev_forN, ev_compN, ev_put0, ev_put1, ev_wipe0, ev_wipe1, ev_bnm, ev_btup, ev_bL0, ev_bL1, dv_add, dv_sub, dv_neg, dv_lt, dv_le, dv_gt, dv_ge, dv_int, dv_abs, dv_lenL, dv_lenT, dv_tupL, dv_tupT, dv_lofL, dv_lofT, dv_lofS, dv_seqL, dv_seqT, dv_ixL, dv_ixT, dv_ixO, atI_0, atI_1, atI_2, Option.bind_some, Option.bind_none, List.getElem?_cons_zero, List.getElem?_cons_succ, List.getElem?_nil, List.set_cons_zero, List.set_cons_succ, List.set_nil, List.length_cons, List.length_nil, List.map_cons, List.map_nil, List.replicate_succ, List.replicate_zero, List.cons_append, List.nil_append, Nat.reduceAdd, Nat.reduceSub, Nat.reduceLeDiff, Nat.zero_add, Nat.sub_zero, Nat.add_zero, if_true, if_false, Bool.false_eq_true, Nat.reduceEqDiff, Bool.not_true, Bool.not_false, decide_true, decide_false, ev_nat, decide_eq_true hp, dv_mod _ _ hp]
      rw [← Int.natCast_emod, this, Nat.gcd_rec b a]
theorem gcd_loop2 (n : Nat) : ∀ (a b : Nat) (ρ0 ρ1 : Slot) (S : List D), b < n → whileN (cV (eBin dGt (eB 3) (eC (.int 0)))) (sPar 2 3 (eV 3) (eBin dMod (eUn dInt (eB 2)) (eB 3))) n [ρ0, ρ1, .val (.int a), .val (.int b)] S
    = some (.nx [ρ0, ρ1, .val (.int (Nat.gcd b a)), .val (.int 0)] S) := by
  induction n with
  | zero => intro a b _ _ _ h; omega
  | succ n ih =>
    intro a b ρ0 ρ1 S h
    rw [ev_while]
    by_cases hb : b = 0
    · subst hb
      have hn : ¬ (0 : Int) < ((0 : Nat) : Int) := by omega
      simp only [ev_C, ev_V, ev_B, ev_aN, ev_aC, ev_Tup, ev_Lst, ev_Bin, ev_Un, ev_UnF, ev_cV, ev_cAnd, ev_cOr, ev_cNot, ev_cYes, ev_And, ev_Or, ev_Not, ev_If, ev_Chain, ev_Call, ev_Ix, ev_Sl, ev_oN, ev_oE, ev_aS, ev_Comp, ev_iAny, ev_iRange1, ev_iRange2, ev_iZip, ev_iEnum, ev_sNil, ev_sSeq, ev_sIf, ev_sRet, ev_sRetO, ev_sRetN, ev_sAsg, ev_sSet, ev_sSetO, ev_sPar, ev_sFor, ev_sWhile, ev_sApp, ev_sIxO, ev_sIxC, ev_sFrz, ev_sExp, ev_sPass, ev_runB, ev_forN, ev_compN, ev_put0, ev_put1, ev_wipe0, ev_wipe1, ev_bnm, ev_btup, ev_bL0, ev_bL1, dv_add, dv_sub, dv_neg, dv_lt, dv_le, dv_gt, dv_ge, dv_int, dv_abs, dv_lenL, dv_lenT, dv_tupL, dv_tupT, dv_lofL, dv_lofT, dv_lofS, dv_seqL, dv_seqT, dv_ixL, dv_ixT, dv_ixO, atI_0, atI_1, atI_2, Option.bind_some, Option.bind_none, List.getElem?_cons_zero, List.getElem?_cons_succ, List.getElem?_nil, List.set_cons_zero, List.set_cons_succ, List.set_nil, List.length_cons, List.length_nil, List.map_cons, List.map_nil, List.replicate_succ, List.replicate_zero, List.cons_append, List.nil_append, Nat.reduceAdd, Nat.reduceSub, Nat.reduceLeDiff, Nat.zero_add, Nat.sub_zero, Nat.add_zero, if_true, if_false, Bool.false_eq_true, Nat.reduceEqDiff, Bool.not_true, Bool.not_false, decide_true, decide_false, ev_nat, decide_eq_false hn]
      rw [Nat.gcd_zero_left]
      rfl
    · have hp : (0 : Int) < b := by omega
      have := ih b (a % b) ρ0 ρ1 S (by have := Nat.mod_lt a (show b > 0 by omega); omega)
      simp only [ev_C, ev_V, ev_B, ev_aN, ev_aC, ev_Tup, ev_Lst, ev_Bin, ev_Un, ev_UnF, ev_cV, ev_cAnd, ev_cOr, ev_cNot, ev_cYes, ev_And, ev_Or, ev_Not, ev_If, ev_Chain, ev_Call, ev_Ix, ev_Sl, ev_oN, ev_oE, ev_aS, ev_Comp, ev_iAny, ev_iRange1, ev_iRange2, ev_iZip, ev_iEnum, ev_sNil, ev_sSeq, ev_sIf, ev_sRet, ev_sRetO, ev_sRetN, ev_sAsg, ev_sSet, ev_sSetO, ev_sPar, ev_sFor, ev_sWhile, ev_sApp, ev_sIxO, ev_sIxC, ev_sFrz, ev_sExp, ev_sPass, ev_runB, ev_forN, ev_compN, ev_put0, ev_put1, ev_wipe0, ev_wipe1, ev_bnm, ev_btup, ev_bL0, ev_bL1, dv_add, dv_sub, dv_neg, dv_lt, dv_le, dv_gt, dv_ge, dv_int, dv_abs, dv_lenL, dv_lenT, dv_tupL, dv_tupT, dv_lofL, dv_lofT, dv_lofS, dv_seqL, dv_seqT, dv_ixL, dv_ixT, dv_ixO, atI_0, atI_1, atI_2, Option.bind_some, Option.bind_none, List.getElem?_cons_zero, List.getElem?_cons_succ, List.getElem?_nil, List.set_cons_zero, List.set_cons_succ, List.set_nil, List.length_cons, List.length_nil, List.map_cons, List.map_nil, List.replicate_succ, List.replicate_zero, List.cons_append, List.nil_append, Nat.reduceAdd, Nat.reduceSub, Nat.reduceLeDiff, Nat.zero_add, Nat.sub_zero, Nat.add_zero, if_true, if_false, Bool.false_eq_true, Nat.reduceEqDiff, Bool.not_true, Bool.not_false, decide_true, decide_false, ev_nat, decide_eq_true hp, dv_mod _ _ hp]
      rw [← Int.natCast_emod, this, Nat.gcd_rec b a]
theorem m_divisor_eq (a b : Int) (S : List D) : m_divisor [.int a, .int b] S = some (.int (Int.gcd a b), S) := by
  unfold m_divisor g_divisor
  simp only [ev_C, ev_V, ev_B, ev_aN, ev_aC, ev_Tup, ev_Lst, ev_Bin, ev_Un, ev_UnF, ev_cV, ev_cAnd, ev_cOr, ev_cNot, ev_cYes, ev_And, ev_Or, ev_Not, ev_If, ev_Chain, ev_Call, ev_Ix, ev_Sl, ev_oN, ev_oE, ev_aS, ev_Comp, ev_iAny, ev_iRange1, ev_iRange2, ev_iZip, ev_iEnum, ev_sNil, ev_sSeq, ev_sIf, ev_sRet, ev_sRetO, ev_sRetN, ev_sAsg, ev_sSet, ev_sSetO, ev_sPar, ev_sFor, ev_sWhile, ev_sApp, ev_sIxO, ev_sIxC, ev_sFrz, ev_sExp, ev_sPass, ev_runB, ev_forN, ev_compN, ev_put0, ev_put1, ev_wipe0, ev_wipe1, ev_bnm, ev_btup, ev_bL0, ev_bL1, dv_add, dv_sub, dv_neg, dv_lt, dv_le, dv_gt, dv_ge, dv_int, dv_abs, dv_lenL, dv_lenT, dv_tupL, dv_tupT, dv_lofL, dv_lofT, dv_lofS, dv_seqL, dv_seqT, dv_ixL, dv_ixT, dv_ixO, atI_0, atI_1, atI_2, Option.bind_some, Option.bind_none, List.getElem?_cons_zero, List.getElem?_cons_succ, List.getElem?_nil, List.set_cons_zero, List.set_cons_succ, List.set_nil, List.length_cons, List.length_nil, List.map_cons, List.map_nil, List.replicate_succ, List.replicate_zero, List.cons_append, List.nil_append, Nat.reduceAdd, Nat.reduceSub, Nat.reduceLeDiff, Nat.zero_add, Nat.sub_zero, Nat.add_zero, if_true, if_false, Bool.false_eq_true, Nat.reduceEqDiff, Bool.not_true, Bool.not_false, decide_true, decide_false, ev_nat]
  rw [gcd_loop _ _ _ _ _ _ (by rw [Int.natAbs_natCast]; exact Nat.lt_succ_self _)]
  simp only [ev_C, ev_V, ev_B, ev_aN, ev_aC, ev_Tup, ev_Lst, ev_Bin, ev_Un, ev_UnF, ev_cV, ev_cAnd, ev_cOr, ev_cNot, ev_cYes, ev_And, ev_Or, ev_Not, ev_If, ev_Chain, ev_Call, ev_Ix, ev_Sl, ev_oN, ev_oE, ev_aS, ev_Comp, ev_iAny, ev_iRange1, ev_iRange2, ev_iZip, ev_iEnum, ev_sNil, ev_sSeq, ev_sIf, ev_sRet, ev_sRetO, ev_sRetN, ev_sAsg, ev_sSet, ev_sSetO, ev_sPar, ev_sFor, ev_sWhile, ev_sApp, ev_sIxO, ev_sIxC, ev_sFrz, ev_sExp, ev_sPass, ev_runB, ev_forN, ev_compN, ev_put0, ev_put1, ev_wipe0, ev_wipe1, ev_bnm, ev_btup, ev_bL0, ev_bL1, dv_add, dv_sub, dv_neg, dv_lt, dv_le, dv_gt, dv_ge, dv_int, dv_abs, dv_lenL, dv_lenT, dv_tupL, dv_tupT, dv_lofL, dv_lofT, dv_lofS, dv_seqL, dv_seqT, dv_ixL, dv_ixT, dv_ixO, atI_0, atI_1, atI_2, Option.bind_some, Option.bind_none, List.getElem?_cons_zero, List.getElem?_cons_succ, List.getElem?_nil, List.set_cons_zero, List.set_cons_succ, List.set_nil, List.length_cons, List.length_nil, List.map_cons, List.map_nil, List.replicate_succ, List.replicate_zero, List.cons_append, List.nil_append, Nat.reduceAdd, Nat.reduceSub, Nat.reduceLeDiff, Nat.zero_add, Nat.sub_zero, Nat.add_zero, if_true, if_false, Bool.false_eq_true, Nat.reduceEqDiff, Bool.not_true, Bool.not_false, decide_true, decide_false, ev_nat]
  rw [Nat.gcd_comm]
  rfl
theorem m_law_gcd_eq (a b : Int) (S : List D) : m_law_gcd [.int a, .int b] S = some (.int (Int.gcd a b), S) := by
  unfold m_law_gcd g_law_gcd
  simp only [ev_C, ev_V, ev_B, ev_aN, ev_aC, ev_Tup, ev_Lst, ev_Bin, ev_Un, ev_UnF, ev_cV, ev_cAnd, ev_cOr, ev_cNot, ev_cYes, ev_And, ev_Or, ev_Not, ev_If, ev_Chain, ev_Call, ev_Ix, ev_Sl, ev_oN, ev_oE, ev_aS, ev_Comp, ev_iAny, ev_iRange1, ev_iRange2, ev_iZip, ev_iEnum, ev_sNil, ev_sSeq, ev_sIf, ev_sRet, ev_sRetO, ev_sRetN, ev_sAsg, ev_sSet, ev_sSetO, ev_sPar, ev_sFor, ev_sWhile, ev_sApp, ev_sIxO, ev_sIxC, ev_sFrz, ev_sExp, ev_sPass, ev_runB, ev_forN, ev_compN, ev_put0, ev_put1, ev_wipe0, ev_wipe1, ev_bnm, ev_btup, ev_bL0, ev_bL1, dv_add, dv_sub, dv_neg, dv_lt, dv_le, dv_gt, dv_ge, dv_int, dv_abs, dv_lenL, dv_lenT, dv_tupL, dv_tupT, dv_lofL, dv_lofT, dv_lofS, dv_seqL, dv_seqT, dv_ixL, dv_ixT, dv_ixO, atI_0, atI_1, atI_2, Option.bind_some, Option.bind_none, List.getElem?_cons_zero, List.getElem?_cons_succ, List.getElem?_nil, List.set_cons_zero, List.set_cons_succ, List.set_nil, List.length_cons, List.length_nil, List.map_cons, List.map_nil, List.replicate_succ, List.replicate_zero, List.cons_append, List.nil_append, Nat.reduceAdd, Nat.reduceSub, Nat.reduceLeDiff, Nat.zero_add, Nat.sub_zero, Nat.add_zero, if_true, if_false, Bool.false_eq_true, Nat.reduceEqDiff, Bool.not_true, Bool.not_false, decide_true, decide_false, ev_nat]
  rw [gcd_loop2 _ _ _ _ _ _ (by rw [Int.natAbs_natCast]; exact Nat.lt_succ_self _)]
  simp only [ev_C, ev_V, ev_B, ev_aN, ev_aC, ev_Tup, ev_Lst, ev_Bin, ev_Un, ev_UnF, ev_cV, ev_cAnd, ev_cOr, ev_cNot, ev_cYes, ev_And, ev_Or, ev_Not, ev_If, ev_Chain, ev_Call, ev_Ix, ev_Sl, ev_oN, ev_oE, ev_aS, ev_Comp, ev_iAny, ev_iRange1, ev_iRange2, ev_iZip, ev_iEnum, ev_sNil, ev_sSeq, ev_sIf, ev_sRet, ev_sRetO, ev_sRetN, ev_sAsg, ev_sSet, ev_sSetO, ev_sPar, ev_sFor, ev_sWhile, ev_sApp, ev_sIxO, ev_sIxC, ev_sFrz, ev_sExp, ev_sPass, ev_runB, ev_forN, ev_compN, ev_put0, ev_put1, ev_wipe0, ev_wipe1, ev_bnm, ev_btup, ev_bL0, ev_bL1, dv_add, dv_sub, dv_neg, dv_lt, dv_le, dv_gt, dv_ge, dv_int, dv_abs, dv_lenL, dv_lenT, dv_tupL, dv_tupT, dv_lofL, dv_lofT, dv_lofS, dv_seqL, dv_seqT, dv_ixL, dv_ixT, dv_ixO, atI_0, atI_1, atI_2, Option.bind_some, Option.bind_none, List.getElem?_cons_zero, List.getElem?_cons_succ, List.getElem?_nil, List.set_cons_zero, List.set_cons_succ, List.set_nil, List.length_cons, List.length_nil, List.map_cons, List.map_nil, List.replicate_succ, List.replicate_zero, List.cons_append, List.nil_append, Nat.reduceAdd, Nat.reduceSub, Nat.reduceLeDiff, Nat.zero_add, Nat.sub_zero, Nat.add_zero, if_true, if_false, Bool.false_eq_true, Nat.reduceEqDiff, Bool.not_true, Bool.not_false, decide_true, decide_false, ev_nat]
  rw [Nat.gcd_comm]
  rfl
theorem wide_le {a b : Int} (h : wide b = true) (h0 : 0 ≤ a) (h1 : a ≤ b) : wide a = true := by
  have := wide_ok h
  exact decide_eq_true (by unfold Big; omega)
theorem gcd_pos' (t b : Int) (hb : 0 < b) : 0 < ((Int.gcd (t % b) b : Nat) : Int) := by
  have := Int.gcd_pos_of_ne_zero_right (t % b) (show b ≠ 0 by omega)
  omega
theorem gcd_le' (t b : Int) (hb : 0 < b) : ((Int.gcd (t % b) b : Nat) : Int) ≤ b := Int.le_of_dvd hb (Int.gcd_dvd_right ..)
structure Tape where
  c : List Int
  p : Int
  v : Int
def tp (t : Tape) : List D := [.lst [.lst (t.c.map .int), .int t.p, .int t.v]]
theorem ixN_31 : ixN 3 1 = some 1 := rfl
theorem ixN_32 : ixN 3 2 = some 2 := rfl
theorem dv_mul_s (a b : Int) (h : small a = true) : dMul (.int a) (.int b) = some (.int (a * b)) := dv_mul a b (by rw [h]; rfl)
theorem small_c1 : small 1000003 = true := by decide
theorem small_c2 : small 1181783497276652981 = true := by decide
theorem small_mod (x : Int) : small (x % 2305843009213693951) = true := by
  have h0 := Int.emod_nonneg x (show (2305843009213693951 : Int) ≠ 0 by decide)
  have h1 := Int.emod_lt_of_pos x (show (0 : Int) < 2305843009213693951 by decide)
  exact decide_eq_true (by omega)
theorem pow_18 : dPow (.int 10) (.int 18) = some (.int 1000000000000000000) := by rfl
theorem pow_6 : dPow (.int 10) (.int 6) = some (.int 1000000) := by rfl
theorem pow_15 : dPow (.int 10) (.int 15) = some (.int 1000000000000000) := by rfl
theorem mod_p (x : Int) : dMod (.int x) (.int 2305843009213693951) = some (.int (x % 2305843009213693951)) := dv_mod _ _ (by decide)
theorem cell_at (c : List Int) (p : Int) (h : 0 < c.length) : ∃ x, atI (c.map D.int) (p % (c.length : Int)) = some (.int x) := by
  have h0 := Int.emod_nonneg p (show (c.length : Int) ≠ 0 by omega)
  have h1 := Int.emod_lt_of_pos p (show (0 : Int) < c.length by omega)
  obtain ⟨n, hn⟩ : ∃ n : Nat, p % (c.length : Int) = n := ⟨(p % (c.length : Int)).toNat, by omega⟩
  rw [hn, atI_nat]
  refine ⟨c[n]'(by omega), ?_⟩
  rw [List.getElem?_map, List.getElem?_eq_getElem (by omega)]
  rfl
def drawIn : Sv := (sSeq (sSet 3 (eC (.int 0))) (sSeq (sIf (cV (eBin dGt (eUn dLen (eIx (eB 0) (eC (.int 0)))) (eC (.int 0)))) (sSet 3 (eIx (eIx (eB 0) (eC (.int 0))) (eBin dMod (eUn dInt (eIx (eB 0) (eC (.int 1)))) (eUn dLen (eIx (eB 0) (eC (.int 0))))))) sNil) (sSeq (sIf (cOr (cV (eBin dGe (eIx (eB 0) (eC (.int 1))) (eUn dLen (eIx (eB 0) (eC (.int 0)))))) (cV (eBin dLt (eB 3) (eBin dPow (eC (.int 10)) (eC (.int 18)))))) (sSeq (sSet 3 (eBin dMod (eUn dInt (eBin dAdd (eB 3) (eBin dMul (eC (.int 1000003)) (eIx (eB 0) (eC (.int 1)))))) (eB 2))) (sSeq (sSet 3 (eBin dMod (eUn dInt (eBin dAdd (eBin dAdd (eBin dMul (eB 3) (eB 3)) (eBin dMul (eC (.int 1181783497276652981)) (eB 3))) (eC (.int 2049848353892358983)))) (eB 2))) (sSet 3 (eBin dMod (eUn dInt (eBin dAdd (eBin dMul (eB 3) (eB 3)) (eC (.int 1442695040888963407)))) (eB 2))))) sNil) (sSeq (sIxC (eV 0) (eBin dAdd (eIx (eB 0) (eC (.int 1))) (eC (.int 1))) (eC (.int 1))) (sIxC (eV 0) (eV 3) (eC (.int 2)))))))
theorem draw_new (c : List Int) (p v many : Int) : ∃ y, drawIn
    [.val (.obj 0), .val (.int many), .val (.int 2305843009213693951), .non, .non] (tp ⟨c, p, v⟩) = some (.nx [.val (.obj 0), .val (.int many), .val (.int 2305843009213693951), .val (.int y), .non] (tp ⟨c, p + 1, y⟩)) := by
  unfold tp drawIn
  generalize hr : (sSeq _ _ : Sv) _ _ = r
  by_cases h : 0 < c.length
  · obtain ⟨x, hx⟩ := cell_at c p h
    have h' : (0 : Int) < c.length := by omega
    by_cases h2 : (c.length : Int) ≤ p
    · simp only [ev_C, ev_V, ev_B, ev_aN, ev_aC, ev_Tup, ev_Lst, ev_Bin, ev_Un, ev_UnF, ev_cV, ev_cAnd, ev_cOr, ev_cNot, ev_cYes, ev_And, ev_Or, ev_Not, ev_If, ev_Chain, ev_Call, ev_Ix, ev_Sl, ev_oN, ev_oE, ev_aS, ev_Comp, ev_iAny, ev_iRange1, ev_iRange2, ev_iZip, ev_iEnum, ev_sNil, ev_sSeq, ev_sIf, ev_sRet, ev_sRetO, ev_sRetN, ev_sAsg, ev_sSet, ev_sSetO, ev_sPar, ev_sFor, ev_sWhile, ev_sApp, ev_sIxO, ev_sIxC, ev_sFrz, ev_sExp, ev_sPass, ev_runB, ev_forN, ev_compN, ev_put0, ev_put1, ev_wipe0, ev_wipe1, ev_bnm, ev_btup, ev_bL0, ev_bL1, dv_add, dv_sub, dv_neg, dv_lt, dv_le, dv_gt, dv_ge, dv_int, dv_abs, dv_lenL, dv_lenT, dv_tupL, dv_tupT, dv_lofL, dv_lofT, dv_lofS, dv_seqL, dv_seqT, dv_ixL, dv_ixT, dv_ixO, atI_0, atI_1, atI_2, Option.bind_some, Option.bind_none, List.getElem?_cons_zero, List.getElem?_cons_succ, List.getElem?_nil, List.set_cons_zero, List.set_cons_succ, List.set_nil, List.length_cons, List.length_nil, List.map_cons, List.map_nil, List.replicate_succ, List.replicate_zero, List.cons_append, List.nil_append, Nat.reduceAdd, Nat.reduceSub, Nat.reduceLeDiff, Nat.zero_add, Nat.sub_zero, Nat.add_zero, if_true, if_false, Bool.false_eq_true, Nat.reduceEqDiff, Bool.not_true, Bool.not_false, decide_true, decide_false, ev_nat, ixN_31, ixN_32, dv_mul_s, small_c1, small_c2, small_mod, pow_18, mod_p, List.length_map, decide_eq_true h', dv_mod _ _ h', hx, decide_eq_true h2] at hr; exact ⟨_, hr.symm⟩
    · by_cases h3 : x < 1000000000000000000
      · simp only [ev_C, ev_V, ev_B, ev_aN, ev_aC, ev_Tup, ev_Lst, ev_Bin, ev_Un, ev_UnF, ev_cV, ev_cAnd, ev_cOr, ev_cNot, ev_cYes, ev_And, ev_Or, ev_Not, ev_If, ev_Chain, ev_Call, ev_Ix, ev_Sl, ev_oN, ev_oE, ev_aS, ev_Comp, ev_iAny, ev_iRange1, ev_iRange2, ev_iZip, ev_iEnum, ev_sNil, ev_sSeq, ev_sIf, ev_sRet, ev_sRetO, ev_sRetN, ev_sAsg, ev_sSet, ev_sSetO, ev_sPar, ev_sFor, ev_sWhile, ev_sApp, ev_sIxO, ev_sIxC, ev_sFrz, ev_sExp, ev_sPass, ev_runB, ev_forN, ev_compN, ev_put0, ev_put1, ev_wipe0, ev_wipe1, ev_bnm, ev_btup, ev_bL0, ev_bL1, dv_add, dv_sub, dv_neg, dv_lt, dv_le, dv_gt, dv_ge, dv_int, dv_abs, dv_lenL, dv_lenT, dv_tupL, dv_tupT, dv_lofL, dv_lofT, dv_lofS, dv_seqL, dv_seqT, dv_ixL, dv_ixT, dv_ixO, atI_0, atI_1, atI_2, Option.bind_some, Option.bind_none, List.getElem?_cons_zero, List.getElem?_cons_succ, List.getElem?_nil, List.set_cons_zero, List.set_cons_succ, List.set_nil, List.length_cons, List.length_nil, List.map_cons, List.map_nil, List.replicate_succ, List.replicate_zero, List.cons_append, List.nil_append, Nat.reduceAdd, Nat.reduceSub, Nat.reduceLeDiff, Nat.zero_add, Nat.sub_zero, Nat.add_zero, if_true, if_false, Bool.false_eq_true, Nat.reduceEqDiff, Bool.not_true, Bool.not_false, decide_true, decide_false, ev_nat, ixN_31, ixN_32, dv_mul_s, small_c1, small_c2, small_mod, pow_18, mod_p, List.length_map, decide_eq_true h', dv_mod _ _ h', hx, decide_eq_false h2, decide_eq_true h3] at hr; exact ⟨_, hr.symm⟩
      · simp only [ev_C, ev_V, ev_B, ev_aN, ev_aC, ev_Tup, ev_Lst, ev_Bin, ev_Un, ev_UnF, ev_cV, ev_cAnd, ev_cOr, ev_cNot, ev_cYes, ev_And, ev_Or, ev_Not, ev_If, ev_Chain, ev_Call, ev_Ix, ev_Sl, ev_oN, ev_oE, ev_aS, ev_Comp, ev_iAny, ev_iRange1, ev_iRange2, ev_iZip, ev_iEnum, ev_sNil, ev_sSeq, ev_sIf, ev_sRet, ev_sRetO, ev_sRetN, ev_sAsg, ev_sSet, ev_sSetO, ev_sPar, ev_sFor, ev_sWhile, ev_sApp, ev_sIxO, ev_sIxC, ev_sFrz, ev_sExp, ev_sPass, ev_runB, ev_forN, ev_compN, ev_put0, ev_put1, ev_wipe0, ev_wipe1, ev_bnm, ev_btup, ev_bL0, ev_bL1, dv_add, dv_sub, dv_neg, dv_lt, dv_le, dv_gt, dv_ge, dv_int, dv_abs, dv_lenL, dv_lenT, dv_tupL, dv_tupT, dv_lofL, dv_lofT, dv_lofS, dv_seqL, dv_seqT, dv_ixL, dv_ixT, dv_ixO, atI_0, atI_1, atI_2, Option.bind_some, Option.bind_none, List.getElem?_cons_zero, List.getElem?_cons_succ, List.getElem?_nil, List.set_cons_zero, List.set_cons_succ, List.set_nil, List.length_cons, List.length_nil, List.map_cons, List.map_nil, List.replicate_succ, List.replicate_zero, List.cons_append, List.nil_append, Nat.reduceAdd, Nat.reduceSub, Nat.reduceLeDiff, Nat.zero_add, Nat.sub_zero, Nat.add_zero, if_true, if_false, Bool.false_eq_true, Nat.reduceEqDiff, Bool.not_true, Bool.not_false, decide_true, decide_false, ev_nat, ixN_31, ixN_32, dv_mul_s, small_c1, small_c2, small_mod, pow_18, mod_p, List.length_map, decide_eq_true h', dv_mod _ _ h', hx, decide_eq_false h2, decide_eq_false h3] at hr; exact ⟨_, hr.symm⟩
  · have h' : ¬ (0 : Int) < c.length := by omega
    have h3 : (0 : Int) < 1000000000000000000 := by decide
    by_cases h2 : (c.length : Int) ≤ p
    · simp only [ev_C, ev_V, ev_B, ev_aN, ev_aC, ev_Tup, ev_Lst, ev_Bin, ev_Un, ev_UnF, ev_cV, ev_cAnd, ev_cOr, ev_cNot, ev_cYes, ev_And, ev_Or, ev_Not, ev_If, ev_Chain, ev_Call, ev_Ix, ev_Sl, ev_oN, ev_oE, ev_aS, ev_Comp, ev_iAny, ev_iRange1, ev_iRange2, ev_iZip, ev_iEnum, ev_sNil, ev_sSeq, ev_sIf, ev_sRet, ev_sRetO, ev_sRetN, ev_sAsg, ev_sSet, ev_sSetO, ev_sPar, ev_sFor, ev_sWhile, ev_sApp, ev_sIxO, ev_sIxC, ev_sFrz, ev_sExp, ev_sPass, ev_runB, ev_forN, ev_compN, ev_put0, ev_put1, ev_wipe0, ev_wipe1, ev_bnm, ev_btup, ev_bL0, ev_bL1, dv_add, dv_sub, dv_neg, dv_lt, dv_le, dv_gt, dv_ge, dv_int, dv_abs, dv_lenL, dv_lenT, dv_tupL, dv_tupT, dv_lofL, dv_lofT, dv_lofS, dv_seqL, dv_seqT, dv_ixL, dv_ixT, dv_ixO, atI_0, atI_1, atI_2, Option.bind_some, Option.bind_none, List.getElem?_cons_zero, List.getElem?_cons_succ, List.getElem?_nil, List.set_cons_zero, List.set_cons_succ, List.set_nil, List.length_cons, List.length_nil, List.map_cons, List.map_nil, List.replicate_succ, List.replicate_zero, List.cons_append, List.nil_append, Nat.reduceAdd, Nat.reduceSub, Nat.reduceLeDiff, Nat.zero_add, Nat.sub_zero, Nat.add_zero, if_true, if_false, Bool.false_eq_true, Nat.reduceEqDiff, Bool.not_true, Bool.not_false, decide_true, decide_false, ev_nat, ixN_31, ixN_32, dv_mul_s, small_c1, small_c2, small_mod, pow_18, mod_p, List.length_map, decide_eq_false h', decide_eq_true h2] at hr; exact ⟨_, hr.symm⟩
    · simp only [ev_C, ev_V, ev_B, ev_aN, ev_aC, ev_Tup, ev_Lst, ev_Bin, ev_Un, ev_UnF, ev_cV, ev_cAnd, ev_cOr, ev_cNot, ev_cYes, ev_And, ev_Or, ev_Not, ev_If, ev_Chain, ev_Call, ev_Ix, ev_Sl, ev_oN, ev_oE, ev_aS, ev_Comp, ev_iAny, ev_iRange1, ev_iRange2, ev_iZip, ev_iEnum, ev_sNil, ev_sSeq, ev_sIf, ev_sRet, ev_sRetO, ev_sRetN, ev_sAsg, ev_sSet, ev_sSetO, ev_sPar, ev_sFor, ev_sWhile, ev_sApp, ev_sIxO, ev_sIxC, ev_sFrz, ev_sExp, ev_sPass, ev_runB, ev_forN, ev_compN, ev_put0, ev_put1, ev_wipe0, ev_wipe1, ev_bnm, ev_btup, ev_bL0, ev_bL1, dv_add, dv_sub, dv_neg, dv_lt, dv_le, dv_gt, dv_ge, dv_int, dv_abs, dv_lenL, dv_lenT, dv_tupL, dv_tupT, dv_lofL, dv_lofT, dv_lofS, dv_seqL, dv_seqT, dv_ixL, dv_ixT, dv_ixO, atI_0, atI_1, atI_2, Option.bind_some, Option.bind_none, List.getElem?_cons_zero, List.getElem?_cons_succ, List.getElem?_nil, List.set_cons_zero, List.set_cons_succ, List.set_nil, List.length_cons, List.length_nil, List.map_cons, List.map_nil, List.replicate_succ, List.replicate_zero, List.cons_append, List.nil_append, Nat.reduceAdd, Nat.reduceSub, Nat.reduceLeDiff, Nat.zero_add, Nat.sub_zero, Nat.add_zero, if_true, if_false, Bool.false_eq_true, Nat.reduceEqDiff, Bool.not_true, Bool.not_false, decide_true, decide_false, ev_nat, ixN_31, ixN_32, dv_mul_s, small_c1, small_c2, small_mod, pow_18, mod_p, List.length_map, decide_eq_false h', decide_eq_false h2, decide_eq_true h3] at hr; exact ⟨_, hr.symm⟩
theorem draw_ex (t : Tape) (many : Int) (hm : 0 < many) (hw : wide many = true) : ∃ r t', 0 ≤ r ∧ r < many ∧ m_law_draw [.obj 0, .int many] (tp t) = some (.int r, tp t') := by
  obtain ⟨c, p, v⟩ := t
  unfold m_law_draw
  by_cases h : v < many
  · obtain ⟨y, hy⟩ := draw_new c p v many
    refine ⟨y % many, ⟨c, p + 1, y / many⟩, Int.emod_nonneg _ (by omega), Int.emod_lt_of_pos _ hm, ?_⟩
    have e : g_law_draw = (sSeq (sSet 2 (eC (.int 2305843009213693951))) (sSeq (sIf (cV (eBin dLt (eIx (eB 0) (eC (.int 2))) (eB 1))) drawIn sNil) (sSeq (sSet 4 (eBin dMod (eUn dInt (eIx (eB 0) (eC (.int 2)))) (eB 1))) (sSeq (sIxC (eV 0) (eBin dDiv (eIx (eB 0) (eC (.int 2))) (eB 1)) (eC (.int 2))) (sRet (eV 4)))))) := rfl
    rw [e]
    unfold tp at hy ⊢
    simp only [ev_C, ev_V, ev_B, ev_aN, ev_aC, ev_Tup, ev_Lst, ev_Bin, ev_Un, ev_UnF, ev_cV, ev_cAnd, ev_cOr, ev_cNot, ev_cYes, ev_And, ev_Or, ev_Not, ev_If, ev_Chain, ev_Call, ev_Ix, ev_Sl, ev_oN, ev_oE, ev_aS, ev_Comp, ev_iAny, ev_iRange1, ev_iRange2, ev_iZip, ev_iEnum, ev_sNil, ev_sSeq, ev_sIf, ev_sRet, ev_sRetO, ev_sRetN, ev_sAsg, ev_sSet, ev_sSetO, ev_sPar, ev_sFor, ev_sWhile, ev_sApp, ev_sIxO, ev_sIxC, ev_sFrz, ev_sExp, ev_sPass, ev_runB, ev_forN, ev_compN, ev_put0, ev_put1, ev_wipe0, ev_wipe1, ev_bnm, ev_btup, ev_bL0, ev_bL1, dv_add, dv_sub, dv_neg, dv_lt, dv_le, dv_gt, dv_ge, dv_int, dv_abs, dv_lenL, dv_lenT, dv_tupL, dv_tupT, dv_lofL, dv_lofT, dv_lofS, dv_seqL, dv_seqT, dv_ixL, dv_ixT, dv_ixO, atI_0, atI_1, atI_2, Option.bind_some, Option.bind_none, List.getElem?_cons_zero, List.getElem?_cons_succ, List.getElem?_nil, List.set_cons_zero, List.set_cons_succ, List.set_nil, List.length_cons, List.length_nil, List.map_cons, List.map_nil, List.replicate_succ, List.replicate_zero, List.cons_append, List.nil_append, Nat.reduceAdd, Nat.reduceSub, Nat.reduceLeDiff, Nat.zero_add, Nat.sub_zero, Nat.add_zero, if_true, if_false, Bool.false_eq_true, Nat.reduceEqDiff, Bool.not_true, Bool.not_false, decide_true, decide_false, ev_nat, decide_eq_true h, hy, dv_mod _ _ hm, dv_div _ _ hm hw, ixN_32]
  · refine ⟨v % many, ⟨c, p, v / many⟩, Int.emod_nonneg _ (by omega), Int.emod_lt_of_pos _ hm, ?_⟩
    unfold g_law_draw
    simp only [tp, ev_C, ev_V, ev_B, ev_aN, ev_aC, ev_Tup, ev_Lst, ev_Bin, ev_Un, ev_UnF, ev_cV, ev_cAnd, ev_cOr, ev_cNot, ev_cYes, ev_And, ev_Or, ev_Not, ev_If, ev_Chain, ev_Call, ev_Ix, ev_Sl, ev_oN, ev_oE, ev_aS, ev_Comp, ev_iAny, ev_iRange1, ev_iRange2, ev_iZip, ev_iEnum, ev_sNil, ev_sSeq, ev_sIf, ev_sRet, ev_sRetO, ev_sRetN, ev_sAsg, ev_sSet, ev_sSetO, ev_sPar, ev_sFor, ev_sWhile, ev_sApp, ev_sIxO, ev_sIxC, ev_sFrz, ev_sExp, ev_sPass, ev_runB, ev_forN, ev_compN, ev_put0, ev_put1, ev_wipe0, ev_wipe1, ev_bnm, ev_btup, ev_bL0, ev_bL1, dv_add, dv_sub, dv_neg, dv_lt, dv_le, dv_gt, dv_ge, dv_int, dv_abs, dv_lenL, dv_lenT, dv_tupL, dv_tupT, dv_lofL, dv_lofT, dv_lofS, dv_seqL, dv_seqT, dv_ixL, dv_ixT, dv_ixO, atI_0, atI_1, atI_2, Option.bind_some, Option.bind_none, List.getElem?_cons_zero, List.getElem?_cons_succ, List.getElem?_nil, List.set_cons_zero, List.set_cons_succ, List.set_nil, List.length_cons, List.length_nil, List.map_cons, List.map_nil, List.replicate_succ, List.replicate_zero, List.cons_append, List.nil_append, Nat.reduceAdd, Nat.reduceSub, Nat.reduceLeDiff, Nat.zero_add, Nat.sub_zero, Nat.add_zero, if_true, if_false, Bool.false_eq_true, Nat.reduceEqDiff, Bool.not_true, Bool.not_false, decide_true, decide_false, ev_nat, decide_eq_false h, dv_mod _ _ hm, dv_div _ _ hm hw, ixN_32]
mutual
def lkD : Nat → D → Bool
  | _, .non => true
  | _, .bl _ => true
  | _, .int _ => true
  | _, .str x => PySem.PyData.strOk x
  | n + 1, .tup xs => decide (xs.length ≤ 16777216) && lkL n xs
  | n + 1, .lst xs => decide (xs.length ≤ 16777216) && lkL n xs
  | _, _ => false
def lkL : Nat → List D → Bool
  | _, [] => true
  | n, x :: xs => lkD n x && lkL n xs
end
theorem lkL_get : ∀ {n : Nat} {xs : List D} {i : Nat} (h : lkL n xs = true) (hi : i < xs.length), lkD n xs[i] = true
  | n, x :: xs, 0, h, _ => by
    have h' : lkD n x = true ∧ lkL n xs = true := by simpa [lkL] using h
    exact h'.1
  | n, x :: xs, i + 1, h, hi => by
    have h' : lkD n x = true ∧ lkL n xs = true := by simpa [lkL] using h
    exact lkL_get h'.2 (by simpa using hi)
theorem lkL_of {n : Nat} : ∀ {xs : List D}, (∀ x ∈ xs, lkD n x = true) → lkL n xs = true
  | [], _ => by simp [lkL]
  | x :: xs, h => by simp only [lkL, h x List.mem_cons_self, lkL_of (fun y m => h y (List.mem_cons_of_mem _ m)), Bool.and_self]
theorem dne_bl (b : Bool) : dNe (.bl b) (.bl b) = some (.bl false) := by
  cases b <;> rfl
theorem deq_bl (b : Bool) : dEq (.bl b) (.bl b) = some (.bl true) := by
  cases b <;> rfl
theorem dne_int (b : Int) : dNe (.int b) (.int b) = some (.bl false) := by
  unfold dNe
  simp [okD, eqD]
theorem deq_nil : dEq (.lst []) (.lst []) = some (.bl true) := by rfl
theorem like_comp (xs : List D) (m : List D → List D → Option (D × List D)) (S : List D) (d : D) (hix : ∀ (k : Nat), k < xs.length → ixD S d (.int k) = xs[k]?) (hm : ∀ (k : Nat) (h : k < xs.length), m [xs[k], xs[k]] S = some (.bl true, S)) :
    compL (.nm 2) (cNot (cV (eCall 2 m (aC (eIx (eB 0) (eB 2)) (aC (eIx (eB 1) (eB 2)) aN))))) (eV 2) [.val d, .val d, .non] ((List.range xs.length).map fun (k : Nat) => D.int (k : Int)) S = some ([], S) := by
  have q := compL_filter (p := .nm 2) (c := (cNot (cV (eCall 2 m (aC (eIx (eB 0) (eB 2)) (aC (eIx (eB 1) (eB 2)) aN)))))) (f := eV 2) (ρ := [.val d, .val d, .non]) (S := S) (fun (k : Nat) => D.int (k : Int)) (fun (k : Nat) => D.int (k : Int)) (fun _ => false) (List.range xs.length) (fun k hk => ?_)
  · rw [q]
    have : (List.range xs.length).filter (fun _ => false) = [] := by simp
    rw [this]
    rfl
  · have hk' : k < xs.length := by simpa using hk
    refine ⟨[(2, .int k)], ev_bnm _ _, ?_, fun h => (nomatch h)⟩
    have h1 := hix k hk'
    rw [List.getElem?_eq_getElem hk'] at h1
    simp only [ev_C, ev_V, ev_B, ev_aN, ev_aC, ev_Tup, ev_Lst, ev_Bin, ev_Un, ev_UnF, ev_cV, ev_cAnd, ev_cOr, ev_cNot, ev_cYes, ev_And, ev_Or, ev_Not, ev_If, ev_Chain, ev_Call, ev_Ix, ev_Sl, ev_oN, ev_oE, ev_aS, ev_Comp, ev_iAny, ev_iRange1, ev_iRange2, ev_iZip, ev_iEnum, ev_sNil, ev_sSeq, ev_sIf, ev_sRet, ev_sRetO, ev_sRetN, ev_sAsg, ev_sSet, ev_sSetO, ev_sPar, ev_sFor, ev_sWhile, ev_sApp, ev_sIxO, ev_sIxC, ev_sFrz, ev_sExp, ev_sPass, ev_runB, ev_forN, ev_compN, ev_put0, ev_put1, ev_wipe0, ev_wipe1, ev_bnm, ev_btup, ev_bL0, ev_bL1, dv_add, dv_sub, dv_neg, dv_lt, dv_le, dv_gt, dv_ge, dv_int, dv_abs, dv_lenL, dv_lenT, dv_tupL, dv_tupT, dv_lofL, dv_lofT, dv_lofS, dv_seqL, dv_seqT, dv_ixL, dv_ixT, dv_ixO, atI_0, atI_1, atI_2, Option.bind_some, Option.bind_none, List.getElem?_cons_zero, List.getElem?_cons_succ, List.getElem?_nil, List.set_cons_zero, List.set_cons_succ, List.set_nil, List.length_cons, List.length_nil, List.map_cons, List.map_nil, List.replicate_succ, List.replicate_zero, List.cons_append, List.nil_append, Nat.reduceAdd, Nat.reduceSub, Nat.reduceLeDiff, Nat.zero_add, Nat.sub_zero, Nat.add_zero, if_true, if_false, Bool.false_eq_true, Nat.reduceEqDiff, Bool.not_true, Bool.not_false, decide_true, decide_false, ev_nat, h1, hm k hk']
theorem inWord_len {n : Nat} (h : n ≤ 16777216) : inWord (n : Int) = true := by
  unfold inWord
  rw [Bool.and_eq_true]
  exact ⟨decide_eq_true (by omega), decide_eq_true (by omega)⟩
theorem like_flat (m : List D → List D → Option (D × List D)) (d : D) (S : List D) (h : lkD 0 d = true) : runB false 3 (g_law_like m) [d, d] S = some (.bl true, S) := by
  unfold g_law_like
  cases d with
  | non => simp only [ev_C, ev_V, ev_B, ev_aN, ev_aC, ev_Tup, ev_Lst, ev_Bin, ev_Un, ev_UnF, ev_cV, ev_cAnd, ev_cOr, ev_cNot, ev_cYes, ev_And, ev_Or, ev_Not, ev_If, ev_Chain, ev_Call, ev_Ix, ev_Sl, ev_oN, ev_oE, ev_aS, ev_Comp, ev_iAny, ev_iRange1, ev_iRange2, ev_iZip, ev_iEnum, ev_sNil, ev_sSeq, ev_sIf, ev_sRet, ev_sRetO, ev_sRetN, ev_sAsg, ev_sSet, ev_sSetO, ev_sPar, ev_sFor, ev_sWhile, ev_sApp, ev_sIxO, ev_sIxC, ev_sFrz, ev_sExp, ev_sPass, ev_runB, ev_forN, ev_compN, ev_put0, ev_put1, ev_wipe0, ev_wipe1, ev_bnm, ev_btup, ev_bL0, ev_bL1, dv_add, dv_sub, dv_neg, dv_lt, dv_le, dv_gt, dv_ge, dv_int, dv_abs, dv_lenL, dv_lenT, dv_tupL, dv_tupT, dv_lofL, dv_lofT, dv_lofS, dv_seqL, dv_seqT, dv_ixL, dv_ixT, dv_ixO, atI_0, atI_1, atI_2, Option.bind_some, Option.bind_none, List.getElem?_cons_zero, List.getElem?_cons_succ, List.getElem?_nil, List.set_cons_zero, List.set_cons_succ, List.set_nil, List.length_cons, List.length_nil, List.map_cons, List.map_nil, List.replicate_succ, List.replicate_zero, List.cons_append, List.nil_append, Nat.reduceAdd, Nat.reduceSub, Nat.reduceLeDiff, Nat.zero_add, Nat.sub_zero, Nat.add_zero, if_true, if_false, Bool.false_eq_true, Nat.reduceEqDiff, Bool.not_true, Bool.not_false, decide_true, decide_false, ev_nat, dIs, isLT, isBo, deq_bl, show dEq .non .non = some (.bl true) from rfl]
  | bl b => simp only [ev_C, ev_V, ev_B, ev_aN, ev_aC, ev_Tup, ev_Lst, ev_Bin, ev_Un, ev_UnF, ev_cV, ev_cAnd, ev_cOr, ev_cNot, ev_cYes, ev_And, ev_Or, ev_Not, ev_If, ev_Chain, ev_Call, ev_Ix, ev_Sl, ev_oN, ev_oE, ev_aS, ev_Comp, ev_iAny, ev_iRange1, ev_iRange2, ev_iZip, ev_iEnum, ev_sNil, ev_sSeq, ev_sIf, ev_sRet, ev_sRetO, ev_sRetN, ev_sAsg, ev_sSet, ev_sSetO, ev_sPar, ev_sFor, ev_sWhile, ev_sApp, ev_sIxO, ev_sIxC, ev_sFrz, ev_sExp, ev_sPass, ev_runB, ev_forN, ev_compN, ev_put0, ev_put1, ev_wipe0, ev_wipe1, ev_bnm, ev_btup, ev_bL0, ev_bL1, dv_add, dv_sub, dv_neg, dv_lt, dv_le, dv_gt, dv_ge, dv_int, dv_abs, dv_lenL, dv_lenT, dv_tupL, dv_tupT, dv_lofL, dv_lofT, dv_lofS, dv_seqL, dv_seqT, dv_ixL, dv_ixT, dv_ixO, atI_0, atI_1, atI_2, Option.bind_some, Option.bind_none, List.getElem?_cons_zero, List.getElem?_cons_succ, List.getElem?_nil, List.set_cons_zero, List.set_cons_succ, List.set_nil, List.length_cons, List.length_nil, List.map_cons, List.map_nil, List.replicate_succ, List.replicate_zero, List.cons_append, List.nil_append, Nat.reduceAdd, Nat.reduceSub, Nat.reduceLeDiff, Nat.zero_add, Nat.sub_zero, Nat.add_zero, if_true, if_false, Bool.false_eq_true, Nat.reduceEqDiff, Bool.not_true, Bool.not_false, decide_true, decide_false, ev_nat, dIs, isLT, isBo, deq_bl]
  | int i => simp only [ev_C, ev_V, ev_B, ev_aN, ev_aC, ev_Tup, ev_Lst, ev_Bin, ev_Un, ev_UnF, ev_cV, ev_cAnd, ev_cOr, ev_cNot, ev_cYes, ev_And, ev_Or, ev_Not, ev_If, ev_Chain, ev_Call, ev_Ix, ev_Sl, ev_oN, ev_oE, ev_aS, ev_Comp, ev_iAny, ev_iRange1, ev_iRange2, ev_iZip, ev_iEnum, ev_sNil, ev_sSeq, ev_sIf, ev_sRet, ev_sRetO, ev_sRetN, ev_sAsg, ev_sSet, ev_sSetO, ev_sPar, ev_sFor, ev_sWhile, ev_sApp, ev_sIxO, ev_sIxC, ev_sFrz, ev_sExp, ev_sPass, ev_runB, ev_forN, ev_compN, ev_put0, ev_put1, ev_wipe0, ev_wipe1, ev_bnm, ev_btup, ev_bL0, ev_bL1, dv_add, dv_sub, dv_neg, dv_lt, dv_le, dv_gt, dv_ge, dv_int, dv_abs, dv_lenL, dv_lenT, dv_tupL, dv_tupT, dv_lofL, dv_lofT, dv_lofS, dv_seqL, dv_seqT, dv_ixL, dv_ixT, dv_ixO, atI_0, atI_1, atI_2, Option.bind_some, Option.bind_none, List.getElem?_cons_zero, List.getElem?_cons_succ, List.getElem?_nil, List.set_cons_zero, List.set_cons_succ, List.set_nil, List.length_cons, List.length_nil, List.map_cons, List.map_nil, List.replicate_succ, List.replicate_zero, List.cons_append, List.nil_append, Nat.reduceAdd, Nat.reduceSub, Nat.reduceLeDiff, Nat.zero_add, Nat.sub_zero, Nat.add_zero, if_true, if_false, Bool.false_eq_true, Nat.reduceEqDiff, Bool.not_true, Bool.not_false, decide_true, decide_false, ev_nat, dIs, isLT, isBo, deq_bl, show dEq (.int i) (.int i) = some (.bl true) by unfold dEq; simp [okD, eqD]]
  | str x =>
    have h' : PySem.PyData.strOk x = true := by simpa [lkD] using h
    simp only [ev_C, ev_V, ev_B, ev_aN, ev_aC, ev_Tup, ev_Lst, ev_Bin, ev_Un, ev_UnF, ev_cV, ev_cAnd, ev_cOr, ev_cNot, ev_cYes, ev_And, ev_Or, ev_Not, ev_If, ev_Chain, ev_Call, ev_Ix, ev_Sl, ev_oN, ev_oE, ev_aS, ev_Comp, ev_iAny, ev_iRange1, ev_iRange2, ev_iZip, ev_iEnum, ev_sNil, ev_sSeq, ev_sIf, ev_sRet, ev_sRetO, ev_sRetN, ev_sAsg, ev_sSet, ev_sSetO, ev_sPar, ev_sFor, ev_sWhile, ev_sApp, ev_sIxO, ev_sIxC, ev_sFrz, ev_sExp, ev_sPass, ev_runB, ev_forN, ev_compN, ev_put0, ev_put1, ev_wipe0, ev_wipe1, ev_bnm, ev_btup, ev_bL0, ev_bL1, dv_add, dv_sub, dv_neg, dv_lt, dv_le, dv_gt, dv_ge, dv_int, dv_abs, dv_lenL, dv_lenT, dv_tupL, dv_tupT, dv_lofL, dv_lofT, dv_lofS, dv_seqL, dv_seqT, dv_ixL, dv_ixT, dv_ixO, atI_0, atI_1, atI_2, Option.bind_some, Option.bind_none, List.getElem?_cons_zero, List.getElem?_cons_succ, List.getElem?_nil, List.set_cons_zero, List.set_cons_succ, List.set_nil, List.length_cons, List.length_nil, List.map_cons, List.map_nil, List.replicate_succ, List.replicate_zero, List.cons_append, List.nil_append, Nat.reduceAdd, Nat.reduceSub, Nat.reduceLeDiff, Nat.zero_add, Nat.sub_zero, Nat.add_zero, if_true, if_false, Bool.false_eq_true, Nat.reduceEqDiff, Bool.not_true, Bool.not_false, decide_true, decide_false, ev_nat, dIs, isLT, isBo, deq_bl, show dEq (.str x) (.str x) = some (.bl true) by unfold dEq; simp [okD, eqD, h']]
  | tup _ => simp [lkD] at h
  | lst _ => simp [lkD] at h
  | obj _ => simp [lkD] at h
  | dct _ => simp [lkD] at h
  | scr _ => simp [lkD] at h
theorem like_lst (m : List D → List D → Option (D × List D)) (xs S : List D) (hl : xs.length ≤ 16777216) (hm : ∀ (k : Nat) (h : k < xs.length), m [xs[k], xs[k]] S = some (.bl true, S)) : runB false 3 (g_law_like m) [.lst xs, .lst xs] S = some (.bl true, S) := by
  have c := like_comp xs m S (.lst xs) (fun k _ => by rw [dv_ixL, atI_nat]) hm
  unfold g_law_like
  refine run_rt (ρ := [.val (.lst xs), .val (.lst xs), .non]) rfl ((seq_rt ?_))
  refine (if_t (S' := S) ?_).trans ?_
  · simp only [ev_C, ev_V, ev_B, ev_aN, ev_aC, ev_Tup, ev_Lst, ev_Bin, ev_Un, ev_UnF, ev_cV, ev_cAnd, ev_cOr, ev_cNot, ev_cYes, ev_And, ev_Or, ev_Not, ev_If, ev_Chain, ev_Call, ev_Ix, ev_Sl, ev_oN, ev_oE, ev_aS, ev_Comp, ev_iAny, ev_iRange1, ev_iRange2, ev_iZip, ev_iEnum, ev_sNil, ev_sSeq, ev_sIf, ev_sRet, ev_sRetO, ev_sRetN, ev_sAsg, ev_sSet, ev_sSetO, ev_sPar, ev_sFor, ev_sWhile, ev_sApp, ev_sIxO, ev_sIxC, ev_sFrz, ev_sExp, ev_sPass, ev_runB, ev_forN, ev_compN, ev_put0, ev_put1, ev_wipe0, ev_wipe1, ev_bnm, ev_btup, ev_bL0, ev_bL1, dv_add, dv_sub, dv_neg, dv_lt, dv_le, dv_gt, dv_ge, dv_int, dv_abs, dv_lenL, dv_lenT, dv_tupL, dv_tupT, dv_lofL, dv_lofT, dv_lofS, dv_seqL, dv_seqT, dv_ixL, dv_ixT, dv_ixO, atI_0, atI_1, atI_2, Option.bind_some, Option.bind_none, List.getElem?_cons_zero, List.getElem?_cons_succ, List.getElem?_nil, List.set_cons_zero, List.set_cons_succ, List.set_nil, List.length_cons, List.length_nil, List.map_cons, List.map_nil, List.replicate_succ, List.replicate_zero, List.cons_append, List.nil_append, Nat.reduceAdd, Nat.reduceSub, Nat.reduceLeDiff, Nat.zero_add, Nat.sub_zero, Nat.add_zero, if_true, if_false, Bool.false_eq_true, Nat.reduceEqDiff, Bool.not_true, Bool.not_false, decide_true, decide_false, ev_nat, dIs, isLT]
  refine (seq_nx (ρ' := [.val (.lst xs), .val (.lst xs), .non]) (S' := S) ?_).trans ?_
  · simp only [ev_C, ev_V, ev_B, ev_aN, ev_aC, ev_Tup, ev_Lst, ev_Bin, ev_Un, ev_UnF, ev_cV, ev_cAnd, ev_cOr, ev_cNot, ev_cYes, ev_And, ev_Or, ev_Not, ev_If, ev_Chain, ev_Call, ev_Ix, ev_Sl, ev_oN, ev_oE, ev_aS, ev_Comp, ev_iAny, ev_iRange1, ev_iRange2, ev_iZip, ev_iEnum, ev_sNil, ev_sSeq, ev_sIf, ev_sRet, ev_sRetO, ev_sRetN, ev_sAsg, ev_sSet, ev_sSetO, ev_sPar, ev_sFor, ev_sWhile, ev_sApp, ev_sIxO, ev_sIxC, ev_sFrz, ev_sExp, ev_sPass, ev_runB, ev_forN, ev_compN, ev_put0, ev_put1, ev_wipe0, ev_wipe1, ev_bnm, ev_btup, ev_bL0, ev_bL1, dv_add, dv_sub, dv_neg, dv_lt, dv_le, dv_gt, dv_ge, dv_int, dv_abs, dv_lenL, dv_lenT, dv_tupL, dv_tupT, dv_lofL, dv_lofT, dv_lofS, dv_seqL, dv_seqT, dv_ixL, dv_ixT, dv_ixO, atI_0, atI_1, atI_2, Option.bind_some, Option.bind_none, List.getElem?_cons_zero, List.getElem?_cons_succ, List.getElem?_nil, List.set_cons_zero, List.set_cons_succ, List.set_nil, List.length_cons, List.length_nil, List.map_cons, List.map_nil, List.replicate_succ, List.replicate_zero, List.cons_append, List.nil_append, Nat.reduceAdd, Nat.reduceSub, Nat.reduceLeDiff, Nat.zero_add, Nat.sub_zero, Nat.add_zero, if_true, if_false, Bool.false_eq_true, Nat.reduceEqDiff, Bool.not_true, Bool.not_false, decide_true, decide_false, ev_nat, dIs, isL, isTp, dne_bl]
  refine (seq_nx (ρ' := [.val (.lst xs), .val (.lst xs), .non]) (S' := S) ?_).trans ?_
  · simp only [ev_C, ev_V, ev_B, ev_aN, ev_aC, ev_Tup, ev_Lst, ev_Bin, ev_Un, ev_UnF, ev_cV, ev_cAnd, ev_cOr, ev_cNot, ev_cYes, ev_And, ev_Or, ev_Not, ev_If, ev_Chain, ev_Call, ev_Ix, ev_Sl, ev_oN, ev_oE, ev_aS, ev_Comp, ev_iAny, ev_iRange1, ev_iRange2, ev_iZip, ev_iEnum, ev_sNil, ev_sSeq, ev_sIf, ev_sRet, ev_sRetO, ev_sRetN, ev_sAsg, ev_sSet, ev_sSetO, ev_sPar, ev_sFor, ev_sWhile, ev_sApp, ev_sIxO, ev_sIxC, ev_sFrz, ev_sExp, ev_sPass, ev_runB, ev_forN, ev_compN, ev_put0, ev_put1, ev_wipe0, ev_wipe1, ev_bnm, ev_btup, ev_bL0, ev_bL1, dv_add, dv_sub, dv_neg, dv_lt, dv_le, dv_gt, dv_ge, dv_int, dv_abs, dv_lenL, dv_lenT, dv_tupL, dv_tupT, dv_lofL, dv_lofT, dv_lofS, dv_seqL, dv_seqT, dv_ixL, dv_ixT, dv_ixO, atI_0, atI_1, atI_2, Option.bind_some, Option.bind_none, List.getElem?_cons_zero, List.getElem?_cons_succ, List.getElem?_nil, List.set_cons_zero, List.set_cons_succ, List.set_nil, List.length_cons, List.length_nil, List.map_cons, List.map_nil, List.replicate_succ, List.replicate_zero, List.cons_append, List.nil_append, Nat.reduceAdd, Nat.reduceSub, Nat.reduceLeDiff, Nat.zero_add, Nat.sub_zero, Nat.add_zero, if_true, if_false, Bool.false_eq_true, Nat.reduceEqDiff, Bool.not_true, Bool.not_false, decide_true, decide_false, ev_nat, dne_int]
  refine ret_s (bin_s (S' := S) (comp_s (ds := (List.range xs.length).map fun (k : Nat) => D.int (k : Int)) (S' := S) (res := []) ?_ (by simp only [List.length_map, List.length_range]; exact hl) (by simp only [ev_wipe1, ev_wipe0, List.set_cons_succ, List.set_cons_zero]; exact c)) (d2 := .lst []) (S2 := S) (lst_s (ds := []) rfl (Nat.zero_le _)) deq_nil)
  rw [← rangeD_eq]
  exact range1_s (by simp only [ev_C, ev_V, ev_B, ev_aN, ev_aC, ev_Tup, ev_Lst, ev_Bin, ev_Un, ev_UnF, ev_cV, ev_cAnd, ev_cOr, ev_cNot, ev_cYes, ev_And, ev_Or, ev_Not, ev_If, ev_Chain, ev_Call, ev_Ix, ev_Sl, ev_oN, ev_oE, ev_aS, ev_Comp, ev_iAny, ev_iRange1, ev_iRange2, ev_iZip, ev_iEnum, ev_sNil, ev_sSeq, ev_sIf, ev_sRet, ev_sRetO, ev_sRetN, ev_sAsg, ev_sSet, ev_sSetO, ev_sPar, ev_sFor, ev_sWhile, ev_sApp, ev_sIxO, ev_sIxC, ev_sFrz, ev_sExp, ev_sPass, ev_runB, ev_forN, ev_compN, ev_put0, ev_put1, ev_wipe0, ev_wipe1, ev_bnm, ev_btup, ev_bL0, ev_bL1, dv_add, dv_sub, dv_neg, dv_lt, dv_le, dv_gt, dv_ge, dv_int, dv_abs, dv_lenL, dv_lenT, dv_tupL, dv_tupT, dv_lofL, dv_lofT, dv_lofS, dv_seqL, dv_seqT, dv_ixL, dv_ixT, dv_ixO, atI_0, atI_1, atI_2, Option.bind_some, Option.bind_none, List.getElem?_cons_zero, List.getElem?_cons_succ, List.getElem?_nil, List.set_cons_zero, List.set_cons_succ, List.set_nil, List.length_cons, List.length_nil, List.map_cons, List.map_nil, List.replicate_succ, List.replicate_zero, List.cons_append, List.nil_append, Nat.reduceAdd, Nat.reduceSub, Nat.reduceLeDiff, Nat.zero_add, Nat.sub_zero, Nat.add_zero, if_true, if_false, Bool.false_eq_true, Nat.reduceEqDiff, Bool.not_true, Bool.not_false, decide_true, decide_false, ev_nat]) (inWord_len hl)
theorem like_tup (m : List D → List D → Option (D × List D)) (xs S : List D) (hl : xs.length ≤ 16777216) (hm : ∀ (k : Nat) (h : k < xs.length), m [xs[k], xs[k]] S = some (.bl true, S)) : runB false 3 (g_law_like m) [.tup xs, .tup xs] S = some (.bl true, S) := by
  have c := like_comp xs m S (.tup xs) (fun k _ => by rw [dv_ixT, atI_nat]) hm
  unfold g_law_like
  refine run_rt (ρ := [.val (.tup xs), .val (.tup xs), .non]) rfl ((seq_rt ?_))
  refine (if_t (S' := S) ?_).trans ?_
  · simp only [ev_C, ev_V, ev_B, ev_aN, ev_aC, ev_Tup, ev_Lst, ev_Bin, ev_Un, ev_UnF, ev_cV, ev_cAnd, ev_cOr, ev_cNot, ev_cYes, ev_And, ev_Or, ev_Not, ev_If, ev_Chain, ev_Call, ev_Ix, ev_Sl, ev_oN, ev_oE, ev_aS, ev_Comp, ev_iAny, ev_iRange1, ev_iRange2, ev_iZip, ev_iEnum, ev_sNil, ev_sSeq, ev_sIf, ev_sRet, ev_sRetO, ev_sRetN, ev_sAsg, ev_sSet, ev_sSetO, ev_sPar, ev_sFor, ev_sWhile, ev_sApp, ev_sIxO, ev_sIxC, ev_sFrz, ev_sExp, ev_sPass, ev_runB, ev_forN, ev_compN, ev_put0, ev_put1, ev_wipe0, ev_wipe1, ev_bnm, ev_btup, ev_bL0, ev_bL1, dv_add, dv_sub, dv_neg, dv_lt, dv_le, dv_gt, dv_ge, dv_int, dv_abs, dv_lenL, dv_lenT, dv_tupL, dv_tupT, dv_lofL, dv_lofT, dv_lofS, dv_seqL, dv_seqT, dv_ixL, dv_ixT, dv_ixO, atI_0, atI_1, atI_2, Option.bind_some, Option.bind_none, List.getElem?_cons_zero, List.getElem?_cons_succ, List.getElem?_nil, List.set_cons_zero, List.set_cons_succ, List.set_nil, List.length_cons, List.length_nil, List.map_cons, List.map_nil, List.replicate_succ, List.replicate_zero, List.cons_append, List.nil_append, Nat.reduceAdd, Nat.reduceSub, Nat.reduceLeDiff, Nat.zero_add, Nat.sub_zero, Nat.add_zero, if_true, if_false, Bool.false_eq_true, Nat.reduceEqDiff, Bool.not_true, Bool.not_false, decide_true, decide_false, ev_nat, dIs, isLT]
  refine (seq_nx (ρ' := [.val (.tup xs), .val (.tup xs), .non]) (S' := S) ?_).trans ?_
  · simp only [ev_C, ev_V, ev_B, ev_aN, ev_aC, ev_Tup, ev_Lst, ev_Bin, ev_Un, ev_UnF, ev_cV, ev_cAnd, ev_cOr, ev_cNot, ev_cYes, ev_And, ev_Or, ev_Not, ev_If, ev_Chain, ev_Call, ev_Ix, ev_Sl, ev_oN, ev_oE, ev_aS, ev_Comp, ev_iAny, ev_iRange1, ev_iRange2, ev_iZip, ev_iEnum, ev_sNil, ev_sSeq, ev_sIf, ev_sRet, ev_sRetO, ev_sRetN, ev_sAsg, ev_sSet, ev_sSetO, ev_sPar, ev_sFor, ev_sWhile, ev_sApp, ev_sIxO, ev_sIxC, ev_sFrz, ev_sExp, ev_sPass, ev_runB, ev_forN, ev_compN, ev_put0, ev_put1, ev_wipe0, ev_wipe1, ev_bnm, ev_btup, ev_bL0, ev_bL1, dv_add, dv_sub, dv_neg, dv_lt, dv_le, dv_gt, dv_ge, dv_int, dv_abs, dv_lenL, dv_lenT, dv_tupL, dv_tupT, dv_lofL, dv_lofT, dv_lofS, dv_seqL, dv_seqT, dv_ixL, dv_ixT, dv_ixO, atI_0, atI_1, atI_2, Option.bind_some, Option.bind_none, List.getElem?_cons_zero, List.getElem?_cons_succ, List.getElem?_nil, List.set_cons_zero, List.set_cons_succ, List.set_nil, List.length_cons, List.length_nil, List.map_cons, List.map_nil, List.replicate_succ, List.replicate_zero, List.cons_append, List.nil_append, Nat.reduceAdd, Nat.reduceSub, Nat.reduceLeDiff, Nat.zero_add, Nat.sub_zero, Nat.add_zero, if_true, if_false, Bool.false_eq_true, Nat.reduceEqDiff, Bool.not_true, Bool.not_false, decide_true, decide_false, ev_nat, dIs, isL, isTp, dne_bl]
  refine (seq_nx (ρ' := [.val (.tup xs), .val (.tup xs), .non]) (S' := S) ?_).trans ?_
  · simp only [ev_C, ev_V, ev_B, ev_aN, ev_aC, ev_Tup, ev_Lst, ev_Bin, ev_Un, ev_UnF, ev_cV, ev_cAnd, ev_cOr, ev_cNot, ev_cYes, ev_And, ev_Or, ev_Not, ev_If, ev_Chain, ev_Call, ev_Ix, ev_Sl, ev_oN, ev_oE, ev_aS, ev_Comp, ev_iAny, ev_iRange1, ev_iRange2, ev_iZip, ev_iEnum, ev_sNil, ev_sSeq, ev_sIf, ev_sRet, ev_sRetO, ev_sRetN, ev_sAsg, ev_sSet, ev_sSetO, ev_sPar, ev_sFor, ev_sWhile, ev_sApp, ev_sIxO, ev_sIxC, ev_sFrz, ev_sExp, ev_sPass, ev_runB, ev_forN, ev_compN, ev_put0, ev_put1, ev_wipe0, ev_wipe1, ev_bnm, ev_btup, ev_bL0, ev_bL1, dv_add, dv_sub, dv_neg, dv_lt, dv_le, dv_gt, dv_ge, dv_int, dv_abs, dv_lenL, dv_lenT, dv_tupL, dv_tupT, dv_lofL, dv_lofT, dv_lofS, dv_seqL, dv_seqT, dv_ixL, dv_ixT, dv_ixO, atI_0, atI_1, atI_2, Option.bind_some, Option.bind_none, List.getElem?_cons_zero, List.getElem?_cons_succ, List.getElem?_nil, List.set_cons_zero, List.set_cons_succ, List.set_nil, List.length_cons, List.length_nil, List.map_cons, List.map_nil, List.replicate_succ, List.replicate_zero, List.cons_append, List.nil_append, Nat.reduceAdd, Nat.reduceSub, Nat.reduceLeDiff, Nat.zero_add, Nat.sub_zero, Nat.add_zero, if_true, if_false, Bool.false_eq_true, Nat.reduceEqDiff, Bool.not_true, Bool.not_false, decide_true, decide_false, ev_nat, dne_int]
  refine ret_s (bin_s (S' := S) (comp_s (ds := (List.range xs.length).map fun (k : Nat) => D.int (k : Int)) (S' := S) (res := []) ?_ (by simp only [List.length_map, List.length_range]; exact hl) (by simp only [ev_wipe1, ev_wipe0, List.set_cons_succ, List.set_cons_zero]; exact c)) (d2 := .lst []) (S2 := S) (lst_s (ds := []) rfl (Nat.zero_le _)) deq_nil)
  rw [← rangeD_eq]
  exact range1_s (by simp only [ev_C, ev_V, ev_B, ev_aN, ev_aC, ev_Tup, ev_Lst, ev_Bin, ev_Un, ev_UnF, ev_cV, ev_cAnd, ev_cOr, ev_cNot, ev_cYes, ev_And, ev_Or, ev_Not, ev_If, ev_Chain, ev_Call, ev_Ix, ev_Sl, ev_oN, ev_oE, ev_aS, ev_Comp, ev_iAny, ev_iRange1, ev_iRange2, ev_iZip, ev_iEnum, ev_sNil, ev_sSeq, ev_sIf, ev_sRet, ev_sRetO, ev_sRetN, ev_sAsg, ev_sSet, ev_sSetO, ev_sPar, ev_sFor, ev_sWhile, ev_sApp, ev_sIxO, ev_sIxC, ev_sFrz, ev_sExp, ev_sPass, ev_runB, ev_forN, ev_compN, ev_put0, ev_put1, ev_wipe0, ev_wipe1, ev_bnm, ev_btup, ev_bL0, ev_bL1, dv_add, dv_sub, dv_neg, dv_lt, dv_le, dv_gt, dv_ge, dv_int, dv_abs, dv_lenL, dv_lenT, dv_tupL, dv_tupT, dv_lofL, dv_lofT, dv_lofS, dv_seqL, dv_seqT, dv_ixL, dv_ixT, dv_ixO, atI_0, atI_1, atI_2, Option.bind_some, Option.bind_none, List.getElem?_cons_zero, List.getElem?_cons_succ, List.getElem?_nil, List.set_cons_zero, List.set_cons_succ, List.set_nil, List.length_cons, List.length_nil, List.map_cons, List.map_nil, List.replicate_succ, List.replicate_zero, List.cons_append, List.nil_append, Nat.reduceAdd, Nat.reduceSub, Nat.reduceLeDiff, Nat.zero_add, Nat.sub_zero, Nat.add_zero, if_true, if_false, Bool.false_eq_true, Nat.reduceEqDiff, Bool.not_true, Bool.not_false, decide_true, decide_false, ev_nat]) (inWord_len hl)
theorem m_law_like_succ (n : Nat) : m_law_like (n + 1) = runB false 3 (g_law_like (m_law_like n)) := rfl
theorem like_refl (n : Nat) : ∀ (d : D) (S : List D), lkD n d = true → m_law_like (n + 1) [d, d] S = some (.bl true, S) := by
  induction n with
  | zero => intro d S h; rw [m_law_like_succ]; exact like_flat _ d S h
  | succ n ih =>
    intro d S h
    rw [m_law_like_succ]
    cases d with
    | tup xs =>
      have h' : xs.length ≤ 16777216 ∧ lkL n xs = true := by simpa [lkD] using h
      exact like_tup _ xs S h'.1 (fun k hk => ih xs[k] S (lkL_get h'.2 hk))
    | lst xs =>
      have h' : xs.length ≤ 16777216 ∧ lkL n xs = true := by simpa [lkD] using h
      exact like_lst _ xs S h'.1 (fun k hk => ih xs[k] S (lkL_get h'.2 hk))
    | _ => exact like_flat _ _ S (by simpa [lkD] using h)
theorem dv_eqI (a b : Int) : dEq (.int a) (.int b) = some (.bl (decide (a = b))) := by
  unfold dEq
  simp only [okD, Bool.and_self, if_true, eqD]
  rw [Bool.beq_eq_decide_eq]
theorem dv_addT (xs ys : List D) (h : xs.length + ys.length ≤ 16777216) : dAdd (.tup xs) (.tup ys) = some (.tup (xs ++ ys)) := by
  show (if xs.length + ys.length ≤ 16777216 then some (D.tup (xs ++ ys)) else none) = _
  rw [if_pos h]
theorem wide_of {a b : Int} (h : wide b = true) (h1 : a.natAbs ≤ b.natAbs) : wide a = true := by
  have := wide_ok h
  exact decide_eq_true (by unfold Big; omega)
theorem wide_sm {a : Int} (h : a.natAbs < 18446744073709551616) : wide a = true := by
  refine decide_eq_true ?_
  have : (18446744073709551616 : Nat) ≤ Big := by
    show 2 ^ 64 ≤ 2 ^ 8000
    exact Nat.pow_le_pow_right (by decide) (by decide)
  omega
def gcdL (l : List Int) : Nat := l.foldl (fun g h => Nat.gcd g h.natAbs) 0
theorem foldl_gcd (l : List Int) : ∀ (g : Nat), l.foldl (fun g h => Nat.gcd g h.natAbs) g = Nat.gcd g (gcdL l) := by
  unfold gcdL
  induction l with
  | nil => intro g; simp
  | cons x l ih =>
    intro g
    rw [List.foldl_cons, List.foldl_cons, ih, ih (Nat.gcd 0 x.natAbs), Nat.gcd_zero_left, Nat.gcd_assoc]
theorem gcdL_cons (x : Int) (l : List Int) : gcdL (x :: l) = Nat.gcd x.natAbs (gcdL l) := by
  have := foldl_gcd l (Nat.gcd 0 x.natAbs)
  rw [Nat.gcd_zero_left] at this
  unfold gcdL at this ⊢
  rw [List.foldl_cons, Nat.gcd_zero_left]
  exact this
theorem gcdL_dvd : ∀ (l : List Int) (x : Int), x ∈ l → (gcdL l : Int) ∣ x
  | y :: l, x, h => by
    rw [gcdL_cons]
    rcases List.mem_cons.mp h with rfl | h
    · exact Int.ofNat_dvd_left.mpr (Nat.gcd_dvd_left _ _)
    · have := gcdL_dvd l x h
      exact Int.dvd_trans (Int.ofNat_dvd.mpr (Nat.gcd_dvd_right _ _)) this
theorem gcdL_map (c : Int) : ∀ l : List Int, gcdL (l.map (c * ·)) = c.natAbs * gcdL l
  | [] => rfl
  | x :: l => by rw [List.map_cons, gcdL_cons, gcdL_map c l, gcdL_cons, Int.natAbs_mul, Nat.gcd_mul_left]
theorem gcdL_div (l : List Int) (h : 0 < gcdL l) : gcdL (l.map (· / (gcdL l : Int))) = 1 := by
  have e : (l.map (· / (gcdL l : Int))).map ((gcdL l : Int) * ·) = l := by
    rw [List.map_map]
    have : ∀ x ∈ l, ((((gcdL l : Int) * ·) ∘ (· / (gcdL l : Int))) x) = x := fun x hx => Int.mul_ediv_cancel' (gcdL_dvd l x hx)
    rw [List.map_congr_left this, List.map_id']
  have q := gcdL_map (gcdL l) (l.map (· / (gcdL l : Int)))
  rw [e, Int.natAbs_natCast] at q
  have : gcdL l * 1 = gcdL l * gcdL (l.map (· / (gcdL l : Int))) := by rw [Nat.mul_one]; exact q
  exact (Nat.eq_of_mul_eq_mul_left h this).symm
theorem gcdL_pos : ∀ (l : List Int), l ≠ [] → (∀ x ∈ l, x ≠ 0) → 0 < gcdL l
  | [], h, _ => absurd rfl h
  | x :: l, _, h => by
    rw [gcdL_cons]
    have := h x List.mem_cons_self
    exact Nat.gcd_pos_of_pos_left _ (by omega)
def looksOf (n : Nat) : List PySem.Str := if n = 2 then ["aa", "ab"] else if n = 3 then ["aaa", "aab", "abc", "aba"] else if n = 4 then ["aaab", "aabb", "aabc", "abcd", "abab"] else []
structure GoodClk (hands : List Int) (looks : PySem.Str) (marks : Int) (most : Int) : Prop where
  len : 2 ≤ hands.length ∧ hands.length ≤ 4
  nz : ∀ h ∈ hands, h ≠ 0
  bd : ∀ h ∈ hands, (h.natAbs : Int) ≤ most
  gcd : gcdL hands = 1
  looks : looks ∈ looksOf hands.length
  marks : marks = 1 ∨ marks = 2 ∨ marks = 3 ∨ marks = 4
def clkD (hands : List Int) (looks : PySem.Str) (marks : Int) : D := .tup [.tup (hands.map .int), .str looks, .int marks]
def drawE (i : Nat) (k : Ev) : Ev := eCall 2 m_law_draw (aC (eV i) (aC k aN))
theorem drawE_ex (t : Tape) {ρ : List Slot} {i : Nat} {k : Ev} {many : Int} (hρ : ρ[i]? = some (.val (.obj 0))) (hk : k ρ (tp t) = some (.int many, tp t)) (hm : 0 < many) (hw : wide many = true) :
    ∃ r t', 0 ≤ r ∧ r < many ∧ drawE i k ρ (tp t) = some (.int r, tp t') := by
  obtain ⟨r, t', h0, h1, e⟩ := draw_ex t many hm hw
  refine ⟨r, t', h0, h1, ?_⟩
  unfold drawE
  refine call_s (ds := [.obj 0, .int many]) (S' := tp t) ?_ rfl e
  rw [ev_aC, ev_V, hρ]
  simp only [Option.bind_some]
  rw [ev_aC, hk]
  rfl
theorem handsLoop (most : Int) (hm : 0 < most) (hw : wide most = true) (n : Nat) (hn : n ≤ 4) (t : Tape) :
    ∃ hs t' x4 x5, forL (.nm 4) (sSeq (sSet 5 (eBin dAdd (eC (.int 1)) (drawE 0 (eV 1)))) (sSet 3 (eBin dAdd (eB 3) (eTup (aC (eIf (cV (eBin dEq (drawE 0 (eC (.int 5))) (eC (.int 0)))) (eUn dNeg (eB 5)) (eV 5)) aN)))))
      (rangeD 0 n) [.val (.obj 0), .val (.int most), .val (.int n), .val (.tup []), .non, .non, .non, .non] (tp t) = some (.nx [.val (.obj 0), .val (.int most), .val (.int n), .val (.tup (List.map .int hs)), x4, x5, .non, .non] (tp t'))
      ∧ hs.length = n ∧ (∀ h ∈ hs, h ≠ 0) ∧ ∀ h ∈ hs, (h.natAbs : Int) ≤ most := by
  have q := forL_inv (p := .nm 4) (g := (sSeq (sSet 5 (eBin dAdd (eC (.int 1)) (drawE 0 (eV 1)))) (sSet 3 (eBin dAdd (eB 3) (eTup (aC (eIf (cV (eBin dEq (drawE 0 (eC (.int 5))) (eC (.int 0)))) (eUn dNeg (eB 5)) (eV 5)) aN))))))
    (fun pre ρ S => ∃ hs t' x4 x5, ρ = [.val (.obj 0), .val (.int most), .val (.int n), .val (.tup (List.map .int hs)), x4, x5, .non, .non] ∧ S = tp t' ∧ hs.length = pre.length ∧ (∀ h ∈ hs, h ≠ 0) ∧ ∀ h ∈ hs, (h.natAbs : Int) ≤ most)
    (rangeD 0 n) [.val (.obj 0), .val (.int most), .val (.int n), .val (.tup []), .non, .non, .non, .non] (tp t) ⟨[], t, .non, .non, rfl, rfl, rfl, fun _ h => (nomatch h), fun _ h => (nomatch h)⟩ ?_
  · obtain ⟨ρ', S', e, hs, t', x4, x5, rfl, rfl, h1, h2, h3⟩ := q
    exact ⟨hs, t', x4, x5, e, by rw [h1, rangeD_len]; omega, h2, h3⟩
  · rintro pre x ρ S hx hN ⟨hs, t', x4, x5, rfl, rfl, h1, h2, h3⟩
    rw [rangeD_len] at hN
    obtain ⟨r, t1, r0, r1, e1⟩ := drawE_ex t' (ρ := [.val (.obj 0), .val (.int most), .val (.int n), .val (.tup (List.map .int hs)), .val x, x5, .non, .non]) (i := 0) (k := eV 1) rfl rfl hm hw
    obtain ⟨s, t2, s0, s1, e2⟩ := drawE_ex t1 (ρ := [.val (.obj 0), .val (.int most), .val (.int n), .val (.tup (List.map .int hs)), .val x, .val (.int (1 + r)), .non, .non]) (i := 0) (k := eC (.int 5)) rfl rfl (by decide) (wide_sm (by decide))
    by_cases hs0 : s = 0
    · refine ⟨_, [.val (.obj 0), .val (.int most), .val (.int n), .val (.tup (List.map .int (hs ++ [-(1 + r)]))), .val x, .val (.int (1 + r)), .non, .non], tp t2, ev_bnm _ _, ?_, hs ++ [-(1 + r)], t2, _, _, rfl, rfl, by simp [h1], ?_, ?_⟩
      · rw [ev_put1, ev_put0]
        refine (seq_nx (set_s (bin_s (d := .int 1) rfl e1 rfl))).trans (set_s (bin_s (d := .tup (List.map .int hs)) (S' := tp t1) rfl (tup_s (aC_s (d := .int (-(1 + r))) ((eif_t (S' := tp t2) ?_).trans rfl) rfl) (by show 1 ≤ 16777216; decide)) ?_))
        · refine cV_s (bin_s e2 rfl ?_)
          rw [dv_eqI, decide_eq_true hs0]
        · rw [dv_addT _ _ (by simp; omega), List.map_append]; rfl
      · intro h m; rcases List.mem_append.mp m with m | m
        · exact h2 h m
        · have : h = -(1 + r) := by simpa using m
          omega
      · intro h m; rcases List.mem_append.mp m with m | m
        · exact h3 h m
        · have : h = -(1 + r) := by simpa using m
          omega
    · refine ⟨_, [.val (.obj 0), .val (.int most), .val (.int n), .val (.tup (List.map .int (hs ++ [1 + r]))), .val x, .val (.int (1 + r)), .non, .non], tp t2, ev_bnm _ _, ?_, hs ++ [1 + r], t2, _, _, rfl, rfl, by simp [h1], ?_, ?_⟩
      · rw [ev_put1, ev_put0]
        refine (seq_nx (set_s (bin_s (d := .int 1) rfl e1 rfl))).trans (set_s (bin_s (d := .tup (List.map .int hs)) (S' := tp t1) rfl (tup_s (aC_s (d := .int (1 + r)) ((eif_f (S' := tp t2) ?_).trans rfl) rfl) (by show 1 ≤ 16777216; decide)) ?_))
        · refine cV_s (bin_s e2 rfl ?_)
          rw [dv_eqI, decide_eq_false hs0]
        · rw [dv_addT _ _ (by simp; omega), List.map_append]; rfl
      · intro h m; rcases List.mem_append.mp m with m | m
        · exact h2 h m
        · have : h = (1 + r) := by simpa using m
          omega
      · intro h m; rcases List.mem_append.mp m with m | m
        · exact h3 h m
        · have : h = (1 + r) := by simpa using m
          omega
def lastSlot (x : Slot) (l : List Int) : Slot := l.foldl (fun _ h => .val (.int h)) x
theorem gcdLoop (a b c d f : Slot) (hs : List Int) (x : Slot) (S : List D) :
    forL (.nm 5) (sSet 6 (eCall 2 m_law_gcd (aC (eV 6) (aC (eV 5) aN)))) (hs.map .int) [a, b, c, d, f, x, .val (.int 0), .non] S = some (.nx [a, b, c, d, f, lastSlot x hs, .val (.int (gcdL hs)), .non] S) := by
  have q := (forL_fold (p := .nm 5) (g := (sSet 6 (eCall 2 m_law_gcd (aC (eV 6) (aC (eV 5) aN))))) (D.int) (fun (s : Nat × Slot) => [a, b, c, d, f, s.2, .val (.int s.1), .non]) (fun s h => (Nat.gcd s.1 h.natAbs, .val (.int h))) S (fun _ => True)
    (fun s h _ => ⟨_, ev_bnm _ _, ?_, trivial⟩) hs (0, x) trivial).1
  · refine q.trans ?_
    have e : ∀ (l : List Int) (g : Nat) (y : Slot), l.foldl (fun (s : Nat × Slot) h => (Nat.gcd s.1 h.natAbs, Slot.val (.int h))) (g, y) = (l.foldl (fun g h => Nat.gcd g h.natAbs) g, lastSlot y l) := by
      intro l
      induction l with
      | nil => intro g y; rfl
      | cons z l ih => intro g y; rw [List.foldl_cons, ih]; rfl
    rw [e]
    rfl
  · rw [ev_put1, ev_put0]
    refine set_s (call_s (ds := [.int s.1, .int h]) (S' := S) rfl rfl ?_)
    rw [m_law_gcd_eq]
    rfl
theorem divComp (a b c d f x y g : Slot) (hs : List Int) (n : Int) (S : List D) (hn : 0 < n) (hw : wide n = true) :
    compL (.nm 5) cYes (eBin dDiv (eB 5) (eB 6)) [a, b, c, d, f, .non, .val (.int n), g] (hs.map .int) S = some ((hs.map (· / n)).map .int, S) := by
  rw [List.map_map]
  refine compL_map D.int _ hs fun h _ => ⟨_, ev_bnm _ _, ?_⟩
  rw [ev_put1, ev_put0]
  exact bin_s (S' := S) rfl rfl (dv_div _ _ hn hw)
def loCut (n : Nat) (s : PySem.Str) : PySem.Str := L2.cutS s none (some (n : Int))
theorem slS (n : Nat) (s : PySem.Str) (h : s.length ≤ 16777216) : slD none (some (n : Int)) (.str s) = some (.str (loCut n s)) := by
  show (if s.length ≤ 16777216 then some (D.str (L2.cutS s none (some (n : Int)))) else none) = _
  rw [if_pos h]
  rfl
theorem cuts (n : Nat) (h : n = 2 ∨ n = 3 ∨ n = 4) (s : PySem.Str) (hs : s ∈ (["aaab", "aabb", "aabc", "abcd", "abab"] : List PySem.Str)) : loCut n s ∈ looksOf n := by
  have key : ∀ n ∈ [2, 3, 4], ∀ s ∈ (["aaab", "aabb", "aabc", "abcd", "abab"] : List PySem.Str), loCut n s ∈ looksOf n := by decide +kernel
  exact key n (by simp; exact h) s hs
theorem cutA (n : Nat) (h : n = 2 ∨ n = 3) : loCut n "aaa" ∈ looksOf n := by
  have key : ∀ n ∈ [2, 3], loCut n "aaa" ∈ looksOf n := by decide +kernel
  exact key n (by simp; exact h)
theorem len5 (s : PySem.Str) (hs : s ∈ (["aaab", "aabb", "aabc", "abcd", "abab"] : List PySem.Str)) : s.length ≤ 16777216 := by
  have key : ∀ s ∈ (["aaab", "aabb", "aabc", "abcd", "abab"] : List PySem.Str), s.length ≤ 4 := by decide +kernel
  have := key s hs
  omega
theorem g_law_clock_is : g_law_clock = (sSeq (sSet 2 (eIx (eLst (aC (eC (.int 2)) (aC (eC (.int 2)) (aC (eC (.int 3)) (aC (eC (.int 2)) (aC (eC (.int 4)) aN)))))) (drawE 0 (eC (.int 5))))) (sSeq (sSet 3 (eTup aN)) (sSeq (sFor (.nm 4) (iRange1 (aC (eV 2) aN)) (sSeq (sSet 5 (eBin dAdd (eC (.int 1)) (drawE 0 (eV 1)))) (sSet 3 (eBin dAdd (eB 3) (eTup (aC (eIf (cV (eBin dEq (drawE 0 (eC (.int 5))) (eC (.int 0)))) (eUn dNeg (eB 5)) (eV 5)) aN)))))) (sSeq (sSet 6 (eC (.int 0))) (sSeq (sFor (.nm 5) (iAny (eV 3)) (sSet 6 (eCall 2 m_law_gcd (aC (eV 6) (aC (eV 5) aN))))) (sSeq (sSet 3 (eUn dTup (eComp (.nm 5) (iAny (eV 3)) cYes (eBin dDiv (eB 5) (eB 6)) [5]))) (sSeq (sSet 7 (eSl (eIx (eLst (aC (eC (.str "aaab")) (aC (eC (.str "aabb")) (aC (eC (.str "aabc")) (aC (eC (.str "abcd")) (aC (eC (.str "abab")) aN)))))) (drawE 0 (eC (.int 5)))) oN (oE (eV 2)))) (sSeq (sSet 7 (eIf (cAnd (cV (eBin dLt (eB 2) (eC (.int 4)))) (cV (eBin dGt (drawE 0 (eC (.int 3))) (eC (.int 0))))) (eSl (eC (.str "aaa")) oN (oE (eV 2))) (eV 7))) (sRet (eTup (aC (eV 3) (aC (eV 7) (aC (eIx (eLst (aC (eC (.int 1)) (aC (eC (.int 1)) (aC (eC (.int 1)) (aC (eC (.int 2)) (aC (eC (.int 3)) (aC (eC (.int 4)) aN))))))) (drawE 0 (eC (.int 6)))) aN))))))))))))) := rfl
theorem clock_ex (t : Tape) (most : Int) (hm : 0 < most) (hw : wide most = true) : ∃ hands looks marks t', GoodClk hands looks marks most ∧ m_law_clock [.obj 0, .int most] (tp t) = some (clkD hands looks marks, tp t') := by
  unfold m_law_clock
  rw [g_law_clock_is]
  obtain ⟨k1, t1, a0, a1, e1⟩ := drawE_ex t (ρ := [.val (.obj 0), .val (.int most), .non, .non, .non, .non, .non, .non]) (i := 0) (k := eC (.int 5)) rfl rfl (by decide) (wide_sm (by decide))
  obtain ⟨d1, m1, p1⟩ := pick_of (xs := [.int 2, .int 2, .int 3, .int 2, .int 4]) a0 (by simpa using a1)
  obtain ⟨n, hn, rfl⟩ : ∃ n : Nat, (n = 2 ∨ n = 3 ∨ n = 4) ∧ d1 = .int n := by
    simp only [List.mem_cons, List.not_mem_nil, or_false] at m1
    rcases m1 with rfl | rfl | rfl | rfl | rfl
    · exact ⟨2, .inl rfl, rfl⟩
    · exact ⟨2, .inl rfl, rfl⟩
    · exact ⟨3, .inr (.inl rfl), rfl⟩
    · exact ⟨2, .inl rfl, rfl⟩
    · exact ⟨4, .inr (.inr rfl), rfl⟩
  obtain ⟨hs, t2, x4, x5, e2, hl, hnz, hbd⟩ := handsLoop most hm hw n (by omega) t1
  have hne : hs ≠ [] := fun e => by rw [e] at hl; simp at hl; omega
  have gpos := gcdL_pos hs hne hnz
  have gw : wide (gcdL hs : Int) = true := by
    cases hs with
    | nil => exact absurd rfl hne
    | cons h hs' =>
      have h1 := Int.le_of_dvd (by have := hnz h List.mem_cons_self; omega) (Int.dvd_natAbs.mpr (gcdL_dvd (h :: hs') h List.mem_cons_self))
      have h2 := hbd h List.mem_cons_self
      exact wide_of hw (by omega)
  have e3 := gcdLoop (.val (.obj 0)) (.val (.int most)) (.val (.int n)) (.val (.tup (List.map .int hs))) x4 hs x5 (tp t2)
  have e4 := divComp (.val (.obj 0)) (.val (.int most)) (.val (.int n)) (.val (.tup (List.map .int hs))) x4 .non .non .non hs (gcdL hs) (tp t2) (by omega) gw
  generalize hands_def : hs.map (· / (gcdL hs : Int)) = hands at e4
  obtain ⟨k2, t3, b0, b1, e5⟩ := drawE_ex t2 (ρ := [.val (.obj 0), .val (.int most), .val (.int n), .val (.tup (hands.map .int)), x4, lastSlot x5 hs, .val (.int (gcdL hs)), .non]) (i := 0) (k := eC (.int 5)) rfl rfl (by decide) (wide_sm (by decide))
  obtain ⟨d2, m2, p2⟩ := pick_of (xs := [.str "aaab", .str "aabb", .str "aabc", .str "abcd", .str "abab"]) b0 (by simpa using b1)
  obtain ⟨s, hs5, rfl⟩ : ∃ s, s ∈ (["aaab", "aabb", "aabc", "abcd", "abab"] : List PySem.Str) ∧ d2 = .str s := by
    simp only [List.mem_cons, List.not_mem_nil, or_false] at m2
    rcases m2 with rfl | rfl | rfl | rfl | rfl <;> exact ⟨_, by simp, rfl⟩
  obtain ⟨looks, t4, hlk, e6⟩ : ∃ looks t4, looks ∈ looksOf n ∧ eIf (cAnd (cV (eBin dLt (eB 2) (eC (.int 4)))) (cV (eBin dGt (drawE 0 (eC (.int 3))) (eC (.int 0))))) (eSl (eC (.str "aaa")) oN (oE (eV 2))) (eV 7)
      [.val (.obj 0), .val (.int most), .val (.int n), .val (.tup (hands.map .int)), x4, lastSlot x5 hs, .val (.int (gcdL hs)), .val (.str (loCut n s))] (tp t3) = some (.str looks, tp t4) := by
    by_cases h4 : n = 4
    · refine ⟨loCut n s, t3, cuts n hn s hs5, (eif_f (S' := tp t3) ?_).trans rfl⟩
      have hn4 : ¬ (n : Int) < 4 := by omega
      simp only [ev_C, ev_V, ev_B, ev_aN, ev_aC, ev_Tup, ev_Lst, ev_Bin, ev_Un, ev_UnF, ev_cV, ev_cAnd, ev_cOr, ev_cNot, ev_cYes, ev_And, ev_Or, ev_Not, ev_If, ev_Chain, ev_Call, ev_Ix, ev_Sl, ev_oN, ev_oE, ev_aS, ev_Comp, ev_iAny, ev_iRange1, ev_iRange2, ev_iZip, ev_iEnum, ev_sNil, ev_sSeq, ev_sIf, ev_sRet, ev_sRetO, ev_sRetN, ev_sAsg, ev_sSet, ev_sSetO, ev_sPar, ev_sFor, ev_sWhile, ev_sApp, ev_sIxO, ev_sIxC, ev_sFrz, ev_sExp, ev_sPass, ev_runB, ev_forN, ev_compN, ev_put0, ev_put1, ev_wipe0, ev_wipe1, ev_bnm, ev_btup, ev_bL0, ev_bL1, dv_add, dv_sub, dv_neg, dv_lt, dv_le, dv_gt, dv_ge, dv_int, dv_abs, dv_lenL, dv_lenT, dv_tupL, dv_tupT, dv_lofL, dv_lofT, dv_lofS, dv_seqL, dv_seqT, dv_ixL, dv_ixT, dv_ixO, atI_0, atI_1, atI_2, Option.bind_some, Option.bind_none, List.getElem?_cons_zero, List.getElem?_cons_succ, List.getElem?_nil, List.set_cons_zero, List.set_cons_succ, List.set_nil, List.length_cons, List.length_nil, List.map_cons, List.map_nil, List.replicate_succ, List.replicate_zero, List.cons_append, List.nil_append, Nat.reduceAdd, Nat.reduceSub, Nat.reduceLeDiff, Nat.zero_add, Nat.sub_zero, Nat.add_zero, if_true, if_false, Bool.false_eq_true, Nat.reduceEqDiff, Bool.not_true, Bool.not_false, decide_true, decide_false, ev_nat, decide_eq_false hn4]
    · have hn4 : (n : Int) < 4 := by omega
      obtain ⟨k3, t4, c0, c1, e⟩ := drawE_ex t3 (ρ := [.val (.obj 0), .val (.int most), .val (.int n), .val (.tup (hands.map .int)), x4, lastSlot x5 hs, .val (.int (gcdL hs)), .val (.str (loCut n s))]) (i := 0) (k := eC (.int 3)) rfl rfl (by decide) (wide_sm (by decide))
      by_cases h3 : 0 < k3
      · refine ⟨loCut n "aaa", t4, cutA n (by omega), (eif_t (S' := tp t4) ?_).trans ?_⟩
        · simp only [ev_C, ev_V, ev_B, ev_aN, ev_aC, ev_Tup, ev_Lst, ev_Bin, ev_Un, ev_UnF, ev_cV, ev_cAnd, ev_cOr, ev_cNot, ev_cYes, ev_And, ev_Or, ev_Not, ev_If, ev_Chain, ev_Call, ev_Ix, ev_Sl, ev_oN, ev_oE, ev_aS, ev_Comp, ev_iAny, ev_iRange1, ev_iRange2, ev_iZip, ev_iEnum, ev_sNil, ev_sSeq, ev_sIf, ev_sRet, ev_sRetO, ev_sRetN, ev_sAsg, ev_sSet, ev_sSetO, ev_sPar, ev_sFor, ev_sWhile, ev_sApp, ev_sIxO, ev_sIxC, ev_sFrz, ev_sExp, ev_sPass, ev_runB, ev_forN, ev_compN, ev_put0, ev_put1, ev_wipe0, ev_wipe1, ev_bnm, ev_btup, ev_bL0, ev_bL1, dv_add, dv_sub, dv_neg, dv_lt, dv_le, dv_gt, dv_ge, dv_int, dv_abs, dv_lenL, dv_lenT, dv_tupL, dv_tupT, dv_lofL, dv_lofT, dv_lofS, dv_seqL, dv_seqT, dv_ixL, dv_ixT, dv_ixO, atI_0, atI_1, atI_2, Option.bind_some, Option.bind_none, List.getElem?_cons_zero, List.getElem?_cons_succ, List.getElem?_nil, List.set_cons_zero, List.set_cons_succ, List.set_nil, List.length_cons, List.length_nil, List.map_cons, List.map_nil, List.replicate_succ, List.replicate_zero, List.cons_append, List.nil_append, Nat.reduceAdd, Nat.reduceSub, Nat.reduceLeDiff, Nat.zero_add, Nat.sub_zero, Nat.add_zero, if_true, if_false, Bool.false_eq_true, Nat.reduceEqDiff, Bool.not_true, Bool.not_false, decide_true, decide_false, ev_nat, decide_eq_true hn4, e, decide_eq_true h3]
        · have q := slS n "aaa" (by decide)
          simp only [ev_C, ev_V, ev_B, ev_aN, ev_aC, ev_Tup, ev_Lst, ev_Bin, ev_Un, ev_UnF, ev_cV, ev_cAnd, ev_cOr, ev_cNot, ev_cYes, ev_And, ev_Or, ev_Not, ev_If, ev_Chain, ev_Call, ev_Ix, ev_Sl, ev_oN, ev_oE, ev_aS, ev_Comp, ev_iAny, ev_iRange1, ev_iRange2, ev_iZip, ev_iEnum, ev_sNil, ev_sSeq, ev_sIf, ev_sRet, ev_sRetO, ev_sRetN, ev_sAsg, ev_sSet, ev_sSetO, ev_sPar, ev_sFor, ev_sWhile, ev_sApp, ev_sIxO, ev_sIxC, ev_sFrz, ev_sExp, ev_sPass, ev_runB, ev_forN, ev_compN, ev_put0, ev_put1, ev_wipe0, ev_wipe1, ev_bnm, ev_btup, ev_bL0, ev_bL1, dv_add, dv_sub, dv_neg, dv_lt, dv_le, dv_gt, dv_ge, dv_int, dv_abs, dv_lenL, dv_lenT, dv_tupL, dv_tupT, dv_lofL, dv_lofT, dv_lofS, dv_seqL, dv_seqT, dv_ixL, dv_ixT, dv_ixO, atI_0, atI_1, atI_2, Option.bind_some, Option.bind_none, List.getElem?_cons_zero, List.getElem?_cons_succ, List.getElem?_nil, List.set_cons_zero, List.set_cons_succ, List.set_nil, List.length_cons, List.length_nil, List.map_cons, List.map_nil, List.replicate_succ, List.replicate_zero, List.cons_append, List.nil_append, Nat.reduceAdd, Nat.reduceSub, Nat.reduceLeDiff, Nat.zero_add, Nat.sub_zero, Nat.add_zero, if_true, if_false, Bool.false_eq_true, Nat.reduceEqDiff, Bool.not_true, Bool.not_false, decide_true, decide_false, ev_nat, q]
      · refine ⟨loCut n s, t4, cuts n hn s hs5, (eif_f (S' := tp t4) ?_).trans rfl⟩
        simp only [ev_C, ev_V, ev_B, ev_aN, ev_aC, ev_Tup, ev_Lst, ev_Bin, ev_Un, ev_UnF, ev_cV, ev_cAnd, ev_cOr, ev_cNot, ev_cYes, ev_And, ev_Or, ev_Not, ev_If, ev_Chain, ev_Call, ev_Ix, ev_Sl, ev_oN, ev_oE, ev_aS, ev_Comp, ev_iAny, ev_iRange1, ev_iRange2, ev_iZip, ev_iEnum, ev_sNil, ev_sSeq, ev_sIf, ev_sRet, ev_sRetO, ev_sRetN, ev_sAsg, ev_sSet, ev_sSetO, ev_sPar, ev_sFor, ev_sWhile, ev_sApp, ev_sIxO, ev_sIxC, ev_sFrz, ev_sExp, ev_sPass, ev_runB, ev_forN, ev_compN, ev_put0, ev_put1, ev_wipe0, ev_wipe1, ev_bnm, ev_btup, ev_bL0, ev_bL1, dv_add, dv_sub, dv_neg, dv_lt, dv_le, dv_gt, dv_ge, dv_int, dv_abs, dv_lenL, dv_lenT, dv_tupL, dv_tupT, dv_lofL, dv_lofT, dv_lofS, dv_seqL, dv_seqT, dv_ixL, dv_ixT, dv_ixO, atI_0, atI_1, atI_2, Option.bind_some, Option.bind_none, List.getElem?_cons_zero, List.getElem?_cons_succ, List.getElem?_nil, List.set_cons_zero, List.set_cons_succ, List.set_nil, List.length_cons, List.length_nil, List.map_cons, List.map_nil, List.replicate_succ, List.replicate_zero, List.cons_append, List.nil_append, Nat.reduceAdd, Nat.reduceSub, Nat.reduceLeDiff, Nat.zero_add, Nat.sub_zero, Nat.add_zero, if_true, if_false, Bool.false_eq_true, Nat.reduceEqDiff, Bool.not_true, Bool.not_false, decide_true, decide_false, ev_nat, decide_eq_true hn4, e, decide_eq_false h3]
  obtain ⟨k4, t5, f0, f1, e7⟩ := drawE_ex t4 (ρ := [.val (.obj 0), .val (.int most), .val (.int n), .val (.tup (hands.map .int)), x4, lastSlot x5 hs, .val (.int (gcdL hs)), .val (.str looks)]) (i := 0) (k := eC (.int 6)) rfl rfl (by decide) (wide_sm (by decide))
  obtain ⟨d4, m4, p4⟩ := pick_of (xs := [.int 1, .int 1, .int 1, .int 2, .int 3, .int 4]) f0 (by simpa using f1)
  obtain ⟨marks, hmk, rfl⟩ : ∃ k : Int, (k = 1 ∨ k = 2 ∨ k = 3 ∨ k = 4) ∧ d4 = .int k := by
    simp only [List.mem_cons, List.not_mem_nil, or_false] at m4
    rcases m4 with rfl | rfl | rfl | rfl | rfl | rfl <;> exact ⟨_, by decide, rfl⟩
  have hl2 : hands.length = n := by rw [← hands_def, List.length_map, hl]
  refine ⟨hands, looks, marks, t5, ⟨by omega, fun h m => ?_, fun h m => ?_, by rw [← hands_def]; exact gcdL_div hs gpos, by rw [hl2]; exact hlk, hmk⟩, ?_⟩
  · rw [← hands_def] at m
    obtain ⟨z, mz, rfl⟩ := List.mem_map.mp m
    intro e0
    have := Int.mul_ediv_cancel' (gcdL_dvd hs z mz)
    have e0' : z / (gcdL hs : Int) = 0 := e0
    rw [e0'] at this
    exact hnz z mz (by omega)
  · rw [← hands_def] at m
    obtain ⟨z, mz, rfl⟩ := List.mem_map.mp m
    have h1 := hbd z mz
    have h2 : ((z / (gcdL hs : Int)).natAbs : Int) ≤ z.natAbs := by
      have := Int.mul_ediv_cancel' (gcdL_dvd hs z mz)
      have h3 : z.natAbs = gcdL hs * (z / (gcdL hs : Int)).natAbs := by
        have h4 := congrArg Int.natAbs this
        rw [Int.natAbs_mul, Int.natAbs_natCast] at h4
        exact h4.symm
      have : 1 * (z / (gcdL hs : Int)).natAbs ≤ gcdL hs * (z / (gcdL hs : Int)).natAbs := Nat.mul_le_mul_right _ gpos
      omega
    show ((z / (gcdL hs : Int)).natAbs : Int) ≤ most
    omega
  · refine run_rt (ρ := [.val (.obj 0), .val (.int most), .non, .non, .non, .non, .non, .non]) rfl ?_
    refine (seq_nx (set_s (ix_s (d := .lst [.int 2, .int 2, .int 3, .int 2, .int 4]) (S' := tp t) rfl e1 p1))).trans ?_
    refine (seq_nx (set_s (d := .tup []) (S' := tp t1) rfl)).trans ?_
    refine (seq_nx (for_s (range1_s (k := n) (S' := tp t1) rfl (inWord_len (by omega))) e2)).trans ?_
    refine (seq_nx (set_s (d := .int 0) (S' := tp t2) rfl)).trans ?_
    refine (seq_nx (for_s (ds := hs.map .int) (S' := tp t2) rfl e3)).trans ?_
    refine (seq_nx (set_s (d := .tup (hands.map .int)) (S' := tp t2) ?_)).trans ?_
    · refine un_s (d := .lst (hands.map .int)) (S' := tp t2) ?_ rfl
      refine comp_s (ds := hs.map .int) (S' := tp t2) ?_ ?_ ?_
      · rfl
      · rw [List.length_map]; omega
      · exact e4
    refine (seq_nx (set_s (d := .str (loCut n s)) (S' := tp t3) ?_)).trans ?_
    · have q1 := ix_s (d := .lst [.str "aaab", .str "aabb", .str "aabc", .str "abcd", .str "abab"]) (fa := (eLst (aC (eC (.str "aaab")) (aC (eC (.str "aabb")) (aC (eC (.str "aabc")) (aC (eC (.str "abcd")) (aC (eC (.str "abab")) aN))))))) (S' := tp t2) rfl e5 p2
      have q2 := slS n s (len5 s hs5)
      rw [ev_Sl]
      refine (congrArg (fun o => Option.bind o _) q1).trans ?_
      simp only [ev_C, ev_V, ev_B, ev_aN, ev_aC, ev_Tup, ev_Lst, ev_Bin, ev_Un, ev_UnF, ev_cV, ev_cAnd, ev_cOr, ev_cNot, ev_cYes, ev_And, ev_Or, ev_Not, ev_If, ev_Chain, ev_Call, ev_Ix, ev_Sl, ev_oN, ev_oE, ev_aS, ev_Comp, ev_iAny, ev_iRange1, ev_iRange2, ev_iZip, ev_iEnum, ev_sNil, ev_sSeq, ev_sIf, ev_sRet, ev_sRetO, ev_sRetN, ev_sAsg, ev_sSet, ev_sSetO, ev_sPar, ev_sFor, ev_sWhile, ev_sApp, ev_sIxO, ev_sIxC, ev_sFrz, ev_sExp, ev_sPass, ev_runB, ev_forN, ev_compN, ev_put0, ev_put1, ev_wipe0, ev_wipe1, ev_bnm, ev_btup, ev_bL0, ev_bL1, dv_add, dv_sub, dv_neg, dv_lt, dv_le, dv_gt, dv_ge, dv_int, dv_abs, dv_lenL, dv_lenT, dv_tupL, dv_tupT, dv_lofL, dv_lofT, dv_lofS, dv_seqL, dv_seqT, dv_ixL, dv_ixT, dv_ixO, atI_0, atI_1, atI_2, Option.bind_some, Option.bind_none, List.getElem?_cons_zero, List.getElem?_cons_succ, List.getElem?_nil, List.set_cons_zero, List.set_cons_succ, List.set_nil, List.length_cons, List.length_nil, List.map_cons, List.map_nil, List.replicate_succ, List.replicate_zero, List.cons_append, List.nil_append, Nat.reduceAdd, Nat.reduceSub, Nat.reduceLeDiff, Nat.zero_add, Nat.sub_zero, Nat.add_zero, if_true, if_false, Bool.false_eq_true, Nat.reduceEqDiff, Bool.not_true, Bool.not_false, decide_true, decide_false, ev_nat, q2]
    refine (seq_nx (set_s e6)).trans ?_
    refine ret_s (tup_s (aC_s (d := .tup (hands.map .int)) (S' := tp t4) rfl (aC_s (d := .str looks) (S' := tp t4) rfl (aC_s (ix_s (d := .lst [.int 1, .int 1, .int 1, .int 2, .int 3, .int 4]) (S' := tp t4) rfl e7 p4) rfl))) (by show 3 ≤ 16777216; decide))
theorem fr_den (t b : Int) (hb : 0 < b) : ((fr ((t : Rat) / (b : Rat))).den : Int) ≤ b := by
  have h := part_q t b hb
  unfold dR at h
  injection h with h
  injection h with h1 h2
  injection h2 with h2 _
  injection h2 with h2
  rw [← h2]
  exact Int.ediv_le_self _ (Int.le_of_lt hb)
structure GoodTime (q : Rat) : Prop where
  lo : 0 ≤ q
  hi : q < 1
  den : (q.den : Int) ≤ 1000000
theorem num_mul (q : Rat) (k : Int) : ((q.num * k : Int) : Rat) / (q.den : Int) = q * (k : Rat) := by
  rw [Rat.intCast_mul]
  have := num_div_den q
  have e : ((q.den : Int) : Rat) = (q.den : Rat) := Rat.intCast_natCast _
  rw [e]
  grind
def dial (hands : List Int) (q : Rat) : List D := hands.map fun (h : Int) => dR (fr (q * (h : Rat)))
theorem lk_dial (hands : List Int) (q : Rat) (hl : hands.length ≤ 16777216) : lkD 7 (.tup (dial hands q)) = true := by
  have a : lkL 6 (dial hands q) = true := lkL_of fun x hx => by
    obtain ⟨h, _, rfl⟩ := List.mem_map.mp hx
    simp [dR, lkD, lkL]
  have b : (dial hands q).length ≤ 16777216 := by unfold dial; rw [List.length_map]; exact hl
  simp only [lkD, a, decide_eq_true b, Bool.and_self]
theorem chain_le {fa fb fz : Ev} {ρ : List Slot} {S S1 S2 S3 : List D} {a b c : Int} (h1 : fa ρ S = some (.int a, S1)) (h2 : fb ρ S1 = some (.int b, S2)) (h3 : fz ρ S2 = some (.int c, S2)) :
    eChain dLe dLe fa fb fz ρ S = some (.bl (decide (a ≤ b) && decide (b ≤ c)), S2) := by
  rw [ev_Chain, h1, Option.bind_some, h2, Option.bind_some, dv_le, Option.bind_some]
  cases h : decide (a ≤ b) with
  | true => show ((fz ρ S2).bind _) = _; rw [h3]; rfl
  | false => rfl
theorem chain_lt {fa fb fz : Ev} {ρ : List Slot} {S S1 S2 S3 : List D} {a b c : Int} (h1 : fa ρ S = some (.int a, S1)) (h2 : fb ρ S1 = some (.int b, S2)) (h3 : fz ρ S2 = some (.int c, S2)) :
    eChain dLt dLt fa fb fz ρ S = some (.bl (decide (a < b) && decide (b < c)), S2) := by
  rw [ev_Chain, h1, Option.bind_some, h2, Option.bind_some, dv_lt, Option.bind_some]
  cases h : decide (a < b) with
  | true => show ((fz ρ S2).bind _) = _; rw [h3]; rfl
  | false => rfl
def plain : D → Bool
  | .non => true
  | .bl _ => true
  | .int _ => true
  | .str _ => true
  | .tup _ => true
  | .lst _ => true
  | _ => false
def inR (d : D) (lo hi : Int) : Bool := match d with
  | .int i => decide (lo ≤ i) && decide (i ≤ hi)
  | _ => false
def isWh : D → Bool
  | .int _ => true
  | _ => false
theorem lk_plain {n : Nat} {d : D} (h : lkD n d = true) : plain d = true := by
  cases d <;> first | rfl | (simp [lkD] at h)
theorem m_is_integer_eq (d : D) (lo hi : Int) (S : List D) (h : plain d = true) : m_is_integer [d, .int lo, .int hi] S = some (.bl (inR d lo hi), S) := by
  unfold m_is_integer g_is_integer
  cases d with
  | non => simp only [ev_C, ev_V, ev_B, ev_aN, ev_aC, ev_Tup, ev_Lst, ev_Bin, ev_Un, ev_UnF, ev_cV, ev_cAnd, ev_cOr, ev_cNot, ev_cYes, ev_And, ev_Or, ev_Not, ev_If, ev_Chain, ev_Call, ev_Ix, ev_Sl, ev_oN, ev_oE, ev_aS, ev_Comp, ev_iAny, ev_iRange1, ev_iRange2, ev_iZip, ev_iEnum, ev_sNil, ev_sSeq, ev_sIf, ev_sRet, ev_sRetO, ev_sRetN, ev_sAsg, ev_sSet, ev_sSetO, ev_sPar, ev_sFor, ev_sWhile, ev_sApp, ev_sIxO, ev_sIxC, ev_sFrz, ev_sExp, ev_sPass, ev_runB, ev_forN, ev_compN, ev_put0, ev_put1, ev_wipe0, ev_wipe1, ev_bnm, ev_btup, ev_bL0, ev_bL1, dv_add, dv_sub, dv_neg, dv_lt, dv_le, dv_gt, dv_ge, dv_int, dv_abs, dv_lenL, dv_lenT, dv_tupL, dv_tupT, dv_lofL, dv_lofT, dv_lofS, dv_seqL, dv_seqT, dv_ixL, dv_ixT, dv_ixO, atI_0, atI_1, atI_2, Option.bind_some, Option.bind_none, List.getElem?_cons_zero, List.getElem?_cons_succ, List.getElem?_nil, List.set_cons_zero, List.set_cons_succ, List.set_nil, List.length_cons, List.length_nil, List.map_cons, List.map_nil, List.replicate_succ, List.replicate_zero, List.cons_append, List.nil_append, Nat.reduceAdd, Nat.reduceSub, Nat.reduceLeDiff, Nat.zero_add, Nat.sub_zero, Nat.add_zero, if_true, if_false, Bool.false_eq_true, Nat.reduceEqDiff, Bool.not_true, Bool.not_false, decide_true, decide_false, ev_nat, dIs, isI, isBo, inR]
  | bl _ => simp only [ev_C, ev_V, ev_B, ev_aN, ev_aC, ev_Tup, ev_Lst, ev_Bin, ev_Un, ev_UnF, ev_cV, ev_cAnd, ev_cOr, ev_cNot, ev_cYes, ev_And, ev_Or, ev_Not, ev_If, ev_Chain, ev_Call, ev_Ix, ev_Sl, ev_oN, ev_oE, ev_aS, ev_Comp, ev_iAny, ev_iRange1, ev_iRange2, ev_iZip, ev_iEnum, ev_sNil, ev_sSeq, ev_sIf, ev_sRet, ev_sRetO, ev_sRetN, ev_sAsg, ev_sSet, ev_sSetO, ev_sPar, ev_sFor, ev_sWhile, ev_sApp, ev_sIxO, ev_sIxC, ev_sFrz, ev_sExp, ev_sPass, ev_runB, ev_forN, ev_compN, ev_put0, ev_put1, ev_wipe0, ev_wipe1, ev_bnm, ev_btup, ev_bL0, ev_bL1, dv_add, dv_sub, dv_neg, dv_lt, dv_le, dv_gt, dv_ge, dv_int, dv_abs, dv_lenL, dv_lenT, dv_tupL, dv_tupT, dv_lofL, dv_lofT, dv_lofS, dv_seqL, dv_seqT, dv_ixL, dv_ixT, dv_ixO, atI_0, atI_1, atI_2, Option.bind_some, Option.bind_none, List.getElem?_cons_zero, List.getElem?_cons_succ, List.getElem?_nil, List.set_cons_zero, List.set_cons_succ, List.set_nil, List.length_cons, List.length_nil, List.map_cons, List.map_nil, List.replicate_succ, List.replicate_zero, List.cons_append, List.nil_append, Nat.reduceAdd, Nat.reduceSub, Nat.reduceLeDiff, Nat.zero_add, Nat.sub_zero, Nat.add_zero, if_true, if_false, Bool.false_eq_true, Nat.reduceEqDiff, Bool.not_true, Bool.not_false, decide_true, decide_false, ev_nat, dIs, isI, isBo, inR]
  | int i =>
    have q := chain_le (fa := eB 1) (fb := eB 0) (fz := eB 2) (ρ := [.val (.int i), .val (.int lo), .val (.int hi)]) (S := S) (S1 := S) (S2 := S) (S3 := S) (a := lo) (b := i) (c := hi) rfl rfl rfl
    simp only [ev_runB, ev_sRet, ev_And, ev_Not, ev_Un, ev_B, dIs, isI, isBo, inR, List.map_cons, List.map_nil, List.length_cons, List.length_nil, List.cons_append, List.nil_append, Nat.reduceAdd, Nat.reduceSub, List.replicate_zero, List.getElem?_cons_zero, Option.bind_some, Bool.not_false, q]
  | str _ => simp only [ev_C, ev_V, ev_B, ev_aN, ev_aC, ev_Tup, ev_Lst, ev_Bin, ev_Un, ev_UnF, ev_cV, ev_cAnd, ev_cOr, ev_cNot, ev_cYes, ev_And, ev_Or, ev_Not, ev_If, ev_Chain, ev_Call, ev_Ix, ev_Sl, ev_oN, ev_oE, ev_aS, ev_Comp, ev_iAny, ev_iRange1, ev_iRange2, ev_iZip, ev_iEnum, ev_sNil, ev_sSeq, ev_sIf, ev_sRet, ev_sRetO, ev_sRetN, ev_sAsg, ev_sSet, ev_sSetO, ev_sPar, ev_sFor, ev_sWhile, ev_sApp, ev_sIxO, ev_sIxC, ev_sFrz, ev_sExp, ev_sPass, ev_runB, ev_forN, ev_compN, ev_put0, ev_put1, ev_wipe0, ev_wipe1, ev_bnm, ev_btup, ev_bL0, ev_bL1, dv_add, dv_sub, dv_neg, dv_lt, dv_le, dv_gt, dv_ge, dv_int, dv_abs, dv_lenL, dv_lenT, dv_tupL, dv_tupT, dv_lofL, dv_lofT, dv_lofS, dv_seqL, dv_seqT, dv_ixL, dv_ixT, dv_ixO, atI_0, atI_1, atI_2, Option.bind_some, Option.bind_none, List.getElem?_cons_zero, List.getElem?_cons_succ, List.getElem?_nil, List.set_cons_zero, List.set_cons_succ, List.set_nil, List.length_cons, List.length_nil, List.map_cons, List.map_nil, List.replicate_succ, List.replicate_zero, List.cons_append, List.nil_append, Nat.reduceAdd, Nat.reduceSub, Nat.reduceLeDiff, Nat.zero_add, Nat.sub_zero, Nat.add_zero, if_true, if_false, Bool.false_eq_true, Nat.reduceEqDiff, Bool.not_true, Bool.not_false, decide_true, decide_false, ev_nat, dIs, isI, isBo, inR]
  | tup _ => simp only [ev_C, ev_V, ev_B, ev_aN, ev_aC, ev_Tup, ev_Lst, ev_Bin, ev_Un, ev_UnF, ev_cV, ev_cAnd, ev_cOr, ev_cNot, ev_cYes, ev_And, ev_Or, ev_Not, ev_If, ev_Chain, ev_Call, ev_Ix, ev_Sl, ev_oN, ev_oE, ev_aS, ev_Comp, ev_iAny, ev_iRange1, ev_iRange2, ev_iZip, ev_iEnum, ev_sNil, ev_sSeq, ev_sIf, ev_sRet, ev_sRetO, ev_sRetN, ev_sAsg, ev_sSet, ev_sSetO, ev_sPar, ev_sFor, ev_sWhile, ev_sApp, ev_sIxO, ev_sIxC, ev_sFrz, ev_sExp, ev_sPass, ev_runB, ev_forN, ev_compN, ev_put0, ev_put1, ev_wipe0, ev_wipe1, ev_bnm, ev_btup, ev_bL0, ev_bL1, dv_add, dv_sub, dv_neg, dv_lt, dv_le, dv_gt, dv_ge, dv_int, dv_abs, dv_lenL, dv_lenT, dv_tupL, dv_tupT, dv_lofL, dv_lofT, dv_lofS, dv_seqL, dv_seqT, dv_ixL, dv_ixT, dv_ixO, atI_0, atI_1, atI_2, Option.bind_some, Option.bind_none, List.getElem?_cons_zero, List.getElem?_cons_succ, List.getElem?_nil, List.set_cons_zero, List.set_cons_succ, List.set_nil, List.length_cons, List.length_nil, List.map_cons, List.map_nil, List.replicate_succ, List.replicate_zero, List.cons_append, List.nil_append, Nat.reduceAdd, Nat.reduceSub, Nat.reduceLeDiff, Nat.zero_add, Nat.sub_zero, Nat.add_zero, if_true, if_false, Bool.false_eq_true, Nat.reduceEqDiff, Bool.not_true, Bool.not_false, decide_true, decide_false, ev_nat, dIs, isI, isBo, inR]
  | lst _ => simp only [ev_C, ev_V, ev_B, ev_aN, ev_aC, ev_Tup, ev_Lst, ev_Bin, ev_Un, ev_UnF, ev_cV, ev_cAnd, ev_cOr, ev_cNot, ev_cYes, ev_And, ev_Or, ev_Not, ev_If, ev_Chain, ev_Call, ev_Ix, ev_Sl, ev_oN, ev_oE, ev_aS, ev_Comp, ev_iAny, ev_iRange1, ev_iRange2, ev_iZip, ev_iEnum, ev_sNil, ev_sSeq, ev_sIf, ev_sRet, ev_sRetO, ev_sRetN, ev_sAsg, ev_sSet, ev_sSetO, ev_sPar, ev_sFor, ev_sWhile, ev_sApp, ev_sIxO, ev_sIxC, ev_sFrz, ev_sExp, ev_sPass, ev_runB, ev_forN, ev_compN, ev_put0, ev_put1, ev_wipe0, ev_wipe1, ev_bnm, ev_btup, ev_bL0, ev_bL1, dv_add, dv_sub, dv_neg, dv_lt, dv_le, dv_gt, dv_ge, dv_int, dv_abs, dv_lenL, dv_lenT, dv_tupL, dv_tupT, dv_lofL, dv_lofT, dv_lofS, dv_seqL, dv_seqT, dv_ixL, dv_ixT, dv_ixO, atI_0, atI_1, atI_2, Option.bind_some, Option.bind_none, List.getElem?_cons_zero, List.getElem?_cons_succ, List.getElem?_nil, List.set_cons_zero, List.set_cons_succ, List.set_nil, List.length_cons, List.length_nil, List.map_cons, List.map_nil, List.replicate_succ, List.replicate_zero, List.cons_append, List.nil_append, Nat.reduceAdd, Nat.reduceSub, Nat.reduceLeDiff, Nat.zero_add, Nat.sub_zero, Nat.add_zero, if_true, if_false, Bool.false_eq_true, Nat.reduceEqDiff, Bool.not_true, Bool.not_false, decide_true, decide_false, ev_nat, dIs, isI, isBo, inR]
  | obj _ => cases h
  | dct _ => cases h
  | scr _ => cases h
theorem m_law_whole_eq (d : D) (S : List D) (h : plain d = true) : m_law_whole [d] S = some (.bl (isWh d), S) := by
  unfold m_law_whole g_law_whole
  cases d <;> first | (simp only [ev_C, ev_V, ev_B, ev_aN, ev_aC, ev_Tup, ev_Lst, ev_Bin, ev_Un, ev_UnF, ev_cV, ev_cAnd, ev_cOr, ev_cNot, ev_cYes, ev_And, ev_Or, ev_Not, ev_If, ev_Chain, ev_Call, ev_Ix, ev_Sl, ev_oN, ev_oE, ev_aS, ev_Comp, ev_iAny, ev_iRange1, ev_iRange2, ev_iZip, ev_iEnum, ev_sNil, ev_sSeq, ev_sIf, ev_sRet, ev_sRetO, ev_sRetN, ev_sAsg, ev_sSet, ev_sSetO, ev_sPar, ev_sFor, ev_sWhile, ev_sApp, ev_sIxO, ev_sIxC, ev_sFrz, ev_sExp, ev_sPass, ev_runB, ev_forN, ev_compN, ev_put0, ev_put1, ev_wipe0, ev_wipe1, ev_bnm, ev_btup, ev_bL0, ev_bL1, dv_add, dv_sub, dv_neg, dv_lt, dv_le, dv_gt, dv_ge, dv_int, dv_abs, dv_lenL, dv_lenT, dv_tupL, dv_tupT, dv_lofL, dv_lofT, dv_lofS, dv_seqL, dv_seqT, dv_ixL, dv_ixT, dv_ixO, atI_0, atI_1, atI_2, Option.bind_some, Option.bind_none, List.getElem?_cons_zero, List.getElem?_cons_succ, List.getElem?_nil, List.set_cons_zero, List.set_cons_succ, List.set_nil, List.length_cons, List.length_nil, List.map_cons, List.map_nil, List.replicate_succ, List.replicate_zero, List.cons_append, List.nil_append, Nat.reduceAdd, Nat.reduceSub, Nat.reduceLeDiff, Nat.zero_add, Nat.sub_zero, Nat.add_zero, if_true, if_false, Bool.false_eq_true, Nat.reduceEqDiff, Bool.not_true, Bool.not_false, decide_true, decide_false, ev_nat, dIs, isI, isBo, isWh]; done) | cases h
theorem m_law_within_eq (d : D) (lo hi : Int) (S : List D) (h : plain d = true) : m_law_within [d, .int lo, .int hi] S = some (.bl (inR d lo hi), S) := by
  unfold m_law_within g_law_within
  refine run_rt (ρ := [.val d, .val (.int lo), .val (.int hi)]) rfl (ret_s ?_)
  rw [ev_And]
  have q0 : eCall 1 m_law_whole (aC (eV 0) aN) [.val d, .val (.int lo), .val (.int hi)] S = some (.bl (isWh d), S) := call_s (ds := [d]) (S' := S) rfl rfl (m_law_whole_eq d S h)
  rw [q0]
  cases d with
  | int i => exact chain_le (fa := eB 1) (fb := eB 0) (fz := eB 2) (ρ := [.val (.int i), .val (.int lo), .val (.int hi)]) (S := S) (S1 := S) (S2 := S) (S3 := S) (a := lo) (b := i) (c := hi) rfl rfl rfl
  | non => rfl
  | bl _ => rfl
  | str _ => rfl
  | tup _ => rfl
  | lst _ => rfl
  | obj _ => cases h
  | dct _ => cases h
  | scr _ => cases h
def isPart : D → Bool
  | .tup [x, .int b] => inR (.int b) 1 1000000000000000 && (inR x 0 (b - 1) && match x with | .int t => decide (Int.gcd t b = 1) | _ => false)
  | _ => false
def allPlain (d : D) : Bool := plain d && match d with | .tup xs => xs.all plain | _ => true
theorem deq_one (n : Nat) : dEq (.int n) (.int 1) = some (.bl (decide (n = 1))) := by
  rw [dv_eqI]
  congr 3
  exact propext ⟨fun h => by omega, fun h => by omega⟩
theorem part_shape (f : D → List D → Option (D × List D)) (inr : List D → List D → Option (D × List D)) (gc : List D → List D → Option (D × List D)) (b15 : Ev) (d : D) (S : List D) (h : allPlain d = true)
    (hinr : ∀ d lo hi, plain d = true → inr [d, .int lo, .int hi] S = some (.bl (inR d lo hi), S)) (hgc : ∀ a b : Int, gc [.int a, .int b] S = some (.int (Int.gcd a b), S)) (hb : ∀ ρ, b15 ρ S = some (.int 1000000000000000, S)) :
    runB false 1 (sSeq (sIf (cOr (cNot (cV (eUn (dIs isTp) (eB 0)))) (cOr (cV (eBin dNe (eUn dLen (eB 0)) (eC (.int 2)))) (cNot (cV (eCall 3 inr (aC (eIx (eB 0) (eC (.int 1))) (aC (eC (.int 1)) (aC b15 aN)))))))) (sRet (eC (.bl false))) sNil) (sRet (eAnd (eCall 3 inr (aC (eIx (eB 0) (eC (.int 0))) (aC (eC (.int 0)) (aC (eBin dSub (eIx (eB 0) (eC (.int 1))) (eC (.int 1))) aN)))) (eBin dEq (eCall 2 gc (aC (eIx (eB 0) (eC (.int 0))) (aC (eIx (eB 0) (eC (.int 1))) aN))) (eC (.int 1)))))) [d] S = some (.bl (isPart d), S) := by
  have hp : plain d = true := by unfold allPlain at h; simp only [Bool.and_eq_true] at h; exact h.1
  have neI : ∀ n : Nat, dNe (.int n) (.int 2) = some (.bl (decide (n ≠ 2))) := fun n => by
    unfold dNe
    simp only [okD, Bool.and_self, if_true, eqD]
    congr 2
    by_cases z : n = 2
    · subst z; rfl
    · have : ((n : Int) == 2) = false := by rw [beq_eq_false_iff_ne]; omega
      rw [this, decide_eq_true z]; rfl
  cases d with
  | non => simp only [ev_C, ev_V, ev_B, ev_aN, ev_aC, ev_Tup, ev_Lst, ev_Bin, ev_Un, ev_UnF, ev_cV, ev_cAnd, ev_cOr, ev_cNot, ev_cYes, ev_And, ev_Or, ev_Not, ev_If, ev_Chain, ev_Call, ev_Ix, ev_Sl, ev_oN, ev_oE, ev_aS, ev_Comp, ev_iAny, ev_iRange1, ev_iRange2, ev_iZip, ev_iEnum, ev_sNil, ev_sSeq, ev_sIf, ev_sRet, ev_sRetO, ev_sRetN, ev_sAsg, ev_sSet, ev_sSetO, ev_sPar, ev_sFor, ev_sWhile, ev_sApp, ev_sIxO, ev_sIxC, ev_sFrz, ev_sExp, ev_sPass, ev_runB, ev_forN, ev_compN, ev_put0, ev_put1, ev_wipe0, ev_wipe1, ev_bnm, ev_btup, ev_bL0, ev_bL1, dv_add, dv_sub, dv_neg, dv_lt, dv_le, dv_gt, dv_ge, dv_int, dv_abs, dv_lenL, dv_lenT, dv_tupL, dv_tupT, dv_lofL, dv_lofT, dv_lofS, dv_seqL, dv_seqT, dv_ixL, dv_ixT, dv_ixO, atI_0, atI_1, atI_2, Option.bind_some, Option.bind_none, List.getElem?_cons_zero, List.getElem?_cons_succ, List.getElem?_nil, List.set_cons_zero, List.set_cons_succ, List.set_nil, List.length_cons, List.length_nil, List.map_cons, List.map_nil, List.replicate_succ, List.replicate_zero, List.cons_append, List.nil_append, Nat.reduceAdd, Nat.reduceSub, Nat.reduceLeDiff, Nat.zero_add, Nat.sub_zero, Nat.add_zero, if_true, if_false, Bool.false_eq_true, Nat.reduceEqDiff, Bool.not_true, Bool.not_false, decide_true, decide_false, ev_nat, dIs, isTp, isPart]
  | bl _ => simp only [ev_C, ev_V, ev_B, ev_aN, ev_aC, ev_Tup, ev_Lst, ev_Bin, ev_Un, ev_UnF, ev_cV, ev_cAnd, ev_cOr, ev_cNot, ev_cYes, ev_And, ev_Or, ev_Not, ev_If, ev_Chain, ev_Call, ev_Ix, ev_Sl, ev_oN, ev_oE, ev_aS, ev_Comp, ev_iAny, ev_iRange1, ev_iRange2, ev_iZip, ev_iEnum, ev_sNil, ev_sSeq, ev_sIf, ev_sRet, ev_sRetO, ev_sRetN, ev_sAsg, ev_sSet, ev_sSetO, ev_sPar, ev_sFor, ev_sWhile, ev_sApp, ev_sIxO, ev_sIxC, ev_sFrz, ev_sExp, ev_sPass, ev_runB, ev_forN, ev_compN, ev_put0, ev_put1, ev_wipe0, ev_wipe1, ev_bnm, ev_btup, ev_bL0, ev_bL1, dv_add, dv_sub, dv_neg, dv_lt, dv_le, dv_gt, dv_ge, dv_int, dv_abs, dv_lenL, dv_lenT, dv_tupL, dv_tupT, dv_lofL, dv_lofT, dv_lofS, dv_seqL, dv_seqT, dv_ixL, dv_ixT, dv_ixO, atI_0, atI_1, atI_2, Option.bind_some, Option.bind_none, List.getElem?_cons_zero, List.getElem?_cons_succ, List.getElem?_nil, List.set_cons_zero, List.set_cons_succ, List.set_nil, List.length_cons, List.length_nil, List.map_cons, List.map_nil, List.replicate_succ, List.replicate_zero, List.cons_append, List.nil_append, Nat.reduceAdd, Nat.reduceSub, Nat.reduceLeDiff, Nat.zero_add, Nat.sub_zero, Nat.add_zero, if_true, if_false, Bool.false_eq_true, Nat.reduceEqDiff, Bool.not_true, Bool.not_false, decide_true, decide_false, ev_nat, dIs, isTp, isPart]
  | int _ => simp only [ev_C, ev_V, ev_B, ev_aN, ev_aC, ev_Tup, ev_Lst, ev_Bin, ev_Un, ev_UnF, ev_cV, ev_cAnd, ev_cOr, ev_cNot, ev_cYes, ev_And, ev_Or, ev_Not, ev_If, ev_Chain, ev_Call, ev_Ix, ev_Sl, ev_oN, ev_oE, ev_aS, ev_Comp, ev_iAny, ev_iRange1, ev_iRange2, ev_iZip, ev_iEnum, ev_sNil, ev_sSeq, ev_sIf, ev_sRet, ev_sRetO, ev_sRetN, ev_sAsg, ev_sSet, ev_sSetO, ev_sPar, ev_sFor, ev_sWhile, ev_sApp, ev_sIxO, ev_sIxC, ev_sFrz, ev_sExp, ev_sPass, ev_runB, ev_forN, ev_compN, ev_put0, ev_put1, ev_wipe0, ev_wipe1, ev_bnm, ev_btup, ev_bL0, ev_bL1, dv_add, dv_sub, dv_neg, dv_lt, dv_le, dv_gt, dv_ge, dv_int, dv_abs, dv_lenL, dv_lenT, dv_tupL, dv_tupT, dv_lofL, dv_lofT, dv_lofS, dv_seqL, dv_seqT, dv_ixL, dv_ixT, dv_ixO, atI_0, atI_1, atI_2, Option.bind_some, Option.bind_none, List.getElem?_cons_zero, List.getElem?_cons_succ, List.getElem?_nil, List.set_cons_zero, List.set_cons_succ, List.set_nil, List.length_cons, List.length_nil, List.map_cons, List.map_nil, List.replicate_succ, List.replicate_zero, List.cons_append, List.nil_append, Nat.reduceAdd, Nat.reduceSub, Nat.reduceLeDiff, Nat.zero_add, Nat.sub_zero, Nat.add_zero, if_true, if_false, Bool.false_eq_true, Nat.reduceEqDiff, Bool.not_true, Bool.not_false, decide_true, decide_false, ev_nat, dIs, isTp, isPart]
  | str _ => simp only [ev_C, ev_V, ev_B, ev_aN, ev_aC, ev_Tup, ev_Lst, ev_Bin, ev_Un, ev_UnF, ev_cV, ev_cAnd, ev_cOr, ev_cNot, ev_cYes, ev_And, ev_Or, ev_Not, ev_If, ev_Chain, ev_Call, ev_Ix, ev_Sl, ev_oN, ev_oE, ev_aS, ev_Comp, ev_iAny, ev_iRange1, ev_iRange2, ev_iZip, ev_iEnum, ev_sNil, ev_sSeq, ev_sIf, ev_sRet, ev_sRetO, ev_sRetN, ev_sAsg, ev_sSet, ev_sSetO, ev_sPar, ev_sFor, ev_sWhile, ev_sApp, ev_sIxO, ev_sIxC, ev_sFrz, ev_sExp, ev_sPass, ev_runB, ev_forN, ev_compN, ev_put0, ev_put1, ev_wipe0, ev_wipe1, ev_bnm, ev_btup, ev_bL0, ev_bL1, dv_add, dv_sub, dv_neg, dv_lt, dv_le, dv_gt, dv_ge, dv_int, dv_abs, dv_lenL, dv_lenT, dv_tupL, dv_tupT, dv_lofL, dv_lofT, dv_lofS, dv_seqL, dv_seqT, dv_ixL, dv_ixT, dv_ixO, atI_0, atI_1, atI_2, Option.bind_some, Option.bind_none, List.getElem?_cons_zero, List.getElem?_cons_succ, List.getElem?_nil, List.set_cons_zero, List.set_cons_succ, List.set_nil, List.length_cons, List.length_nil, List.map_cons, List.map_nil, List.replicate_succ, List.replicate_zero, List.cons_append, List.nil_append, Nat.reduceAdd, Nat.reduceSub, Nat.reduceLeDiff, Nat.zero_add, Nat.sub_zero, Nat.add_zero, if_true, if_false, Bool.false_eq_true, Nat.reduceEqDiff, Bool.not_true, Bool.not_false, decide_true, decide_false, ev_nat, dIs, isTp, isPart]
  | lst _ => simp only [ev_C, ev_V, ev_B, ev_aN, ev_aC, ev_Tup, ev_Lst, ev_Bin, ev_Un, ev_UnF, ev_cV, ev_cAnd, ev_cOr, ev_cNot, ev_cYes, ev_And, ev_Or, ev_Not, ev_If, ev_Chain, ev_Call, ev_Ix, ev_Sl, ev_oN, ev_oE, ev_aS, ev_Comp, ev_iAny, ev_iRange1, ev_iRange2, ev_iZip, ev_iEnum, ev_sNil, ev_sSeq, ev_sIf, ev_sRet, ev_sRetO, ev_sRetN, ev_sAsg, ev_sSet, ev_sSetO, ev_sPar, ev_sFor, ev_sWhile, ev_sApp, ev_sIxO, ev_sIxC, ev_sFrz, ev_sExp, ev_sPass, ev_runB, ev_forN, ev_compN, ev_put0, ev_put1, ev_wipe0, ev_wipe1, ev_bnm, ev_btup, ev_bL0, ev_bL1, dv_add, dv_sub, dv_neg, dv_lt, dv_le, dv_gt, dv_ge, dv_int, dv_abs, dv_lenL, dv_lenT, dv_tupL, dv_tupT, dv_lofL, dv_lofT, dv_lofS, dv_seqL, dv_seqT, dv_ixL, dv_ixT, dv_ixO, atI_0, atI_1, atI_2, Option.bind_some, Option.bind_none, List.getElem?_cons_zero, List.getElem?_cons_succ, List.getElem?_nil, List.set_cons_zero, List.set_cons_succ, List.set_nil, List.length_cons, List.length_nil, List.map_cons, List.map_nil, List.replicate_succ, List.replicate_zero, List.cons_append, List.nil_append, Nat.reduceAdd, Nat.reduceSub, Nat.reduceLeDiff, Nat.zero_add, Nat.sub_zero, Nat.add_zero, if_true, if_false, Bool.false_eq_true, Nat.reduceEqDiff, Bool.not_true, Bool.not_false, decide_true, decide_false, ev_nat, dIs, isTp, isPart]
  | obj _ => cases hp
  | dct _ => cases hp
  | scr _ => cases hp
  | tup xs =>
    by_cases h2 : xs.length = 2
    · obtain ⟨x, y, rfl⟩ : ∃ x y, xs = [x, y] := by
        match xs, h2 with
        | [x, y], _ => exact ⟨x, y, rfl⟩
      have hx : plain x = true ∧ plain y = true := by
        unfold allPlain at h
        simp only [List.all_cons, List.all_nil, Bool.and_true, Bool.and_eq_true] at h
        exact ⟨h.2.1, h.2.2⟩
      have i1 : ixD S (.tup [x, y]) (.int 1) = some y := rfl
      have i0 : ixD S (.tup [x, y]) (.int 0) = some x := rfl
      have c1 := hinr y 1 1000000000000000 hx.2
      have ne2 := neI 2
      cases hy : inR y 1 1000000000000000 with
      | false =>
        rw [hy] at c1
        have e : isPart (.tup [x, y]) = false := by
          cases y <;> first | rfl | (show (inR _ _ _ && _) = false; rw [hy]; rfl)
        rw [e]
        refine run_rt (ρ := [.val (.tup [x, y])]) rfl ((seq_rt ?_))
        refine (if_t (S' := S) ?_).trans rfl
        rw [ev_cOr]
        simp only [ev_C, ev_V, ev_B, ev_aN, ev_aC, ev_Tup, ev_Lst, ev_Bin, ev_Un, ev_UnF, ev_cV, ev_cAnd, ev_cOr, ev_cNot, ev_cYes, ev_And, ev_Or, ev_Not, ev_If, ev_Chain, ev_Call, ev_Ix, ev_Sl, ev_oN, ev_oE, ev_aS, ev_Comp, ev_iAny, ev_iRange1, ev_iRange2, ev_iZip, ev_iEnum, ev_sNil, ev_sSeq, ev_sIf, ev_sRet, ev_sRetO, ev_sRetN, ev_sAsg, ev_sSet, ev_sSetO, ev_sPar, ev_sFor, ev_sWhile, ev_sApp, ev_sIxO, ev_sIxC, ev_sFrz, ev_sExp, ev_sPass, ev_runB, ev_forN, ev_compN, ev_put0, ev_put1, ev_wipe0, ev_wipe1, ev_bnm, ev_btup, ev_bL0, ev_bL1, dv_add, dv_sub, dv_neg, dv_lt, dv_le, dv_gt, dv_ge, dv_int, dv_abs, dv_lenL, dv_lenT, dv_tupL, dv_tupT, dv_lofL, dv_lofT, dv_lofS, dv_seqL, dv_seqT, dv_ixL, dv_ixT, dv_ixO, atI_0, atI_1, atI_2, Option.bind_some, Option.bind_none, List.getElem?_cons_zero, List.getElem?_cons_succ, List.getElem?_nil, List.set_cons_zero, List.set_cons_succ, List.set_nil, List.length_cons, List.length_nil, List.map_cons, List.map_nil, List.replicate_succ, List.replicate_zero, List.cons_append, List.nil_append, Nat.reduceAdd, Nat.reduceSub, Nat.reduceLeDiff, Nat.zero_add, Nat.sub_zero, Nat.add_zero, if_true, if_false, Bool.false_eq_true, Nat.reduceEqDiff, Bool.not_true, Bool.not_false, decide_true, decide_false, ev_nat, dIs, isTp, i1, hb, c1, show dNe (.int ((0 + 1 + 1 : Nat) : Int)) (.int 2) = some (.bl false) from rfl, show dNe (.int ((2 : Nat) : Int)) (.int 2) = some (.bl false) from rfl]
      | true =>
        rw [hy] at c1
        obtain ⟨b, rfl⟩ : ∃ b, y = .int b := by
          cases y <;> first | exact ⟨_, rfl⟩ | cases hy
        have c2 := hinr x 0 (b - 1) hx.1
        refine run_rt (ρ := [.val (.tup [x, .int b])]) rfl ?_
        refine (seq_nx (ρ' := [.val (.tup [x, .int b])]) (S' := S) ?_).trans ?_
        · refine (if_f (S' := S) ?_).trans rfl
          simp only [ev_C, ev_V, ev_B, ev_aN, ev_aC, ev_Tup, ev_Lst, ev_Bin, ev_Un, ev_UnF, ev_cV, ev_cAnd, ev_cOr, ev_cNot, ev_cYes, ev_And, ev_Or, ev_Not, ev_If, ev_Chain, ev_Call, ev_Ix, ev_Sl, ev_oN, ev_oE, ev_aS, ev_Comp, ev_iAny, ev_iRange1, ev_iRange2, ev_iZip, ev_iEnum, ev_sNil, ev_sSeq, ev_sIf, ev_sRet, ev_sRetO, ev_sRetN, ev_sAsg, ev_sSet, ev_sSetO, ev_sPar, ev_sFor, ev_sWhile, ev_sApp, ev_sIxO, ev_sIxC, ev_sFrz, ev_sExp, ev_sPass, ev_runB, ev_forN, ev_compN, ev_put0, ev_put1, ev_wipe0, ev_wipe1, ev_bnm, ev_btup, ev_bL0, ev_bL1, dv_add, dv_sub, dv_neg, dv_lt, dv_le, dv_gt, dv_ge, dv_int, dv_abs, dv_lenL, dv_lenT, dv_tupL, dv_tupT, dv_lofL, dv_lofT, dv_lofS, dv_seqL, dv_seqT, dv_ixL, dv_ixT, dv_ixO, atI_0, atI_1, atI_2, Option.bind_some, Option.bind_none, List.getElem?_cons_zero, List.getElem?_cons_succ, List.getElem?_nil, List.set_cons_zero, List.set_cons_succ, List.set_nil, List.length_cons, List.length_nil, List.map_cons, List.map_nil, List.replicate_succ, List.replicate_zero, List.cons_append, List.nil_append, Nat.reduceAdd, Nat.reduceSub, Nat.reduceLeDiff, Nat.zero_add, Nat.sub_zero, Nat.add_zero, if_true, if_false, Bool.false_eq_true, Nat.reduceEqDiff, Bool.not_true, Bool.not_false, decide_true, decide_false, ev_nat, dIs, isTp, i1, hb, c1, show dNe (.int ((0 + 1 + 1 : Nat) : Int)) (.int 2) = some (.bl false) from rfl, show dNe (.int ((2 : Nat) : Int)) (.int 2) = some (.bl false) from rfl]
        refine ret_s ?_
        show _ = some (D.bl (inR (.int b) 1 1000000000000000 && (inR x 0 (b - 1) && _)), S)
        rw [hy, Bool.true_and]
        cases hx0 : inR x 0 (b - 1) with
        | false =>
          rw [hx0] at c2
          simp only [ev_C, ev_V, ev_B, ev_aN, ev_aC, ev_Tup, ev_Lst, ev_Bin, ev_Un, ev_UnF, ev_cV, ev_cAnd, ev_cOr, ev_cNot, ev_cYes, ev_And, ev_Or, ev_Not, ev_If, ev_Chain, ev_Call, ev_Ix, ev_Sl, ev_oN, ev_oE, ev_aS, ev_Comp, ev_iAny, ev_iRange1, ev_iRange2, ev_iZip, ev_iEnum, ev_sNil, ev_sSeq, ev_sIf, ev_sRet, ev_sRetO, ev_sRetN, ev_sAsg, ev_sSet, ev_sSetO, ev_sPar, ev_sFor, ev_sWhile, ev_sApp, ev_sIxO, ev_sIxC, ev_sFrz, ev_sExp, ev_sPass, ev_runB, ev_forN, ev_compN, ev_put0, ev_put1, ev_wipe0, ev_wipe1, ev_bnm, ev_btup, ev_bL0, ev_bL1, dv_add, dv_sub, dv_neg, dv_lt, dv_le, dv_gt, dv_ge, dv_int, dv_abs, dv_lenL, dv_lenT, dv_tupL, dv_tupT, dv_lofL, dv_lofT, dv_lofS, dv_seqL, dv_seqT, dv_ixL, dv_ixT, dv_ixO, atI_0, atI_1, atI_2, Option.bind_some, Option.bind_none, List.getElem?_cons_zero, List.getElem?_cons_succ, List.getElem?_nil, List.set_cons_zero, List.set_cons_succ, List.set_nil, List.length_cons, List.length_nil, List.map_cons, List.map_nil, List.replicate_succ, List.replicate_zero, List.cons_append, List.nil_append, Nat.reduceAdd, Nat.reduceSub, Nat.reduceLeDiff, Nat.zero_add, Nat.sub_zero, Nat.add_zero, if_true, if_false, Bool.false_eq_true, Nat.reduceEqDiff, Bool.not_true, Bool.not_false, decide_true, decide_false, ev_nat, i0, i1, c2, Bool.false_and]
        | true =>
          rw [hx0] at c2
          obtain ⟨t, rfl⟩ : ∃ t, x = .int t := by
            cases x <;> first | exact ⟨_, rfl⟩ | cases hx0
          simp only [ev_C, ev_V, ev_B, ev_aN, ev_aC, ev_Tup, ev_Lst, ev_Bin, ev_Un, ev_UnF, ev_cV, ev_cAnd, ev_cOr, ev_cNot, ev_cYes, ev_And, ev_Or, ev_Not, ev_If, ev_Chain, ev_Call, ev_Ix, ev_Sl, ev_oN, ev_oE, ev_aS, ev_Comp, ev_iAny, ev_iRange1, ev_iRange2, ev_iZip, ev_iEnum, ev_sNil, ev_sSeq, ev_sIf, ev_sRet, ev_sRetO, ev_sRetN, ev_sAsg, ev_sSet, ev_sSetO, ev_sPar, ev_sFor, ev_sWhile, ev_sApp, ev_sIxO, ev_sIxC, ev_sFrz, ev_sExp, ev_sPass, ev_runB, ev_forN, ev_compN, ev_put0, ev_put1, ev_wipe0, ev_wipe1, ev_bnm, ev_btup, ev_bL0, ev_bL1, dv_add, dv_sub, dv_neg, dv_lt, dv_le, dv_gt, dv_ge, dv_int, dv_abs, dv_lenL, dv_lenT, dv_tupL, dv_tupT, dv_lofL, dv_lofT, dv_lofS, dv_seqL, dv_seqT, dv_ixL, dv_ixT, dv_ixO, atI_0, atI_1, atI_2, Option.bind_some, Option.bind_none, List.getElem?_cons_zero, List.getElem?_cons_succ, List.getElem?_nil, List.set_cons_zero, List.set_cons_succ, List.set_nil, List.length_cons, List.length_nil, List.map_cons, List.map_nil, List.replicate_succ, List.replicate_zero, List.cons_append, List.nil_append, Nat.reduceAdd, Nat.reduceSub, Nat.reduceLeDiff, Nat.zero_add, Nat.sub_zero, Nat.add_zero, if_true, if_false, Bool.false_eq_true, Nat.reduceEqDiff, Bool.not_true, Bool.not_false, decide_true, decide_false, ev_nat, i0, i1, c2, hgc, deq_one, Bool.true_and]
    · have e : isPart (.tup xs) = false := by
        match xs, h2 with
        | [], _ => rfl
        | [_], _ => rfl
        | [_, _], h2 => exact absurd rfl h2
        | _ :: _ :: _ :: _, _ => simp [isPart]
      rw [e]
      refine run_rt (ρ := [.val (.tup xs)]) rfl ((seq_rt ?_))
      refine (if_t (S' := S) ?_).trans rfl
      simp only [ev_C, ev_V, ev_B, ev_aN, ev_aC, ev_Tup, ev_Lst, ev_Bin, ev_Un, ev_UnF, ev_cV, ev_cAnd, ev_cOr, ev_cNot, ev_cYes, ev_And, ev_Or, ev_Not, ev_If, ev_Chain, ev_Call, ev_Ix, ev_Sl, ev_oN, ev_oE, ev_aS, ev_Comp, ev_iAny, ev_iRange1, ev_iRange2, ev_iZip, ev_iEnum, ev_sNil, ev_sSeq, ev_sIf, ev_sRet, ev_sRetO, ev_sRetN, ev_sAsg, ev_sSet, ev_sSetO, ev_sPar, ev_sFor, ev_sWhile, ev_sApp, ev_sIxO, ev_sIxC, ev_sFrz, ev_sExp, ev_sPass, ev_runB, ev_forN, ev_compN, ev_put0, ev_put1, ev_wipe0, ev_wipe1, ev_bnm, ev_btup, ev_bL0, ev_bL1, dv_add, dv_sub, dv_neg, dv_lt, dv_le, dv_gt, dv_ge, dv_int, dv_abs, dv_lenL, dv_lenT, dv_tupL, dv_tupT, dv_lofL, dv_lofT, dv_lofS, dv_seqL, dv_seqT, dv_ixL, dv_ixT, dv_ixO, atI_0, atI_1, atI_2, Option.bind_some, Option.bind_none, List.getElem?_cons_zero, List.getElem?_cons_succ, List.getElem?_nil, List.set_cons_zero, List.set_cons_succ, List.set_nil, List.length_cons, List.length_nil, List.map_cons, List.map_nil, List.replicate_succ, List.replicate_zero, List.cons_append, List.nil_append, Nat.reduceAdd, Nat.reduceSub, Nat.reduceLeDiff, Nat.zero_add, Nat.sub_zero, Nat.add_zero, if_true, if_false, Bool.false_eq_true, Nat.reduceEqDiff, Bool.not_true, Bool.not_false, decide_true, decide_false, ev_nat, dIs, isTp, neI, decide_eq_true h2]
mutual
def plD : D → Bool
  | .non => true
  | .bl _ => true
  | .int _ => true
  | .str x => PySem.PyData.strOk x && decide (x.length ≤ 16777216)
  | .tup xs => plL xs
  | .lst xs => plL xs
  | _ => false
def plL : List D → Bool
  | [] => true
  | x :: xs => plD x && plL xs
end
theorem plL_mem : ∀ {xs : List D}, plL xs = true → ∀ x ∈ xs, plD x = true
  | y :: ys, h, x, m => by
    simp only [plL, Bool.and_eq_true] at h
    rcases List.mem_cons.mp m with rfl | m
    · exact h.1
    · exact plL_mem h.2 x m
theorem plL_of : ∀ {xs : List D}, (∀ x ∈ xs, plD x = true) → plL xs = true
  | [], _ => by simp [plL]
  | y :: ys, h => by
    simp only [plL, Bool.and_eq_true]
    exact ⟨h y List.mem_cons_self, plL_of fun x m => h x (List.mem_cons_of_mem _ m)⟩
theorem plD_plain {d : D} (h : plD d = true) : plain d = true := by
  cases d <;> first | rfl | (simp [plD] at h)
theorem plD_all {d : D} (h : plD d = true) : allPlain d = true := by
  cases d with
  | tup xs =>
    simp only [plD] at h
    unfold allPlain
    simp only [plain, Bool.true_and, List.all_eq_true]
    exact fun x m => plD_plain (plL_mem h x m)
  | _ => first | rfl | (simp [plD] at h)
theorem compL_ex {p : Pat} {f : Ev} {ρ : List Slot} (P : D → Prop) : ∀ (xs : List D) (t : Tape), (∀ x ∈ xs, ∃ l, binds p x = some l ∧ ∀ t, ∃ d t', P d ∧ f (putD ρ l) (tp t) = some (d, tp t')) →
    ∃ ds t', ds.length = xs.length ∧ (∀ d ∈ ds, P d) ∧ compL p cYes f ρ xs (tp t) = some (ds, tp t')
  | [], t, _ => ⟨[], t, rfl, fun _ m => (nomatch m), rfl⟩
  | x :: xs, t, H => by
    obtain ⟨l, h1, h2⟩ := H x List.mem_cons_self
    obtain ⟨d, t1, hd, h3⟩ := h2 t
    obtain ⟨ds, t2, hl, hds, h4⟩ := compL_ex P xs t1 (fun y m => H y (List.mem_cons_of_mem _ m))
    refine ⟨d :: ds, t2, by simp [hl], fun z m => ?_, ?_⟩
    · rcases List.mem_cons.mp m with rfl | m
      · exact hd
      · exact hds z m
    · rw [ev_compC, h1, Option.bind_some, ev_cYes, Option.bind_some]
      simp only [if_true]
      rw [h3, Option.bind_some, h4, Option.bind_some]
theorem m_law_any_succ (n : Nat) (ds S : List D) : m_law_any (n + 1) ds S = runB false 5 (g_law_any (m_law_any n)) ds S := rfl
theorem any_ex : ∀ (n deep : Nat), deep < n → ∀ t, ∃ d t', plD d = true ∧ m_law_any n [.obj 0, .int deep] (tp t) = some (d, tp t')
  | 0, _, h, _ => by omega
  | n + 1, deep, h, t => by
    rw [m_law_any_succ]
    have e : ∀ m, g_law_any m = (sSeq (sSet 2 (drawE 0 (eC (.int 13)))) (sSeq (sIf (cAnd (cV (eBin dLt (eB 2) (eC (.int 4)))) (cV (eBin dGt (eB 1) (eC (.int 0))))) (sSeq (sSet 3 (eComp (.nm 4) (iRange1 (aC (drawE 0 (eC (.int 4))) aN)) cYes (eCall 2 m (aC (eV 0) (aC (eBin dSub (eB 1) (eC (.int 1))) aN))) [4])) (sRet (eIx (eLst (aC (eV 3) (aC (eUn dTup (eB 3)) (aC (eUn dTup (eB 3)) (aC (eUn dTup (eB 3)) aN))))) (eB 2)))) sNil) (sSeq (sIf (cV (eBin dLt (eB 2) (eC (.int 8)))) (sRet (eIx (eLst (aC (eBin dSub (drawE 0 (eC (.int 12))) (eC (.int 2))) (aC (drawE 0 (eBin dPow (eC (.int 10)) (eC (.int 12)))) (aC (eC (.int 0)) (aC (eC (.int 3)) aN))))) (eBin dMax2 (eC (.int 0)) (eBin dSub (eB 2) (eC (.int 4)))))) sNil) (sSeq (sSet 3 (eLst (aC (eC (.str "")) (aC (eC (.str "a")) (aC (eC (.str "aa")) (aC (eC (.str "ab")) (aC (eC (.str "1/2")) (aC (eC (.str "e")) (aC (eC (.str "aab")) aN))))))))) (sRet (eIx (eLst (aC (eC (.bl true)) (aC (eC (.bl false)) (aC (eC .non) (aC (eIx (eB 3) (drawE 0 (eC (.int 7)))) (aC (eTup (aC (eC (.int 1)) (aC (eC (.int 2)) aN))) aN)))))) (eBin dSub (eB 2) (eC (.int 8))))))))) := fun _ => rfl
    rw [e]
    obtain ⟨c, t1, c0, c1, e1⟩ := drawE_ex t (ρ := [.val (.obj 0), .val (.int deep), .non, .non, .non]) (i := 0) (k := eC (.int 13)) rfl rfl (by decide) (wide_sm (by decide))
    suffices hs : ∃ d t', plD d = true ∧ (sSeq (sIf (cAnd (cV (eBin dLt (eB 2) (eC (.int 4)))) (cV (eBin dGt (eB 1) (eC (.int 0))))) (sSeq (sSet 3 (eComp (.nm 4) (iRange1 (aC (drawE 0 (eC (.int 4))) aN)) cYes (eCall 2 (m_law_any n) (aC (eV 0) (aC (eBin dSub (eB 1) (eC (.int 1))) aN))) [4])) (sRet (eIx (eLst (aC (eV 3) (aC (eUn dTup (eB 3)) (aC (eUn dTup (eB 3)) (aC (eUn dTup (eB 3)) aN))))) (eB 2)))) sNil) (sSeq (sIf (cV (eBin dLt (eB 2) (eC (.int 8)))) (sRet (eIx (eLst (aC (eBin dSub (drawE 0 (eC (.int 12))) (eC (.int 2))) (aC (drawE 0 (eBin dPow (eC (.int 10)) (eC (.int 12)))) (aC (eC (.int 0)) (aC (eC (.int 3)) aN))))) (eBin dMax2 (eC (.int 0)) (eBin dSub (eB 2) (eC (.int 4)))))) sNil) (sSeq (sSet 3 (eLst (aC (eC (.str "")) (aC (eC (.str "a")) (aC (eC (.str "aa")) (aC (eC (.str "ab")) (aC (eC (.str "1/2")) (aC (eC (.str "e")) (aC (eC (.str "aab")) aN))))))))) (sRet (eIx (eLst (aC (eC (.bl true)) (aC (eC (.bl false)) (aC (eC .non) (aC (eIx (eB 3) (drawE 0 (eC (.int 7)))) (aC (eTup (aC (eC (.int 1)) (aC (eC (.int 2)) aN))) aN)))))) (eBin dSub (eB 2) (eC (.int 8)))))))) [.val (.obj 0), .val (.int deep), .val (.int c), .non, .non] (tp t1) = some (.rt d (tp t')) by
      obtain ⟨d, t', hd, hr⟩ := hs
      exact ⟨d, t', hd, run_rt (ρ := [.val (.obj 0), .val (.int deep), .non, .non, .non]) rfl ((seq_nx (set_s e1)).trans hr)⟩
    have kind : ∀ (xs : List D), (∀ x ∈ xs, plD x = true) → ∀ k : Int, 0 ≤ k → k < (xs.length : Int) → ∃ d, plD d = true ∧ atI xs k = some d := fun xs hx k k0 k1 => by
      obtain ⟨d, m, p⟩ := pick_of k0 k1
      exact ⟨d, hx d m, p⟩
    by_cases hc : c < 4 ∧ 0 < deep
    · obtain ⟨k, t2, k0, k1, e2⟩ := drawE_ex t1 (ρ := [.val (.obj 0), .val (.int deep), .val (.int c), .non, .non]) (i := 0) (k := eC (.int 4)) rfl rfl (by decide) (wide_sm (by decide))
      obtain ⟨ds, t3, hl, hds, e3⟩ := compL_ex (p := .nm 4) (f := (eCall 2 (m_law_any n) (aC (eV 0) (aC (eBin dSub (eB 1) (eC (.int 1))) aN)))) (ρ := [.val (.obj 0), .val (.int deep), .val (.int c), .non, .non]) (fun d => plD d = true) (rangeD 0 k) t2 (fun x _ => ⟨_, ev_bnm _ _, fun t => by
        obtain ⟨d, t', hd, hr⟩ := any_ex n (deep - 1) (by omega) t
        refine ⟨d, t', hd, call_s (ds := [.obj 0, .int ((deep - 1 : Nat) : Int)]) (S' := tp t) ?_ rfl hr⟩
        have : ((deep - 1 : Nat) : Int) = (deep : Int) - 1 := by omega
        rw [this]
        rfl⟩)
      have hkl : (rangeD 0 k).length ≤ 16777216 := by
        rw [show k = ((k.toNat : Nat) : Int) by omega, rangeD_len]; omega
      obtain ⟨d, hd, hp⟩ := kind [.lst ds, .tup ds, .tup ds, .tup ds] (by
        intro x m
        simp only [List.mem_cons, List.not_mem_nil, or_false] at m
        rcases m with rfl | rfl | rfl | rfl <;> (simp only [plD]; exact plL_of hds)) c c0 (by simpa using hc.1)
      refine ⟨d, t3, hd, ?_⟩
      refine (seq_rt ((if_t (S' := tp t1) ?_).trans ((seq_nx (set_s (d := .lst ds) (S' := tp t3) ?_)).trans (ret_s ?_))))
      · have h2 : (0 : Int) < deep := by omega
        simp only [ev_C, ev_V, ev_B, ev_aN, ev_aC, ev_Tup, ev_Lst, ev_Bin, ev_Un, ev_UnF, ev_cV, ev_cAnd, ev_cOr, ev_cNot, ev_cYes, ev_And, ev_Or, ev_Not, ev_If, ev_Chain, ev_Call, ev_Ix, ev_Sl, ev_oN, ev_oE, ev_aS, ev_Comp, ev_iAny, ev_iRange1, ev_iRange2, ev_iZip, ev_iEnum, ev_sNil, ev_sSeq, ev_sIf, ev_sRet, ev_sRetO, ev_sRetN, ev_sAsg, ev_sSet, ev_sSetO, ev_sPar, ev_sFor, ev_sWhile, ev_sApp, ev_sIxO, ev_sIxC, ev_sFrz, ev_sExp, ev_sPass, ev_runB, ev_forN, ev_compN, ev_put0, ev_put1, ev_wipe0, ev_wipe1, ev_bnm, ev_btup, ev_bL0, ev_bL1, dv_add, dv_sub, dv_neg, dv_lt, dv_le, dv_gt, dv_ge, dv_int, dv_abs, dv_lenL, dv_lenT, dv_tupL, dv_tupT, dv_lofL, dv_lofT, dv_lofS, dv_seqL, dv_seqT, dv_ixL, dv_ixT, dv_ixO, atI_0, atI_1, atI_2, Option.bind_some, Option.bind_none, List.getElem?_cons_zero, List.getElem?_cons_succ, List.getElem?_nil, List.set_cons_zero, List.set_cons_succ, List.set_nil, List.length_cons, List.length_nil, List.map_cons, List.map_nil, List.replicate_succ, List.replicate_zero, List.cons_append, List.nil_append, Nat.reduceAdd, Nat.reduceSub, Nat.reduceLeDiff, Nat.zero_add, Nat.sub_zero, Nat.add_zero, if_true, if_false, Bool.false_eq_true, Nat.reduceEqDiff, Bool.not_true, Bool.not_false, decide_true, decide_false, ev_nat, decide_eq_true hc.1, decide_eq_true h2]
      · refine comp_s (ds := rangeD 0 k) (S' := tp t2) ?_ hkl ?_
        · exact range1_s (aC_s e2 rfl) (by unfold inWord; rw [Bool.and_eq_true]; exact ⟨decide_eq_true (by omega), decide_eq_true (by omega)⟩)
        · exact e3
      · refine ix_s (d := .lst [.lst ds, .tup ds, .tup ds, .tup ds]) (S' := tp t3) rfl (d2 := .int c) (S2 := tp t3) rfl hp
    · have hn : cAnd (cV (eBin dLt (eB 2) (eC (.int 4)))) (cV (eBin dGt (eB 1) (eC (.int 0)))) [.val (.obj 0), .val (.int deep), .val (.int c), .non, .non] (tp t1) = some (false, tp t1) := by
        by_cases h4 : c < 4
        · have h2 : ¬ (0 : Int) < deep := by omega
          simp only [ev_C, ev_V, ev_B, ev_aN, ev_aC, ev_Tup, ev_Lst, ev_Bin, ev_Un, ev_UnF, ev_cV, ev_cAnd, ev_cOr, ev_cNot, ev_cYes, ev_And, ev_Or, ev_Not, ev_If, ev_Chain, ev_Call, ev_Ix, ev_Sl, ev_oN, ev_oE, ev_aS, ev_Comp, ev_iAny, ev_iRange1, ev_iRange2, ev_iZip, ev_iEnum, ev_sNil, ev_sSeq, ev_sIf, ev_sRet, ev_sRetO, ev_sRetN, ev_sAsg, ev_sSet, ev_sSetO, ev_sPar, ev_sFor, ev_sWhile, ev_sApp, ev_sIxO, ev_sIxC, ev_sFrz, ev_sExp, ev_sPass, ev_runB, ev_forN, ev_compN, ev_put0, ev_put1, ev_wipe0, ev_wipe1, ev_bnm, ev_btup, ev_bL0, ev_bL1, dv_add, dv_sub, dv_neg, dv_lt, dv_le, dv_gt, dv_ge, dv_int, dv_abs, dv_lenL, dv_lenT, dv_tupL, dv_tupT, dv_lofL, dv_lofT, dv_lofS, dv_seqL, dv_seqT, dv_ixL, dv_ixT, dv_ixO, atI_0, atI_1, atI_2, Option.bind_some, Option.bind_none, List.getElem?_cons_zero, List.getElem?_cons_succ, List.getElem?_nil, List.set_cons_zero, List.set_cons_succ, List.set_nil, List.length_cons, List.length_nil, List.map_cons, List.map_nil, List.replicate_succ, List.replicate_zero, List.cons_append, List.nil_append, Nat.reduceAdd, Nat.reduceSub, Nat.reduceLeDiff, Nat.zero_add, Nat.sub_zero, Nat.add_zero, if_true, if_false, Bool.false_eq_true, Nat.reduceEqDiff, Bool.not_true, Bool.not_false, decide_true, decide_false, ev_nat, decide_eq_true h4, decide_eq_false h2]
        · simp only [ev_C, ev_V, ev_B, ev_aN, ev_aC, ev_Tup, ev_Lst, ev_Bin, ev_Un, ev_UnF, ev_cV, ev_cAnd, ev_cOr, ev_cNot, ev_cYes, ev_And, ev_Or, ev_Not, ev_If, ev_Chain, ev_Call, ev_Ix, ev_Sl, ev_oN, ev_oE, ev_aS, ev_Comp, ev_iAny, ev_iRange1, ev_iRange2, ev_iZip, ev_iEnum, ev_sNil, ev_sSeq, ev_sIf, ev_sRet, ev_sRetO, ev_sRetN, ev_sAsg, ev_sSet, ev_sSetO, ev_sPar, ev_sFor, ev_sWhile, ev_sApp, ev_sIxO, ev_sIxC, ev_sFrz, ev_sExp, ev_sPass, ev_runB, ev_forN, ev_compN, ev_put0, ev_put1, ev_wipe0, ev_wipe1, ev_bnm, ev_btup, ev_bL0, ev_bL1, dv_add, dv_sub, dv_neg, dv_lt, dv_le, dv_gt, dv_ge, dv_int, dv_abs, dv_lenL, dv_lenT, dv_tupL, dv_tupT, dv_lofL, dv_lofT, dv_lofS, dv_seqL, dv_seqT, dv_ixL, dv_ixT, dv_ixO, atI_0, atI_1, atI_2, Option.bind_some, Option.bind_none, List.getElem?_cons_zero, List.getElem?_cons_succ, List.getElem?_nil, List.set_cons_zero, List.set_cons_succ, List.set_nil, List.length_cons, List.length_nil, List.map_cons, List.map_nil, List.replicate_succ, List.replicate_zero, List.cons_append, List.nil_append, Nat.reduceAdd, Nat.reduceSub, Nat.reduceLeDiff, Nat.zero_add, Nat.sub_zero, Nat.add_zero, if_true, if_false, Bool.false_eq_true, Nat.reduceEqDiff, Bool.not_true, Bool.not_false, decide_true, decide_false, ev_nat, decide_eq_false h4]
      by_cases h8 : c < 8
      · obtain ⟨k, t2, k0, k1, e2⟩ := drawE_ex t1 (ρ := [.val (.obj 0), .val (.int deep), .val (.int c), .non, .non]) (i := 0) (k := eC (.int 12)) rfl rfl (by decide) (wide_sm (by decide))
        obtain ⟨l, t3, l0, l1, e3⟩ := drawE_ex t2 (ρ := [.val (.obj 0), .val (.int deep), .val (.int c), .non, .non]) (i := 0) (k := eBin dPow (eC (.int 10)) (eC (.int 12))) (many := 1000000000000) rfl rfl (by decide) (wide_sm (by decide))
        have mx : dMax2 (.int 0) (.int (c - 4)) = some (.int (if c - 4 > 0 then c - 4 else 0)) := rfl
        obtain ⟨d, hd, hp⟩ := kind [.int (k - 2), .int l, .int 0, .int 3] (by
          intro x m
          simp only [List.mem_cons, List.not_mem_nil, or_false] at m
          rcases m with rfl | rfl | rfl | rfl <;> rfl) (if c - 4 > 0 then c - 4 else 0) (by split <;> omega) (by simp only [List.length_cons, List.length_nil]; split <;> omega)
        refine ⟨d, t3, hd, ?_⟩
        refine (seq_nx ((if_f hn).trans rfl)).trans (seq_rt ((if_t (S' := tp t1) ?_).trans (ret_s ?_)))
        · simp only [ev_C, ev_V, ev_B, ev_aN, ev_aC, ev_Tup, ev_Lst, ev_Bin, ev_Un, ev_UnF, ev_cV, ev_cAnd, ev_cOr, ev_cNot, ev_cYes, ev_And, ev_Or, ev_Not, ev_If, ev_Chain, ev_Call, ev_Ix, ev_Sl, ev_oN, ev_oE, ev_aS, ev_Comp, ev_iAny, ev_iRange1, ev_iRange2, ev_iZip, ev_iEnum, ev_sNil, ev_sSeq, ev_sIf, ev_sRet, ev_sRetO, ev_sRetN, ev_sAsg, ev_sSet, ev_sSetO, ev_sPar, ev_sFor, ev_sWhile, ev_sApp, ev_sIxO, ev_sIxC, ev_sFrz, ev_sExp, ev_sPass, ev_runB, ev_forN, ev_compN, ev_put0, ev_put1, ev_wipe0, ev_wipe1, ev_bnm, ev_btup, ev_bL0, ev_bL1, dv_add, dv_sub, dv_neg, dv_lt, dv_le, dv_gt, dv_ge, dv_int, dv_abs, dv_lenL, dv_lenT, dv_tupL, dv_tupT, dv_lofL, dv_lofT, dv_lofS, dv_seqL, dv_seqT, dv_ixL, dv_ixT, dv_ixO, atI_0, atI_1, atI_2, Option.bind_some, Option.bind_none, List.getElem?_cons_zero, List.getElem?_cons_succ, List.getElem?_nil, List.set_cons_zero, List.set_cons_succ, List.set_nil, List.length_cons, List.length_nil, List.map_cons, List.map_nil, List.replicate_succ, List.replicate_zero, List.cons_append, List.nil_append, Nat.reduceAdd, Nat.reduceSub, Nat.reduceLeDiff, Nat.zero_add, Nat.sub_zero, Nat.add_zero, if_true, if_false, Bool.false_eq_true, Nat.reduceEqDiff, Bool.not_true, Bool.not_false, decide_true, decide_false, ev_nat, decide_eq_true h8]
        · refine ix_s (d := .lst [.int (k - 2), .int l, .int 0, .int 3]) (S' := tp t3) ?_ (d2 := .int (if c - 4 > 0 then c - 4 else 0)) (S2 := tp t3) (bin_s (S' := tp t3) (S2 := tp t3) rfl rfl mx) hp
          refine lst_s (ds := [.int (k - 2), .int l, .int 0, .int 3]) ?_ (by show 4 ≤ 16777216; decide)
          exact aC_s (S' := tp t2) (bin_s (S' := tp t2) e2 rfl rfl) (aC_s (S' := tp t3) e3 rfl)
      · obtain ⟨k, t2, k0, k1, e2⟩ := drawE_ex t1 (ρ := [.val (.obj 0), .val (.int deep), .val (.int c), .val (.lst [.str "", .str "a", .str "aa", .str "ab", .str "1/2", .str "e", .str "aab"]), .non]) (i := 0) (k := eC (.int 7)) rfl rfl (by decide) (wide_sm (by decide))
        obtain ⟨z, hz, pz⟩ := kind [.str "", .str "a", .str "aa", .str "ab", .str "1/2", .str "e", .str "aab"] (by
          intro x m
          simp only [List.mem_cons, List.not_mem_nil, or_false] at m
          rcases m with rfl | rfl | rfl | rfl | rfl | rfl | rfl <;> (simp only [plD]; decide +kernel)) k k0 (by simpa using k1)
        obtain ⟨d, hd, hp⟩ := kind [.bl true, .bl false, .non, z, .tup [.int 1, .int 2]] (by
          intro x m
          simp only [List.mem_cons, List.not_mem_nil, or_false] at m
          rcases m with rfl | rfl | rfl | rfl | rfl <;> first | exact hz | rfl) (c - 8) (by omega) (by simp only [List.length_cons, List.length_nil]; omega)
        refine ⟨d, t2, hd, ?_⟩
        refine (seq_nx ((if_f hn).trans rfl)).trans ((seq_nx ((if_f (S' := tp t1) ?_).trans rfl)).trans ?_)
        · simp only [ev_C, ev_V, ev_B, ev_aN, ev_aC, ev_Tup, ev_Lst, ev_Bin, ev_Un, ev_UnF, ev_cV, ev_cAnd, ev_cOr, ev_cNot, ev_cYes, ev_And, ev_Or, ev_Not, ev_If, ev_Chain, ev_Call, ev_Ix, ev_Sl, ev_oN, ev_oE, ev_aS, ev_Comp, ev_iAny, ev_iRange1, ev_iRange2, ev_iZip, ev_iEnum, ev_sNil, ev_sSeq, ev_sIf, ev_sRet, ev_sRetO, ev_sRetN, ev_sAsg, ev_sSet, ev_sSetO, ev_sPar, ev_sFor, ev_sWhile, ev_sApp, ev_sIxO, ev_sIxC, ev_sFrz, ev_sExp, ev_sPass, ev_runB, ev_forN, ev_compN, ev_put0, ev_put1, ev_wipe0, ev_wipe1, ev_bnm, ev_btup, ev_bL0, ev_bL1, dv_add, dv_sub, dv_neg, dv_lt, dv_le, dv_gt, dv_ge, dv_int, dv_abs, dv_lenL, dv_lenT, dv_tupL, dv_tupT, dv_lofL, dv_lofT, dv_lofS, dv_seqL, dv_seqT, dv_ixL, dv_ixT, dv_ixO, atI_0, atI_1, atI_2, Option.bind_some, Option.bind_none, List.getElem?_cons_zero, List.getElem?_cons_succ, List.getElem?_nil, List.set_cons_zero, List.set_cons_succ, List.set_nil, List.length_cons, List.length_nil, List.map_cons, List.map_nil, List.replicate_succ, List.replicate_zero, List.cons_append, List.nil_append, Nat.reduceAdd, Nat.reduceSub, Nat.reduceLeDiff, Nat.zero_add, Nat.sub_zero, Nat.add_zero, if_true, if_false, Bool.false_eq_true, Nat.reduceEqDiff, Bool.not_true, Bool.not_false, decide_true, decide_false, ev_nat, decide_eq_false h8]
        refine (seq_nx (set_s (d := .lst [.str "", .str "a", .str "aa", .str "ab", .str "1/2", .str "e", .str "aab"]) (S' := tp t1) rfl)).trans (ret_s ?_)
        refine ix_s (d := .lst [.bl true, .bl false, .non, z, .tup [.int 1, .int 2]]) (S' := tp t2) ?_ (d2 := .int (c - 8)) (S2 := tp t2) rfl hp
        refine lst_s (ds := [.bl true, .bl false, .non, z, .tup [.int 1, .int 2]]) ?_ (by show 5 ≤ 16777216; decide)
        refine aC_s (S' := tp t1) rfl (aC_s (S' := tp t1) rfl (aC_s (S' := tp t1) rfl (aC_s (d := z) (S' := tp t2) ?_ rfl)))
        exact ix_s (d := .lst [.str "", .str "a", .str "aa", .str "ab", .str "1/2", .str "e", .str "aab"]) (S' := tp t1) rfl e2 pz
mutual
def lkS : Nat → D → Bool
  | _, .non => true
  | _, .bl _ => true
  | _, .int _ => true
  | _, .str x => PySem.PyData.strOk x && decide (x.length ≤ 1000)
  | n + 1, .tup xs => decide (xs.length ≤ 1000) && lkSL n xs
  | n + 1, .lst xs => decide (xs.length ≤ 1000) && lkSL n xs
  | _, _ => false
def lkSL : Nat → List D → Bool
  | _, [] => true
  | n, x :: xs => lkS n x && lkSL n xs
end
theorem lkSL_mem : ∀ {n : Nat} {xs : List D}, lkSL n xs = true → ∀ x ∈ xs, lkS n x = true
  | n, y :: ys, h, x, m => by
    simp only [lkSL, Bool.and_eq_true] at h
    rcases List.mem_cons.mp m with rfl | m
    · exact h.1
    · exact lkSL_mem h.2 x m
mutual
theorem lkS_pl : ∀ (n : Nat) (d : D), lkS n d = true → plD d = true
  | _, .non, _ => by simp [plD]
  | _, .bl _, _ => by simp [plD]
  | _, .int _, _ => by simp [plD]
  | _, .str x, h => by
    simp only [lkS, Bool.and_eq_true, decide_eq_true_eq] at h
    have h2 : x.length ≤ 16777216 := by omega
    simp only [plD, h.1, Bool.true_and, decide_eq_true h2]
  | n + 1, .tup xs, h => by simp only [lkS, Bool.and_eq_true] at h; simp only [plD]; exact lkSL_pl n xs h.2
  | n + 1, .lst xs, h => by simp only [lkS, Bool.and_eq_true] at h; simp only [plD]; exact lkSL_pl n xs h.2
  | 0, .tup _, h => by simp [lkS] at h
  | 0, .lst _, h => by simp [lkS] at h
  | _, .obj _, h => by simp [lkS] at h
  | _, .dct _, h => by simp [lkS] at h
  | _, .scr _, h => by simp [lkS] at h
theorem lkSL_pl : ∀ (n : Nat) (xs : List D), lkSL n xs = true → plL xs = true
  | _, [], _ => by simp [plL]
  | n, x :: xs, h => by
    simp only [lkSL, Bool.and_eq_true] at h
    simp only [plL, lkS_pl n x h.1, lkSL_pl n xs h.2, Bool.and_self]
end
theorem ixN_of {n : Nat} {k : Int} (h0 : 0 ≤ k) (h1 : k < n) : ixN n k = some k.toNat := by
  unfold ixN
  rw [if_pos h0, if_pos h1]
theorem kindP (P : D → Prop) (xs : List D) (hx : ∀ x ∈ xs, P x) (k : Int) (k0 : 0 ≤ k) (k1 : k < (xs.length : Int)) : ∃ d, P d ∧ atI xs k = some d := by
  obtain ⟨d, m, p⟩ := pick_of k0 k1
  exact ⟨d, hx d m, p⟩
def spB (m : List D → List D → Option (D × List D)) : Sv := (sIf (cV (eBin dLt (eB 4) (eC (.int 8)))) (sIxO 3 (eCall 2 m (aC (eV 0) (aC (eIx (eB 3) (eB 2)) aN))) (eV 2)) (sIf (cV (eBin dEq (eB 4) (eC (.int 8)))) (sPop 3 (eV 2)) (sIf (cV (eBin dEq (eB 4) (eC (.int 9)))) (sIns 3 (eV 2) (eIx (eB 3) (drawE 0 (eUn dLen (eB 3))))) (sIf (cV (eBin dEq (eB 4) (eC (.int 10)))) (sSetO 3 (eUnF revL (eB 3))) (sIns 3 (eV 2) (eCall 2 (m_law_any 3) (aC (eV 0) (aC (eC (.int 1)) aN))))))))
def spT : Sv := (sFrz 3 (sRet (eIf (cV (eUn (dIs isTp) (eB 1))) (eUn dTup (eB 3)) (eV 3))))
def spA (m : List D → List D → Option (D × List D)) : Sv := (sSeq (sSet 2 (drawE 0 (eUn dLen (eB 1)))) (sSeq (sSetO 3 (eUnF lOf (eB 1))) (sSeq (sSet 4 (drawE 0 (eC (.int 12)))) (sSeq (spB m) spT))))
def spC : Sv := (sSeq (sSet 5 (drawE 0 (eBin dAdd (eUn dLen (eB 1)) (eC (.int 1))))) (sRet (eBin dAdd (eBin dAdd (eSl (eB 1) oN (oE (eV 5))) (eIx (eLst (aC (eC (.str " ")) (aC (eC (.str "z")) (aC (eC (.str "A")) (aC (eC (.str "|")) (aC (eC (.str "abcdefgh")) (aC (eC (.str "")) aN))))))) (drawE 0 (eC (.int 6))))) (eSl (eB 1) (oE (eV 5)) oN))))
def spR : Sv := (sSeq (sIf (cAnd (cV (eUn (dIs isLT) (eB 1))) (cV (eBin dEq (drawE 0 (eC (.int 2))) (eC (.int 0))))) (sRet (eIf (cV (eUn (dIs isTp) (eB 1))) (eUnF lOf (eB 1)) (eUn dTup (eB 1)))) sNil) (sRet (eCall 2 (m_law_any 3) (aC (eV 0) (aC (eC (.int 2)) aN)))))
def spS : Sv := (sSeq (sIf (cAnd (cV (eUn (dIs isS) (eB 1))) (cV (eBin dGt (drawE 0 (eC (.int 3))) (eC (.int 0))))) spC sNil) spR)
def spW : Sv := (sSeq (sIf (cAnd (cV (eCall 1 m_law_whole (aC (eV 1) aN))) (cV (eBin dGt (drawE 0 (eC (.int 6))) (eC (.int 0))))) (sRet (eBin dAdd (eB 1) (eIx (eLst (aC (eC (.int 1)) (aC (eUn dNeg (eC (.int 1))) (aC (eC (.int 2)) (aC (eUn dNeg (eC (.int 2))) (aC (eC (.int 9)) (aC (eC (.int 1000)) aN))))))) (drawE 0 (eC (.int 6)))))) sNil) spS)
theorem g_law_spoilt_is (m : List D → List D → Option (D × List D)) : g_law_spoilt m = (sSeq (sIf (cAnd (cV (eUn (dIs isLT) (eB 1))) (cAnd (cV (eBin dGt (eUn dLen (eB 1)) (eC (.int 0)))) (cV (eBin dGt (drawE 0 (eC (.int 7))) (eC (.int 0)))))) (spA m) sNil) spW) := rfl
theorem m_law_spoilt_succ (n : Nat) (ds S : List D) : m_law_spoilt (n + 1) ds S = runB false 6 (g_law_spoilt (m_law_spoilt n)) ds S := rfl
def Ends (g : Sv) (ρ : List Slot) (t : Tape) : Prop := ∃ r t', plD r = true ∧ g ρ (tp t) = some (.rt r (tp t'))
theorem spR_ex (d : D) (t : Tape) (h : plD d = true) : Ends spR [.val (.obj 0), .val d, .non, .non, .non, .non] t := by
  have anyEnd : ∀ t, ∃ r t', plD r = true ∧ (sRet (eCall 2 (m_law_any 3) (aC (eV 0) (aC (eC (.int 2)) aN)))) [.val (.obj 0), .val d, .non, .non, .non, .non] (tp t) = some (.rt r (tp t')) := fun t => by
    obtain ⟨r, t', hr, e⟩ := any_ex 3 2 (by decide) t
    exact ⟨r, t', hr, ret_s (call_s (ds := [.obj 0, .int 2]) (S' := tp t) rfl rfl e)⟩
  by_cases hl : isLT d = some true
  · obtain ⟨k, t1, k0, k1, e1⟩ := drawE_ex t (ρ := [.val (.obj 0), .val d, .non, .non, .non, .non]) (i := 0) (k := eC (.int 2)) rfl rfl (by decide) (wide_sm (by decide))
    have hc : cAnd (cV (eUn (dIs isLT) (eB 1))) (cV (eBin dEq (drawE 0 (eC (.int 2))) (eC (.int 0)))) [.val (.obj 0), .val d, .non, .non, .non, .non] (tp t) = some (decide (k = 0), tp t1) := by
      simp only [ev_C, ev_V, ev_B, ev_aN, ev_aC, ev_Tup, ev_Lst, ev_Bin, ev_Un, ev_UnF, ev_cV, ev_cAnd, ev_cOr, ev_cNot, ev_cYes, ev_And, ev_Or, ev_Not, ev_If, ev_Chain, ev_Call, ev_Ix, ev_Sl, ev_oN, ev_oE, ev_aS, ev_Comp, ev_iAny, ev_iRange1, ev_iRange2, ev_iZip, ev_iEnum, ev_sNil, ev_sSeq, ev_sIf, ev_sRet, ev_sRetO, ev_sRetN, ev_sAsg, ev_sSet, ev_sSetO, ev_sPar, ev_sFor, ev_sWhile, ev_sApp, ev_sIxO, ev_sIxC, ev_sFrz, ev_sExp, ev_sPass, ev_runB, ev_forN, ev_compN, ev_put0, ev_put1, ev_wipe0, ev_wipe1, ev_bnm, ev_btup, ev_bL0, ev_bL1, dv_add, dv_sub, dv_neg, dv_lt, dv_le, dv_gt, dv_ge, dv_int, dv_abs, dv_lenL, dv_lenT, dv_tupL, dv_tupT, dv_lofL, dv_lofT, dv_lofS, dv_seqL, dv_seqT, dv_ixL, dv_ixT, dv_ixO, atI_0, atI_1, atI_2, Option.bind_some, Option.bind_none, List.getElem?_cons_zero, List.getElem?_cons_succ, List.getElem?_nil, List.set_cons_zero, List.set_cons_succ, List.set_nil, List.length_cons, List.length_nil, List.map_cons, List.map_nil, List.replicate_succ, List.replicate_zero, List.cons_append, List.nil_append, Nat.reduceAdd, Nat.reduceSub, Nat.reduceLeDiff, Nat.zero_add, Nat.sub_zero, Nat.add_zero, if_true, if_false, Bool.false_eq_true, Nat.reduceEqDiff, Bool.not_true, Bool.not_false, decide_true, decide_false, ev_nat, dIs, hl, e1, dv_eqI]
    by_cases hk : k = 0
    · cases d with
      | tup xs => exact ⟨.lst xs, t1, by simpa [plD] using h, seq_rt ((if_t (S' := tp t1) (by rw [hc, decide_eq_true hk])).trans (ret_s ((eif_t (S' := tp t1) rfl).trans rfl)))⟩
      | lst xs => exact ⟨.tup xs, t1, by simpa [plD] using h, seq_rt ((if_t (S' := tp t1) (by rw [hc, decide_eq_true hk])).trans (ret_s ((eif_f (S' := tp t1) rfl).trans rfl)))⟩
      | _ => cases hl
    · obtain ⟨r, t', hr, e⟩ := anyEnd t1
      exact ⟨r, t', hr, (seq_nx ((if_f (S' := tp t1) (by rw [hc, decide_eq_false hk])).trans rfl)).trans e⟩
  · have hf : isLT d = some false := by
      cases d <;> first | rfl | exact absurd rfl hl | (simp [plD] at h)
    have hc : cAnd (cV (eUn (dIs isLT) (eB 1))) (cV (eBin dEq (drawE 0 (eC (.int 2))) (eC (.int 0)))) [.val (.obj 0), .val d, .non, .non, .non, .non] (tp t) = some (false, tp t) := by
      simp only [ev_C, ev_V, ev_B, ev_aN, ev_aC, ev_Tup, ev_Lst, ev_Bin, ev_Un, ev_UnF, ev_cV, ev_cAnd, ev_cOr, ev_cNot, ev_cYes, ev_And, ev_Or, ev_Not, ev_If, ev_Chain, ev_Call, ev_Ix, ev_Sl, ev_oN, ev_oE, ev_aS, ev_Comp, ev_iAny, ev_iRange1, ev_iRange2, ev_iZip, ev_iEnum, ev_sNil, ev_sSeq, ev_sIf, ev_sRet, ev_sRetO, ev_sRetN, ev_sAsg, ev_sSet, ev_sSetO, ev_sPar, ev_sFor, ev_sWhile, ev_sApp, ev_sIxO, ev_sIxC, ev_sFrz, ev_sExp, ev_sPass, ev_runB, ev_forN, ev_compN, ev_put0, ev_put1, ev_wipe0, ev_wipe1, ev_bnm, ev_btup, ev_bL0, ev_bL1, dv_add, dv_sub, dv_neg, dv_lt, dv_le, dv_gt, dv_ge, dv_int, dv_abs, dv_lenL, dv_lenT, dv_tupL, dv_tupT, dv_lofL, dv_lofT, dv_lofS, dv_seqL, dv_seqT, dv_ixL, dv_ixT, dv_ixO, atI_0, atI_1, atI_2, Option.bind_some, Option.bind_none, List.getElem?_cons_zero, List.getElem?_cons_succ, List.getElem?_nil, List.set_cons_zero, List.set_cons_succ, List.set_nil, List.length_cons, List.length_nil, List.map_cons, List.map_nil, List.replicate_succ, List.replicate_zero, List.cons_append, List.nil_append, Nat.reduceAdd, Nat.reduceSub, Nat.reduceLeDiff, Nat.zero_add, Nat.sub_zero, Nat.add_zero, if_true, if_false, Bool.false_eq_true, Nat.reduceEqDiff, Bool.not_true, Bool.not_false, decide_true, decide_false, ev_nat, dIs, hf]
    obtain ⟨r, t', hr, e⟩ := anyEnd t
    exact ⟨r, t', hr, (seq_nx ((if_f hc).trans rfl)).trans e⟩
theorem str_len (s : PySem.Str) : s.length = s.cps.size := rfl
theorem cut_len (s : PySem.Str) (lo hi : Option Int) : (L2.cutS s lo hi).length ≤ s.length := by
  unfold L2.cutS
  rw [str_len, str_len]
  simp only [List.size_toArray, List.length_take, List.length_drop, Array.length_toList]
  omega
theorem add_len (a b : PySem.Str) : (a ++ b).length = a.length + b.length := by
  show (a.cps ++ b.cps).size = _
  rw [Array.size_append]; rfl
theorem ok_app {a b : PySem.Str} (ha : PySem.PyData.strOk a = true) (hb : PySem.PyData.strOk b = true) : PySem.PyData.strOk (a ++ b) = true := by
  unfold PySem.PyData.strOk at *
  show (a.cps ++ b.cps).all _ = true
  rw [Array.all_append, ha, hb]; rfl
theorem ok_cut {a : PySem.Str} (ha : PySem.PyData.strOk a = true) (lo hi : Option Int) : PySem.PyData.strOk (L2.cutS a lo hi) = true := by
  unfold PySem.PyData.strOk L2.cutS at *
  rw [List.all_toArray]
  rw [← Array.all_toList] at ha
  rw [List.all_eq_true] at ha ⊢
  intro x m
  exact ha x (List.mem_of_mem_drop (List.mem_of_mem_take m))
theorem spS_ex (d : D) (t : Tape) (h : plD d = true) (hs : ∀ x, d = .str x → x.length ≤ 1000) : Ends spS [.val (.obj 0), .val d, .non, .non, .non, .non] t := by
  by_cases hl : isS d = some true
  · obtain ⟨x, rfl⟩ : ∃ x, d = .str x := by cases d <;> first | exact ⟨_, rfl⟩ | cases hl
    have hx := hs x rfl
    obtain ⟨k, t1, k0, k1, e1⟩ := drawE_ex t (ρ := [.val (.obj 0), .val (.str x), .non, .non, .non, .non]) (i := 0) (k := eC (.int 3)) rfl rfl (by decide) (wide_sm (by decide))
    by_cases hk : 0 < k
    · have hlen : dLen (.str x) = some (.int x.length) := by
        show (if x.length ≤ 16777216 then some (D.int x.length) else none) = _
        rw [if_pos (by omega)]
      obtain ⟨p, t2, p0, p1, e2⟩ := drawE_ex t1 (ρ := [.val (.obj 0), .val (.str x), .non, .non, .non, .non]) (i := 0) (k := eBin dAdd (eUn dLen (eB 1)) (eC (.int 1))) (many := x.length + 1) rfl (bin_s (un_s (d := .str x) (S' := tp t1) rfl hlen) rfl rfl) (by omega) (wide_sm (by omega))
      obtain ⟨q, t3, q0, q1, e3⟩ := drawE_ex t2 (ρ := [.val (.obj 0), .val (.str x), .non, .non, .non, .val (.int p)]) (i := 0) (k := eC (.int 6)) rfl rfl (by decide) (wide_sm (by decide))
      obtain ⟨z, ⟨z', rfl, hz, hzo⟩, pz⟩ := kindP (fun d => ∃ z, d = .str z ∧ z.length ≤ 8 ∧ PySem.PyData.strOk z = true) [.str " ", .str "z", .str "A", .str "|", .str "abcdefgh", .str ""] (by
        intro x m
        simp only [List.mem_cons, List.not_mem_nil, or_false] at m
        rcases m with rfl | rfl | rfl | rfl | rfl | rfl <;> exact ⟨_, rfl, by decide, by decide +kernel⟩) q q0 (by simpa using q1)
      have sl1 : slD none (some p) (.str x) = some (.str (L2.cutS x none (some p))) := by
        show (if x.length ≤ 16777216 then some (D.str (L2.cutS x none (some p))) else none) = _
        rw [if_pos (by omega)]
      have sl2 : slD (some p) none (.str x) = some (.str (L2.cutS x (some p) none)) := by
        show (if x.length ≤ 16777216 then some (D.str (L2.cutS x (some p) none)) else none) = _
        rw [if_pos (by omega)]
      have c1 := cut_len x none (some p)
      have c2 := cut_len x (some p) none
      have ad1 : dAdd (.str (L2.cutS x none (some p))) (.str z') = some (.str (L2.cutS x none (some p) ++ z')) := by
        show (if _ then _ else _) = _
        rw [if_pos (by omega)]
      have ad2 : dAdd (.str (L2.cutS x none (some p) ++ z')) (.str (L2.cutS x (some p) none)) = some (.str (L2.cutS x none (some p) ++ z' ++ L2.cutS x (some p) none)) := by
        show (if _ then _ else _) = _
        rw [if_pos (by rw [add_len]; omega)]
      have hxo : PySem.PyData.strOk x = true := by
        simp only [plD, Bool.and_eq_true] at h; exact h.1
      refine ⟨.str (L2.cutS x none (some p) ++ z' ++ L2.cutS x (some p) none), t3, by
        simp only [plD, Bool.and_eq_true, decide_eq_true_eq]
        exact ⟨ok_app (ok_app (ok_cut hxo _ _) hzo) (ok_cut hxo _ _), by rw [add_len, add_len]; omega⟩, seq_rt ((if_t (S' := tp t1) ?_).trans ?_)⟩
      · simp only [ev_C, ev_V, ev_B, ev_aN, ev_aC, ev_Tup, ev_Lst, ev_Bin, ev_Un, ev_UnF, ev_cV, ev_cAnd, ev_cOr, ev_cNot, ev_cYes, ev_And, ev_Or, ev_Not, ev_If, ev_Chain, ev_Call, ev_Ix, ev_Sl, ev_oN, ev_oE, ev_aS, ev_Comp, ev_iAny, ev_iRange1, ev_iRange2, ev_iZip, ev_iEnum, ev_sNil, ev_sSeq, ev_sIf, ev_sRet, ev_sRetO, ev_sRetN, ev_sAsg, ev_sSet, ev_sSetO, ev_sPar, ev_sFor, ev_sWhile, ev_sApp, ev_sIxO, ev_sIxC, ev_sFrz, ev_sExp, ev_sPass, ev_runB, ev_forN, ev_compN, ev_put0, ev_put1, ev_wipe0, ev_wipe1, ev_bnm, ev_btup, ev_bL0, ev_bL1, dv_add, dv_sub, dv_neg, dv_lt, dv_le, dv_gt, dv_ge, dv_int, dv_abs, dv_lenL, dv_lenT, dv_tupL, dv_tupT, dv_lofL, dv_lofT, dv_lofS, dv_seqL, dv_seqT, dv_ixL, dv_ixT, dv_ixO, atI_0, atI_1, atI_2, Option.bind_some, Option.bind_none, List.getElem?_cons_zero, List.getElem?_cons_succ, List.getElem?_nil, List.set_cons_zero, List.set_cons_succ, List.set_nil, List.length_cons, List.length_nil, List.map_cons, List.map_nil, List.replicate_succ, List.replicate_zero, List.cons_append, List.nil_append, Nat.reduceAdd, Nat.reduceSub, Nat.reduceLeDiff, Nat.zero_add, Nat.sub_zero, Nat.add_zero, if_true, if_false, Bool.false_eq_true, Nat.reduceEqDiff, Bool.not_true, Bool.not_false, decide_true, decide_false, ev_nat, dIs, isS, e1, decide_eq_true hk]
      refine (seq_nx (set_s e2)).trans (ret_s ?_)
      refine bin_s (S' := tp t3) (S2 := tp t3) (bin_s (d := .str (L2.cutS x none (some p))) (S' := tp t2) (d2 := .str z') (S2 := tp t3) ?_ ?_ ad1) (d2 := .str (L2.cutS x (some p) none)) ?_ ad2
      · simp only [ev_C, ev_V, ev_B, ev_aN, ev_aC, ev_Tup, ev_Lst, ev_Bin, ev_Un, ev_UnF, ev_cV, ev_cAnd, ev_cOr, ev_cNot, ev_cYes, ev_And, ev_Or, ev_Not, ev_If, ev_Chain, ev_Call, ev_Ix, ev_Sl, ev_oN, ev_oE, ev_aS, ev_Comp, ev_iAny, ev_iRange1, ev_iRange2, ev_iZip, ev_iEnum, ev_sNil, ev_sSeq, ev_sIf, ev_sRet, ev_sRetO, ev_sRetN, ev_sAsg, ev_sSet, ev_sSetO, ev_sPar, ev_sFor, ev_sWhile, ev_sApp, ev_sIxO, ev_sIxC, ev_sFrz, ev_sExp, ev_sPass, ev_runB, ev_forN, ev_compN, ev_put0, ev_put1, ev_wipe0, ev_wipe1, ev_bnm, ev_btup, ev_bL0, ev_bL1, dv_add, dv_sub, dv_neg, dv_lt, dv_le, dv_gt, dv_ge, dv_int, dv_abs, dv_lenL, dv_lenT, dv_tupL, dv_tupT, dv_lofL, dv_lofT, dv_lofS, dv_seqL, dv_seqT, dv_ixL, dv_ixT, dv_ixO, atI_0, atI_1, atI_2, Option.bind_some, Option.bind_none, List.getElem?_cons_zero, List.getElem?_cons_succ, List.getElem?_nil, List.set_cons_zero, List.set_cons_succ, List.set_nil, List.length_cons, List.length_nil, List.map_cons, List.map_nil, List.replicate_succ, List.replicate_zero, List.cons_append, List.nil_append, Nat.reduceAdd, Nat.reduceSub, Nat.reduceLeDiff, Nat.zero_add, Nat.sub_zero, Nat.add_zero, if_true, if_false, Bool.false_eq_true, Nat.reduceEqDiff, Bool.not_true, Bool.not_false, decide_true, decide_false, ev_nat, sl1]
      · exact ix_s (d := .lst [.str " ", .str "z", .str "A", .str "|", .str "abcdefgh", .str ""]) (S' := tp t2) rfl e3 pz
      · simp only [ev_C, ev_V, ev_B, ev_aN, ev_aC, ev_Tup, ev_Lst, ev_Bin, ev_Un, ev_UnF, ev_cV, ev_cAnd, ev_cOr, ev_cNot, ev_cYes, ev_And, ev_Or, ev_Not, ev_If, ev_Chain, ev_Call, ev_Ix, ev_Sl, ev_oN, ev_oE, ev_aS, ev_Comp, ev_iAny, ev_iRange1, ev_iRange2, ev_iZip, ev_iEnum, ev_sNil, ev_sSeq, ev_sIf, ev_sRet, ev_sRetO, ev_sRetN, ev_sAsg, ev_sSet, ev_sSetO, ev_sPar, ev_sFor, ev_sWhile, ev_sApp, ev_sIxO, ev_sIxC, ev_sFrz, ev_sExp, ev_sPass, ev_runB, ev_forN, ev_compN, ev_put0, ev_put1, ev_wipe0, ev_wipe1, ev_bnm, ev_btup, ev_bL0, ev_bL1, dv_add, dv_sub, dv_neg, dv_lt, dv_le, dv_gt, dv_ge, dv_int, dv_abs, dv_lenL, dv_lenT, dv_tupL, dv_tupT, dv_lofL, dv_lofT, dv_lofS, dv_seqL, dv_seqT, dv_ixL, dv_ixT, dv_ixO, atI_0, atI_1, atI_2, Option.bind_some, Option.bind_none, List.getElem?_cons_zero, List.getElem?_cons_succ, List.getElem?_nil, List.set_cons_zero, List.set_cons_succ, List.set_nil, List.length_cons, List.length_nil, List.map_cons, List.map_nil, List.replicate_succ, List.replicate_zero, List.cons_append, List.nil_append, Nat.reduceAdd, Nat.reduceSub, Nat.reduceLeDiff, Nat.zero_add, Nat.sub_zero, Nat.add_zero, if_true, if_false, Bool.false_eq_true, Nat.reduceEqDiff, Bool.not_true, Bool.not_false, decide_true, decide_false, ev_nat, sl2]
    · obtain ⟨r, t', hr, e⟩ := spR_ex (.str x) t1 h
      refine ⟨r, t', hr, (seq_nx ((if_f (S' := tp t1) ?_).trans rfl)).trans e⟩
      simp only [ev_C, ev_V, ev_B, ev_aN, ev_aC, ev_Tup, ev_Lst, ev_Bin, ev_Un, ev_UnF, ev_cV, ev_cAnd, ev_cOr, ev_cNot, ev_cYes, ev_And, ev_Or, ev_Not, ev_If, ev_Chain, ev_Call, ev_Ix, ev_Sl, ev_oN, ev_oE, ev_aS, ev_Comp, ev_iAny, ev_iRange1, ev_iRange2, ev_iZip, ev_iEnum, ev_sNil, ev_sSeq, ev_sIf, ev_sRet, ev_sRetO, ev_sRetN, ev_sAsg, ev_sSet, ev_sSetO, ev_sPar, ev_sFor, ev_sWhile, ev_sApp, ev_sIxO, ev_sIxC, ev_sFrz, ev_sExp, ev_sPass, ev_runB, ev_forN, ev_compN, ev_put0, ev_put1, ev_wipe0, ev_wipe1, ev_bnm, ev_btup, ev_bL0, ev_bL1, dv_add, dv_sub, dv_neg, dv_lt, dv_le, dv_gt, dv_ge, dv_int, dv_abs, dv_lenL, dv_lenT, dv_tupL, dv_tupT, dv_lofL, dv_lofT, dv_lofS, dv_seqL, dv_seqT, dv_ixL, dv_ixT, dv_ixO, atI_0, atI_1, atI_2, Option.bind_some, Option.bind_none, List.getElem?_cons_zero, List.getElem?_cons_succ, List.getElem?_nil, List.set_cons_zero, List.set_cons_succ, List.set_nil, List.length_cons, List.length_nil, List.map_cons, List.map_nil, List.replicate_succ, List.replicate_zero, List.cons_append, List.nil_append, Nat.reduceAdd, Nat.reduceSub, Nat.reduceLeDiff, Nat.zero_add, Nat.sub_zero, Nat.add_zero, if_true, if_false, Bool.false_eq_true, Nat.reduceEqDiff, Bool.not_true, Bool.not_false, decide_true, decide_false, ev_nat, dIs, isS, e1, decide_eq_false hk]
  · have hf : isS d = some false := by
      cases d <;> first | rfl | exact absurd rfl hl | (simp [plD] at h)
    obtain ⟨r, t', hr, e⟩ := spR_ex d t h
    refine ⟨r, t', hr, (seq_nx ((if_f (S' := tp t) ?_).trans rfl)).trans e⟩
    simp only [ev_C, ev_V, ev_B, ev_aN, ev_aC, ev_Tup, ev_Lst, ev_Bin, ev_Un, ev_UnF, ev_cV, ev_cAnd, ev_cOr, ev_cNot, ev_cYes, ev_And, ev_Or, ev_Not, ev_If, ev_Chain, ev_Call, ev_Ix, ev_Sl, ev_oN, ev_oE, ev_aS, ev_Comp, ev_iAny, ev_iRange1, ev_iRange2, ev_iZip, ev_iEnum, ev_sNil, ev_sSeq, ev_sIf, ev_sRet, ev_sRetO, ev_sRetN, ev_sAsg, ev_sSet, ev_sSetO, ev_sPar, ev_sFor, ev_sWhile, ev_sApp, ev_sIxO, ev_sIxC, ev_sFrz, ev_sExp, ev_sPass, ev_runB, ev_forN, ev_compN, ev_put0, ev_put1, ev_wipe0, ev_wipe1, ev_bnm, ev_btup, ev_bL0, ev_bL1, dv_add, dv_sub, dv_neg, dv_lt, dv_le, dv_gt, dv_ge, dv_int, dv_abs, dv_lenL, dv_lenT, dv_tupL, dv_tupT, dv_lofL, dv_lofT, dv_lofS, dv_seqL, dv_seqT, dv_ixL, dv_ixT, dv_ixO, atI_0, atI_1, atI_2, Option.bind_some, Option.bind_none, List.getElem?_cons_zero, List.getElem?_cons_succ, List.getElem?_nil, List.set_cons_zero, List.set_cons_succ, List.set_nil, List.length_cons, List.length_nil, List.map_cons, List.map_nil, List.replicate_succ, List.replicate_zero, List.cons_append, List.nil_append, Nat.reduceAdd, Nat.reduceSub, Nat.reduceLeDiff, Nat.zero_add, Nat.sub_zero, Nat.add_zero, if_true, if_false, Bool.false_eq_true, Nat.reduceEqDiff, Bool.not_true, Bool.not_false, decide_true, decide_false, ev_nat, dIs, hf]
theorem spW_ex (d : D) (t : Tape) (h : plD d = true) (hs : ∀ x, d = .str x → x.length ≤ 1000) : Ends spW [.val (.obj 0), .val d, .non, .non, .non, .non] t := by
  have w := m_law_whole_eq d (tp t) (plD_plain h)
  have w' : cV (eCall 1 m_law_whole (aC (eV 1) aN)) [.val (.obj 0), .val d, .non, .non, .non, .non] (tp t) = some (isWh d, tp t) := cV_s (call_s (ds := [d]) (S' := tp t) rfl rfl w)
  cases hw : isWh d with
  | false =>
    rw [hw] at w'
    obtain ⟨r, t', hr, e⟩ := spS_ex d t h hs
    refine ⟨r, t', hr, (seq_nx ((if_f (S' := tp t) ?_).trans rfl)).trans e⟩
    rw [ev_cAnd, w']; rfl
  | true =>
    rw [hw] at w'
    obtain ⟨i, rfl⟩ : ∃ i, d = .int i := by cases d <;> first | exact ⟨_, rfl⟩ | cases hw
    obtain ⟨k, t1, k0, k1, e1⟩ := drawE_ex t (ρ := [.val (.obj 0), .val (.int i), .non, .non, .non, .non]) (i := 0) (k := eC (.int 6)) rfl rfl (by decide) (wide_sm (by decide))
    have hc : cAnd (cV (eCall 1 m_law_whole (aC (eV 1) aN))) (cV (eBin dGt (drawE 0 (eC (.int 6))) (eC (.int 0)))) [.val (.obj 0), .val (.int i), .non, .non, .non, .non] (tp t) = some (decide (0 < k), tp t1) := by
      rw [ev_cAnd, w', Option.bind_some]
      simp only [ev_C, ev_V, ev_B, ev_aN, ev_aC, ev_Tup, ev_Lst, ev_Bin, ev_Un, ev_UnF, ev_cV, ev_cAnd, ev_cOr, ev_cNot, ev_cYes, ev_And, ev_Or, ev_Not, ev_If, ev_Chain, ev_Call, ev_Ix, ev_Sl, ev_oN, ev_oE, ev_aS, ev_Comp, ev_iAny, ev_iRange1, ev_iRange2, ev_iZip, ev_iEnum, ev_sNil, ev_sSeq, ev_sIf, ev_sRet, ev_sRetO, ev_sRetN, ev_sAsg, ev_sSet, ev_sSetO, ev_sPar, ev_sFor, ev_sWhile, ev_sApp, ev_sIxO, ev_sIxC, ev_sFrz, ev_sExp, ev_sPass, ev_runB, ev_forN, ev_compN, ev_put0, ev_put1, ev_wipe0, ev_wipe1, ev_bnm, ev_btup, ev_bL0, ev_bL1, dv_add, dv_sub, dv_neg, dv_lt, dv_le, dv_gt, dv_ge, dv_int, dv_abs, dv_lenL, dv_lenT, dv_tupL, dv_tupT, dv_lofL, dv_lofT, dv_lofS, dv_seqL, dv_seqT, dv_ixL, dv_ixT, dv_ixO, atI_0, atI_1, atI_2, Option.bind_some, Option.bind_none, List.getElem?_cons_zero, List.getElem?_cons_succ, List.getElem?_nil, List.set_cons_zero, List.set_cons_succ, List.set_nil, List.length_cons, List.length_nil, List.map_cons, List.map_nil, List.replicate_succ, List.replicate_zero, List.cons_append, List.nil_append, Nat.reduceAdd, Nat.reduceSub, Nat.reduceLeDiff, Nat.zero_add, Nat.sub_zero, Nat.add_zero, if_true, if_false, Bool.false_eq_true, Nat.reduceEqDiff, Bool.not_true, Bool.not_false, decide_true, decide_false, ev_nat, e1]
    by_cases hk : 0 < k
    · obtain ⟨q, t2, q0, q1, e2⟩ := drawE_ex t1 (ρ := [.val (.obj 0), .val (.int i), .non, .non, .non, .non]) (i := 0) (k := eC (.int 6)) rfl rfl (by decide) (wide_sm (by decide))
      obtain ⟨z, ⟨z', rfl⟩, pz⟩ := kindP (fun d => ∃ z, d = .int z) [.int 1, .int (-1), .int 2, .int (-2), .int 9, .int 1000] (by
        intro x m
        simp only [List.mem_cons, List.not_mem_nil, or_false] at m
        rcases m with rfl | rfl | rfl | rfl | rfl | rfl <;> exact ⟨_, rfl⟩) q q0 (by simpa using q1)
      refine ⟨.int (i + z'), t2, by simp [plD], seq_rt ((if_t (S' := tp t1) (by rw [hc, decide_eq_true hk])).trans (ret_s ?_))⟩
      exact bin_s (d := .int i) (S' := tp t1) rfl (ix_s (d := .lst [.int 1, .int (-1), .int 2, .int (-2), .int 9, .int 1000]) (S' := tp t1) rfl e2 pz) rfl
    · obtain ⟨r, t', hr, e⟩ := spS_ex (.int i) t1 h hs
      exact ⟨r, t', hr, (seq_nx ((if_f (S' := tp t1) (by rw [hc, decide_eq_false hk])).trans rfl)).trans e⟩
theorem plL_erase : ∀ (xs : List D) (n : Nat), plL xs = true → plL (xs.eraseIdx n) = true := fun xs n h => plL_of fun x m => plL_mem h x (List.mem_of_mem_eraseIdx m)
theorem plL_set (xs : List D) (n : Nat) (d : D) (h : plL xs = true) (hd : plD d = true) : plL (xs.set n d) = true := plL_of fun x m => by
  rcases List.mem_or_eq_of_mem_set m with m | rfl
  · exact plL_mem h x m
  · exact hd
theorem plL_ins (xs : List D) (n : Nat) (d : D) (h : plL xs = true) (hd : plD d = true) : plL (xs.take n ++ [d] ++ xs.drop n) = true := plL_of fun x m => by
  simp only [List.mem_append, List.mem_cons, List.not_mem_nil, or_false] at m
  rcases m with (m | rfl) | m
  · exact plL_mem h x (List.mem_of_mem_take m)
  · exact hd
  · exact plL_mem h x (List.mem_of_mem_drop m)
theorem spB_ex (m : List D → List D → Option (D × List D)) (d : D) (xs : List D) (k c : Int) (t : Tape) (k0 : 0 ≤ k) (k1 : k < (xs.length : Int)) (c0 : 0 ≤ c) (hl : xs.length ≤ 1000) (hp : plL xs = true)
    (hm : ∀ x ∈ xs, ∀ t, ∃ r t', plD r = true ∧ m [.obj 0, x] (tp t) = some (r, tp t')) :
    ∃ ys t', plL ys = true ∧ spB m [.val (.obj 0), .val d, .val (.int k), .own (.lst xs), .val (.int c), .non] (tp t) = some (.nx [.val (.obj 0), .val d, .val (.int k), .own (.lst ys), .val (.int c), .non] (tp t')) := by
  have ix := ixN_of k0 k1
  have a63 : k < 9223372036854775808 := by omega
  unfold spB
  by_cases h8 : c < 8
  · obtain ⟨x, ⟨mx, px⟩⟩ := pick_of k0 k1
    obtain ⟨r, t', hr, e⟩ := hm x mx t
    refine ⟨xs.set k.toNat r, t', plL_set _ _ _ hp hr, (if_t (S' := tp t) ?_).trans ?_⟩
    · simp only [ev_C, ev_V, ev_B, ev_aN, ev_aC, ev_Tup, ev_Lst, ev_Bin, ev_Un, ev_UnF, ev_cV, ev_cAnd, ev_cOr, ev_cNot, ev_cYes, ev_And, ev_Or, ev_Not, ev_If, ev_Chain, ev_Call, ev_Ix, ev_Sl, ev_oN, ev_oE, ev_aS, ev_Comp, ev_iAny, ev_iRange1, ev_iRange2, ev_iZip, ev_iEnum, ev_sNil, ev_sSeq, ev_sIf, ev_sRet, ev_sRetO, ev_sRetN, ev_sAsg, ev_sSet, ev_sSetO, ev_sPar, ev_sFor, ev_sWhile, ev_sApp, ev_sIxO, ev_sIxC, ev_sFrz, ev_sExp, ev_sPass, ev_runB, ev_forN, ev_compN, ev_put0, ev_put1, ev_wipe0, ev_wipe1, ev_bnm, ev_btup, ev_bL0, ev_bL1, dv_add, dv_sub, dv_neg, dv_lt, dv_le, dv_gt, dv_ge, dv_int, dv_abs, dv_lenL, dv_lenT, dv_tupL, dv_tupT, dv_lofL, dv_lofT, dv_lofS, dv_seqL, dv_seqT, dv_ixL, dv_ixT, dv_ixO, atI_0, atI_1, atI_2, Option.bind_some, Option.bind_none, List.getElem?_cons_zero, List.getElem?_cons_succ, List.getElem?_nil, List.set_cons_zero, List.set_cons_succ, List.set_nil, List.length_cons, List.length_nil, List.map_cons, List.map_nil, List.replicate_succ, List.replicate_zero, List.cons_append, List.nil_append, Nat.reduceAdd, Nat.reduceSub, Nat.reduceLeDiff, Nat.zero_add, Nat.sub_zero, Nat.add_zero, if_true, if_false, Bool.false_eq_true, Nat.reduceEqDiff, Bool.not_true, Bool.not_false, decide_true, decide_false, ev_nat, decide_eq_true h8]
    · rw [ev_sIxO]
      have q : eCall 2 m (aC (eV 0) (aC (eIx (eB 3) (eB 2)) aN)) [.val (.obj 0), .val d, .val (.int k), .own (.lst xs), .val (.int c), .non] (tp t) = some (r, tp t') := by
        refine call_s (ds := [.obj 0, x]) (S' := tp t) ?_ rfl e
        exact aC_s (d := .obj 0) (S' := tp t) rfl (aC_s (d := x) (S' := tp t) (ix_s (d := .lst xs) (S' := tp t) rfl (d2 := .int k) (S2 := tp t) rfl px) rfl)
      rw [q]
      simp only [ev_C, ev_V, ev_B, ev_aN, ev_aC, ev_Tup, ev_Lst, ev_Bin, ev_Un, ev_UnF, ev_cV, ev_cAnd, ev_cOr, ev_cNot, ev_cYes, ev_And, ev_Or, ev_Not, ev_If, ev_Chain, ev_Call, ev_Ix, ev_Sl, ev_oN, ev_oE, ev_aS, ev_Comp, ev_iAny, ev_iRange1, ev_iRange2, ev_iZip, ev_iEnum, ev_sNil, ev_sSeq, ev_sIf, ev_sRet, ev_sRetO, ev_sRetN, ev_sAsg, ev_sSet, ev_sSetO, ev_sPar, ev_sFor, ev_sWhile, ev_sApp, ev_sIxO, ev_sIxC, ev_sFrz, ev_sExp, ev_sPass, ev_runB, ev_forN, ev_compN, ev_put0, ev_put1, ev_wipe0, ev_wipe1, ev_bnm, ev_btup, ev_bL0, ev_bL1, dv_add, dv_sub, dv_neg, dv_lt, dv_le, dv_gt, dv_ge, dv_int, dv_abs, dv_lenL, dv_lenT, dv_tupL, dv_tupT, dv_lofL, dv_lofT, dv_lofS, dv_seqL, dv_seqT, dv_ixL, dv_ixT, dv_ixO, atI_0, atI_1, atI_2, Option.bind_some, Option.bind_none, List.getElem?_cons_zero, List.getElem?_cons_succ, List.getElem?_nil, List.set_cons_zero, List.set_cons_succ, List.set_nil, List.length_cons, List.length_nil, List.map_cons, List.map_nil, List.replicate_succ, List.replicate_zero, List.cons_append, List.nil_append, Nat.reduceAdd, Nat.reduceSub, Nat.reduceLeDiff, Nat.zero_add, Nat.sub_zero, Nat.add_zero, if_true, if_false, Bool.false_eq_true, Nat.reduceEqDiff, Bool.not_true, Bool.not_false, decide_true, decide_false, ev_nat, ix]
  · by_cases e8 : c = 8
    · refine ⟨xs.eraseIdx k.toNat, t, plL_erase _ _ hp, (if_f (S' := tp t) ?_).trans ((if_t (S' := tp t) ?_).trans ?_)⟩
      · simp only [ev_C, ev_V, ev_B, ev_aN, ev_aC, ev_Tup, ev_Lst, ev_Bin, ev_Un, ev_UnF, ev_cV, ev_cAnd, ev_cOr, ev_cNot, ev_cYes, ev_And, ev_Or, ev_Not, ev_If, ev_Chain, ev_Call, ev_Ix, ev_Sl, ev_oN, ev_oE, ev_aS, ev_Comp, ev_iAny, ev_iRange1, ev_iRange2, ev_iZip, ev_iEnum, ev_sNil, ev_sSeq, ev_sIf, ev_sRet, ev_sRetO, ev_sRetN, ev_sAsg, ev_sSet, ev_sSetO, ev_sPar, ev_sFor, ev_sWhile, ev_sApp, ev_sIxO, ev_sIxC, ev_sFrz, ev_sExp, ev_sPass, ev_runB, ev_forN, ev_compN, ev_put0, ev_put1, ev_wipe0, ev_wipe1, ev_bnm, ev_btup, ev_bL0, ev_bL1, dv_add, dv_sub, dv_neg, dv_lt, dv_le, dv_gt, dv_ge, dv_int, dv_abs, dv_lenL, dv_lenT, dv_tupL, dv_tupT, dv_lofL, dv_lofT, dv_lofS, dv_seqL, dv_seqT, dv_ixL, dv_ixT, dv_ixO, atI_0, atI_1, atI_2, Option.bind_some, Option.bind_none, List.getElem?_cons_zero, List.getElem?_cons_succ, List.getElem?_nil, List.set_cons_zero, List.set_cons_succ, List.set_nil, List.length_cons, List.length_nil, List.map_cons, List.map_nil, List.replicate_succ, List.replicate_zero, List.cons_append, List.nil_append, Nat.reduceAdd, Nat.reduceSub, Nat.reduceLeDiff, Nat.zero_add, Nat.sub_zero, Nat.add_zero, if_true, if_false, Bool.false_eq_true, Nat.reduceEqDiff, Bool.not_true, Bool.not_false, decide_true, decide_false, ev_nat, decide_eq_false h8]
      · simp only [ev_C, ev_V, ev_B, ev_aN, ev_aC, ev_Tup, ev_Lst, ev_Bin, ev_Un, ev_UnF, ev_cV, ev_cAnd, ev_cOr, ev_cNot, ev_cYes, ev_And, ev_Or, ev_Not, ev_If, ev_Chain, ev_Call, ev_Ix, ev_Sl, ev_oN, ev_oE, ev_aS, ev_Comp, ev_iAny, ev_iRange1, ev_iRange2, ev_iZip, ev_iEnum, ev_sNil, ev_sSeq, ev_sIf, ev_sRet, ev_sRetO, ev_sRetN, ev_sAsg, ev_sSet, ev_sSetO, ev_sPar, ev_sFor, ev_sWhile, ev_sApp, ev_sIxO, ev_sIxC, ev_sFrz, ev_sExp, ev_sPass, ev_runB, ev_forN, ev_compN, ev_put0, ev_put1, ev_wipe0, ev_wipe1, ev_bnm, ev_btup, ev_bL0, ev_bL1, dv_add, dv_sub, dv_neg, dv_lt, dv_le, dv_gt, dv_ge, dv_int, dv_abs, dv_lenL, dv_lenT, dv_tupL, dv_tupT, dv_lofL, dv_lofT, dv_lofS, dv_seqL, dv_seqT, dv_ixL, dv_ixT, dv_ixO, atI_0, atI_1, atI_2, Option.bind_some, Option.bind_none, List.getElem?_cons_zero, List.getElem?_cons_succ, List.getElem?_nil, List.set_cons_zero, List.set_cons_succ, List.set_nil, List.length_cons, List.length_nil, List.map_cons, List.map_nil, List.replicate_succ, List.replicate_zero, List.cons_append, List.nil_append, Nat.reduceAdd, Nat.reduceSub, Nat.reduceLeDiff, Nat.zero_add, Nat.sub_zero, Nat.add_zero, if_true, if_false, Bool.false_eq_true, Nat.reduceEqDiff, Bool.not_true, Bool.not_false, decide_true, decide_false, ev_nat, dv_eqI, decide_eq_true e8]
      · rw [ev_sPop]
        have b : -9223372036854775808 ≤ k ∧ k < 9223372036854775808 := ⟨by omega, a63⟩
        simp only [ev_C, ev_V, ev_B, ev_aN, ev_aC, ev_Tup, ev_Lst, ev_Bin, ev_Un, ev_UnF, ev_cV, ev_cAnd, ev_cOr, ev_cNot, ev_cYes, ev_And, ev_Or, ev_Not, ev_If, ev_Chain, ev_Call, ev_Ix, ev_Sl, ev_oN, ev_oE, ev_aS, ev_Comp, ev_iAny, ev_iRange1, ev_iRange2, ev_iZip, ev_iEnum, ev_sNil, ev_sSeq, ev_sIf, ev_sRet, ev_sRetO, ev_sRetN, ev_sAsg, ev_sSet, ev_sSetO, ev_sPar, ev_sFor, ev_sWhile, ev_sApp, ev_sIxO, ev_sIxC, ev_sFrz, ev_sExp, ev_sPass, ev_runB, ev_forN, ev_compN, ev_put0, ev_put1, ev_wipe0, ev_wipe1, ev_bnm, ev_btup, ev_bL0, ev_bL1, dv_add, dv_sub, dv_neg, dv_lt, dv_le, dv_gt, dv_ge, dv_int, dv_abs, dv_lenL, dv_lenT, dv_tupL, dv_tupT, dv_lofL, dv_lofT, dv_lofS, dv_seqL, dv_seqT, dv_ixL, dv_ixT, dv_ixO, atI_0, atI_1, atI_2, Option.bind_some, Option.bind_none, List.getElem?_cons_zero, List.getElem?_cons_succ, List.getElem?_nil, List.set_cons_zero, List.set_cons_succ, List.set_nil, List.length_cons, List.length_nil, List.map_cons, List.map_nil, List.replicate_succ, List.replicate_zero, List.cons_append, List.nil_append, Nat.reduceAdd, Nat.reduceSub, Nat.reduceLeDiff, Nat.zero_add, Nat.sub_zero, Nat.add_zero, if_true, if_false, Bool.false_eq_true, Nat.reduceEqDiff, Bool.not_true, Bool.not_false, decide_true, decide_false, ev_nat, ix, if_pos b]
    · by_cases e9 : c = 9
      · obtain ⟨j, t1, j0, j1, e1⟩ := drawE_ex t (ρ := [.val (.obj 0), .val d, .val (.int k), .own (.lst xs), .val (.int c), .non]) (i := 0) (k := eUn dLen (eB 3)) (many := xs.length) rfl rfl (by omega) (wide_sm (by omega))
        obtain ⟨x, ⟨mx, px⟩⟩ := pick_of j0 j1
        refine ⟨xs.take k.toNat ++ [x] ++ xs.drop k.toNat, t1, plL_ins _ _ _ hp (plL_mem hp x mx), (if_f (S' := tp t) ?_).trans ((if_f (S' := tp t) ?_).trans ((if_t (S' := tp t) ?_).trans ?_))⟩
        · simp only [ev_C, ev_V, ev_B, ev_aN, ev_aC, ev_Tup, ev_Lst, ev_Bin, ev_Un, ev_UnF, ev_cV, ev_cAnd, ev_cOr, ev_cNot, ev_cYes, ev_And, ev_Or, ev_Not, ev_If, ev_Chain, ev_Call, ev_Ix, ev_Sl, ev_oN, ev_oE, ev_aS, ev_Comp, ev_iAny, ev_iRange1, ev_iRange2, ev_iZip, ev_iEnum, ev_sNil, ev_sSeq, ev_sIf, ev_sRet, ev_sRetO, ev_sRetN, ev_sAsg, ev_sSet, ev_sSetO, ev_sPar, ev_sFor, ev_sWhile, ev_sApp, ev_sIxO, ev_sIxC, ev_sFrz, ev_sExp, ev_sPass, ev_runB, ev_forN, ev_compN, ev_put0, ev_put1, ev_wipe0, ev_wipe1, ev_bnm, ev_btup, ev_bL0, ev_bL1, dv_add, dv_sub, dv_neg, dv_lt, dv_le, dv_gt, dv_ge, dv_int, dv_abs, dv_lenL, dv_lenT, dv_tupL, dv_tupT, dv_lofL, dv_lofT, dv_lofS, dv_seqL, dv_seqT, dv_ixL, dv_ixT, dv_ixO, atI_0, atI_1, atI_2, Option.bind_some, Option.bind_none, List.getElem?_cons_zero, List.getElem?_cons_succ, List.getElem?_nil, List.set_cons_zero, List.set_cons_succ, List.set_nil, List.length_cons, List.length_nil, List.map_cons, List.map_nil, List.replicate_succ, List.replicate_zero, List.cons_append, List.nil_append, Nat.reduceAdd, Nat.reduceSub, Nat.reduceLeDiff, Nat.zero_add, Nat.sub_zero, Nat.add_zero, if_true, if_false, Bool.false_eq_true, Nat.reduceEqDiff, Bool.not_true, Bool.not_false, decide_true, decide_false, ev_nat, decide_eq_false h8]
        · simp only [ev_C, ev_V, ev_B, ev_aN, ev_aC, ev_Tup, ev_Lst, ev_Bin, ev_Un, ev_UnF, ev_cV, ev_cAnd, ev_cOr, ev_cNot, ev_cYes, ev_And, ev_Or, ev_Not, ev_If, ev_Chain, ev_Call, ev_Ix, ev_Sl, ev_oN, ev_oE, ev_aS, ev_Comp, ev_iAny, ev_iRange1, ev_iRange2, ev_iZip, ev_iEnum, ev_sNil, ev_sSeq, ev_sIf, ev_sRet, ev_sRetO, ev_sRetN, ev_sAsg, ev_sSet, ev_sSetO, ev_sPar, ev_sFor, ev_sWhile, ev_sApp, ev_sIxO, ev_sIxC, ev_sFrz, ev_sExp, ev_sPass, ev_runB, ev_forN, ev_compN, ev_put0, ev_put1, ev_wipe0, ev_wipe1, ev_bnm, ev_btup, ev_bL0, ev_bL1, dv_add, dv_sub, dv_neg, dv_lt, dv_le, dv_gt, dv_ge, dv_int, dv_abs, dv_lenL, dv_lenT, dv_tupL, dv_tupT, dv_lofL, dv_lofT, dv_lofS, dv_seqL, dv_seqT, dv_ixL, dv_ixT, dv_ixO, atI_0, atI_1, atI_2, Option.bind_some, Option.bind_none, List.getElem?_cons_zero, List.getElem?_cons_succ, List.getElem?_nil, List.set_cons_zero, List.set_cons_succ, List.set_nil, List.length_cons, List.length_nil, List.map_cons, List.map_nil, List.replicate_succ, List.replicate_zero, List.cons_append, List.nil_append, Nat.reduceAdd, Nat.reduceSub, Nat.reduceLeDiff, Nat.zero_add, Nat.sub_zero, Nat.add_zero, if_true, if_false, Bool.false_eq_true, Nat.reduceEqDiff, Bool.not_true, Bool.not_false, decide_true, decide_false, ev_nat, dv_eqI, decide_eq_false e8]
        · simp only [ev_C, ev_V, ev_B, ev_aN, ev_aC, ev_Tup, ev_Lst, ev_Bin, ev_Un, ev_UnF, ev_cV, ev_cAnd, ev_cOr, ev_cNot, ev_cYes, ev_And, ev_Or, ev_Not, ev_If, ev_Chain, ev_Call, ev_Ix, ev_Sl, ev_oN, ev_oE, ev_aS, ev_Comp, ev_iAny, ev_iRange1, ev_iRange2, ev_iZip, ev_iEnum, ev_sNil, ev_sSeq, ev_sIf, ev_sRet, ev_sRetO, ev_sRetN, ev_sAsg, ev_sSet, ev_sSetO, ev_sPar, ev_sFor, ev_sWhile, ev_sApp, ev_sIxO, ev_sIxC, ev_sFrz, ev_sExp, ev_sPass, ev_runB, ev_forN, ev_compN, ev_put0, ev_put1, ev_wipe0, ev_wipe1, ev_bnm, ev_btup, ev_bL0, ev_bL1, dv_add, dv_sub, dv_neg, dv_lt, dv_le, dv_gt, dv_ge, dv_int, dv_abs, dv_lenL, dv_lenT, dv_tupL, dv_tupT, dv_lofL, dv_lofT, dv_lofS, dv_seqL, dv_seqT, dv_ixL, dv_ixT, dv_ixO, atI_0, atI_1, atI_2, Option.bind_some, Option.bind_none, List.getElem?_cons_zero, List.getElem?_cons_succ, List.getElem?_nil, List.set_cons_zero, List.set_cons_succ, List.set_nil, List.length_cons, List.length_nil, List.map_cons, List.map_nil, List.replicate_succ, List.replicate_zero, List.cons_append, List.nil_append, Nat.reduceAdd, Nat.reduceSub, Nat.reduceLeDiff, Nat.zero_add, Nat.sub_zero, Nat.add_zero, if_true, if_false, Bool.false_eq_true, Nat.reduceEqDiff, Bool.not_true, Bool.not_false, decide_true, decide_false, ev_nat, dv_eqI, decide_eq_true e9]
        · rw [ev_sIns]
          have b : xs.length < 16777216 ∧ 0 ≤ k ∧ k < 9223372036854775808 := ⟨by omega, k0, a63⟩
          have q : eIx (eB 3) (drawE 0 (eUn dLen (eB 3))) [.val (.obj 0), .val d, .val (.int k), .own (.lst xs), .val (.int c), .non] (tp t) = some (x, tp t1) := ix_s (d := .lst xs) (S' := tp t) rfl e1 px
          simp only [ev_C, ev_V, ev_B, ev_aN, ev_aC, ev_Tup, ev_Lst, ev_Bin, ev_Un, ev_UnF, ev_cV, ev_cAnd, ev_cOr, ev_cNot, ev_cYes, ev_And, ev_Or, ev_Not, ev_If, ev_Chain, ev_Call, ev_Ix, ev_Sl, ev_oN, ev_oE, ev_aS, ev_Comp, ev_iAny, ev_iRange1, ev_iRange2, ev_iZip, ev_iEnum, ev_sNil, ev_sSeq, ev_sIf, ev_sRet, ev_sRetO, ev_sRetN, ev_sAsg, ev_sSet, ev_sSetO, ev_sPar, ev_sFor, ev_sWhile, ev_sApp, ev_sIxO, ev_sIxC, ev_sFrz, ev_sExp, ev_sPass, ev_runB, ev_forN, ev_compN, ev_put0, ev_put1, ev_wipe0, ev_wipe1, ev_bnm, ev_btup, ev_bL0, ev_bL1, dv_add, dv_sub, dv_neg, dv_lt, dv_le, dv_gt, dv_ge, dv_int, dv_abs, dv_lenL, dv_lenT, dv_tupL, dv_tupT, dv_lofL, dv_lofT, dv_lofS, dv_seqL, dv_seqT, dv_ixL, dv_ixT, dv_ixO, atI_0, atI_1, atI_2, Option.bind_some, Option.bind_none, List.getElem?_cons_zero, List.getElem?_cons_succ, List.getElem?_nil, List.set_cons_zero, List.set_cons_succ, List.set_nil, List.length_cons, List.length_nil, List.map_cons, List.map_nil, List.replicate_succ, List.replicate_zero, List.cons_append, List.nil_append, Nat.reduceAdd, Nat.reduceSub, Nat.reduceLeDiff, Nat.zero_add, Nat.sub_zero, Nat.add_zero, if_true, if_false, Bool.false_eq_true, Nat.reduceEqDiff, Bool.not_true, Bool.not_false, decide_true, decide_false, ev_nat, e1, px, if_pos b]
      · by_cases e10 : c = 10
        · refine ⟨xs.reverse, t, plL_of fun x m => plL_mem hp x (List.mem_reverse.mp m), (if_f (S' := tp t) ?_).trans ((if_f (S' := tp t) ?_).trans ((if_f (S' := tp t) ?_).trans ((if_t (S' := tp t) ?_).trans ?_)))⟩
          · simp only [ev_C, ev_V, ev_B, ev_aN, ev_aC, ev_Tup, ev_Lst, ev_Bin, ev_Un, ev_UnF, ev_cV, ev_cAnd, ev_cOr, ev_cNot, ev_cYes, ev_And, ev_Or, ev_Not, ev_If, ev_Chain, ev_Call, ev_Ix, ev_Sl, ev_oN, ev_oE, ev_aS, ev_Comp, ev_iAny, ev_iRange1, ev_iRange2, ev_iZip, ev_iEnum, ev_sNil, ev_sSeq, ev_sIf, ev_sRet, ev_sRetO, ev_sRetN, ev_sAsg, ev_sSet, ev_sSetO, ev_sPar, ev_sFor, ev_sWhile, ev_sApp, ev_sIxO, ev_sIxC, ev_sFrz, ev_sExp, ev_sPass, ev_runB, ev_forN, ev_compN, ev_put0, ev_put1, ev_wipe0, ev_wipe1, ev_bnm, ev_btup, ev_bL0, ev_bL1, dv_add, dv_sub, dv_neg, dv_lt, dv_le, dv_gt, dv_ge, dv_int, dv_abs, dv_lenL, dv_lenT, dv_tupL, dv_tupT, dv_lofL, dv_lofT, dv_lofS, dv_seqL, dv_seqT, dv_ixL, dv_ixT, dv_ixO, atI_0, atI_1, atI_2, Option.bind_some, Option.bind_none, List.getElem?_cons_zero, List.getElem?_cons_succ, List.getElem?_nil, List.set_cons_zero, List.set_cons_succ, List.set_nil, List.length_cons, List.length_nil, List.map_cons, List.map_nil, List.replicate_succ, List.replicate_zero, List.cons_append, List.nil_append, Nat.reduceAdd, Nat.reduceSub, Nat.reduceLeDiff, Nat.zero_add, Nat.sub_zero, Nat.add_zero, if_true, if_false, Bool.false_eq_true, Nat.reduceEqDiff, Bool.not_true, Bool.not_false, decide_true, decide_false, ev_nat, decide_eq_false h8]
          · simp only [ev_C, ev_V, ev_B, ev_aN, ev_aC, ev_Tup, ev_Lst, ev_Bin, ev_Un, ev_UnF, ev_cV, ev_cAnd, ev_cOr, ev_cNot, ev_cYes, ev_And, ev_Or, ev_Not, ev_If, ev_Chain, ev_Call, ev_Ix, ev_Sl, ev_oN, ev_oE, ev_aS, ev_Comp, ev_iAny, ev_iRange1, ev_iRange2, ev_iZip, ev_iEnum, ev_sNil, ev_sSeq, ev_sIf, ev_sRet, ev_sRetO, ev_sRetN, ev_sAsg, ev_sSet, ev_sSetO, ev_sPar, ev_sFor, ev_sWhile, ev_sApp, ev_sIxO, ev_sIxC, ev_sFrz, ev_sExp, ev_sPass, ev_runB, ev_forN, ev_compN, ev_put0, ev_put1, ev_wipe0, ev_wipe1, ev_bnm, ev_btup, ev_bL0, ev_bL1, dv_add, dv_sub, dv_neg, dv_lt, dv_le, dv_gt, dv_ge, dv_int, dv_abs, dv_lenL, dv_lenT, dv_tupL, dv_tupT, dv_lofL, dv_lofT, dv_lofS, dv_seqL, dv_seqT, dv_ixL, dv_ixT, dv_ixO, atI_0, atI_1, atI_2, Option.bind_some, Option.bind_none, List.getElem?_cons_zero, List.getElem?_cons_succ, List.getElem?_nil, List.set_cons_zero, List.set_cons_succ, List.set_nil, List.length_cons, List.length_nil, List.map_cons, List.map_nil, List.replicate_succ, List.replicate_zero, List.cons_append, List.nil_append, Nat.reduceAdd, Nat.reduceSub, Nat.reduceLeDiff, Nat.zero_add, Nat.sub_zero, Nat.add_zero, if_true, if_false, Bool.false_eq_true, Nat.reduceEqDiff, Bool.not_true, Bool.not_false, decide_true, decide_false, ev_nat, dv_eqI, decide_eq_false e8]
          · simp only [ev_C, ev_V, ev_B, ev_aN, ev_aC, ev_Tup, ev_Lst, ev_Bin, ev_Un, ev_UnF, ev_cV, ev_cAnd, ev_cOr, ev_cNot, ev_cYes, ev_And, ev_Or, ev_Not, ev_If, ev_Chain, ev_Call, ev_Ix, ev_Sl, ev_oN, ev_oE, ev_aS, ev_Comp, ev_iAny, ev_iRange1, ev_iRange2, ev_iZip, ev_iEnum, ev_sNil, ev_sSeq, ev_sIf, ev_sRet, ev_sRetO, ev_sRetN, ev_sAsg, ev_sSet, ev_sSetO, ev_sPar, ev_sFor, ev_sWhile, ev_sApp, ev_sIxO, ev_sIxC, ev_sFrz, ev_sExp, ev_sPass, ev_runB, ev_forN, ev_compN, ev_put0, ev_put1, ev_wipe0, ev_wipe1, ev_bnm, ev_btup, ev_bL0, ev_bL1, dv_add, dv_sub, dv_neg, dv_lt, dv_le, dv_gt, dv_ge, dv_int, dv_abs, dv_lenL, dv_lenT, dv_tupL, dv_tupT, dv_lofL, dv_lofT, dv_lofS, dv_seqL, dv_seqT, dv_ixL, dv_ixT, dv_ixO, atI_0, atI_1, atI_2, Option.bind_some, Option.bind_none, List.getElem?_cons_zero, List.getElem?_cons_succ, List.getElem?_nil, List.set_cons_zero, List.set_cons_succ, List.set_nil, List.length_cons, List.length_nil, List.map_cons, List.map_nil, List.replicate_succ, List.replicate_zero, List.cons_append, List.nil_append, Nat.reduceAdd, Nat.reduceSub, Nat.reduceLeDiff, Nat.zero_add, Nat.sub_zero, Nat.add_zero, if_true, if_false, Bool.false_eq_true, Nat.reduceEqDiff, Bool.not_true, Bool.not_false, decide_true, decide_false, ev_nat, dv_eqI, decide_eq_false e9]
          · simp only [ev_C, ev_V, ev_B, ev_aN, ev_aC, ev_Tup, ev_Lst, ev_Bin, ev_Un, ev_UnF, ev_cV, ev_cAnd, ev_cOr, ev_cNot, ev_cYes, ev_And, ev_Or, ev_Not, ev_If, ev_Chain, ev_Call, ev_Ix, ev_Sl, ev_oN, ev_oE, ev_aS, ev_Comp, ev_iAny, ev_iRange1, ev_iRange2, ev_iZip, ev_iEnum, ev_sNil, ev_sSeq, ev_sIf, ev_sRet, ev_sRetO, ev_sRetN, ev_sAsg, ev_sSet, ev_sSetO, ev_sPar, ev_sFor, ev_sWhile, ev_sApp, ev_sIxO, ev_sIxC, ev_sFrz, ev_sExp, ev_sPass, ev_runB, ev_forN, ev_compN, ev_put0, ev_put1, ev_wipe0, ev_wipe1, ev_bnm, ev_btup, ev_bL0, ev_bL1, dv_add, dv_sub, dv_neg, dv_lt, dv_le, dv_gt, dv_ge, dv_int, dv_abs, dv_lenL, dv_lenT, dv_tupL, dv_tupT, dv_lofL, dv_lofT, dv_lofS, dv_seqL, dv_seqT, dv_ixL, dv_ixT, dv_ixO, atI_0, atI_1, atI_2, Option.bind_some, Option.bind_none, List.getElem?_cons_zero, List.getElem?_cons_succ, List.getElem?_nil, List.set_cons_zero, List.set_cons_succ, List.set_nil, List.length_cons, List.length_nil, List.map_cons, List.map_nil, List.replicate_succ, List.replicate_zero, List.cons_append, List.nil_append, Nat.reduceAdd, Nat.reduceSub, Nat.reduceLeDiff, Nat.zero_add, Nat.sub_zero, Nat.add_zero, if_true, if_false, Bool.false_eq_true, Nat.reduceEqDiff, Bool.not_true, Bool.not_false, decide_true, decide_false, ev_nat, dv_eqI, decide_eq_true e10]
          · rfl
        · obtain ⟨r, t', hr, e⟩ := any_ex 3 1 (by decide) t
          refine ⟨xs.take k.toNat ++ [r] ++ xs.drop k.toNat, t', plL_ins _ _ _ hp hr, (if_f (S' := tp t) ?_).trans ((if_f (S' := tp t) ?_).trans ((if_f (S' := tp t) ?_).trans ((if_f (S' := tp t) ?_).trans ?_)))⟩
          · simp only [ev_C, ev_V, ev_B, ev_aN, ev_aC, ev_Tup, ev_Lst, ev_Bin, ev_Un, ev_UnF, ev_cV, ev_cAnd, ev_cOr, ev_cNot, ev_cYes, ev_And, ev_Or, ev_Not, ev_If, ev_Chain, ev_Call, ev_Ix, ev_Sl, ev_oN, ev_oE, ev_aS, ev_Comp, ev_iAny, ev_iRange1, ev_iRange2, ev_iZip, ev_iEnum, ev_sNil, ev_sSeq, ev_sIf, ev_sRet, ev_sRetO, ev_sRetN, ev_sAsg, ev_sSet, ev_sSetO, ev_sPar, ev_sFor, ev_sWhile, ev_sApp, ev_sIxO, ev_sIxC, ev_sFrz, ev_sExp, ev_sPass, ev_runB, ev_forN, ev_compN, ev_put0, ev_put1, ev_wipe0, ev_wipe1, ev_bnm, ev_btup, ev_bL0, ev_bL1, dv_add, dv_sub, dv_neg, dv_lt, dv_le, dv_gt, dv_ge, dv_int, dv_abs, dv_lenL, dv_lenT, dv_tupL, dv_tupT, dv_lofL, dv_lofT, dv_lofS, dv_seqL, dv_seqT, dv_ixL, dv_ixT, dv_ixO, atI_0, atI_1, atI_2, Option.bind_some, Option.bind_none, List.getElem?_cons_zero, List.getElem?_cons_succ, List.getElem?_nil, List.set_cons_zero, List.set_cons_succ, List.set_nil, List.length_cons, List.length_nil, List.map_cons, List.map_nil, List.replicate_succ, List.replicate_zero, List.cons_append, List.nil_append, Nat.reduceAdd, Nat.reduceSub, Nat.reduceLeDiff, Nat.zero_add, Nat.sub_zero, Nat.add_zero, if_true, if_false, Bool.false_eq_true, Nat.reduceEqDiff, Bool.not_true, Bool.not_false, decide_true, decide_false, ev_nat, decide_eq_false h8]
          · simp only [ev_C, ev_V, ev_B, ev_aN, ev_aC, ev_Tup, ev_Lst, ev_Bin, ev_Un, ev_UnF, ev_cV, ev_cAnd, ev_cOr, ev_cNot, ev_cYes, ev_And, ev_Or, ev_Not, ev_If, ev_Chain, ev_Call, ev_Ix, ev_Sl, ev_oN, ev_oE, ev_aS, ev_Comp, ev_iAny, ev_iRange1, ev_iRange2, ev_iZip, ev_iEnum, ev_sNil, ev_sSeq, ev_sIf, ev_sRet, ev_sRetO, ev_sRetN, ev_sAsg, ev_sSet, ev_sSetO, ev_sPar, ev_sFor, ev_sWhile, ev_sApp, ev_sIxO, ev_sIxC, ev_sFrz, ev_sExp, ev_sPass, ev_runB, ev_forN, ev_compN, ev_put0, ev_put1, ev_wipe0, ev_wipe1, ev_bnm, ev_btup, ev_bL0, ev_bL1, dv_add, dv_sub, dv_neg, dv_lt, dv_le, dv_gt, dv_ge, dv_int, dv_abs, dv_lenL, dv_lenT, dv_tupL, dv_tupT, dv_lofL, dv_lofT, dv_lofS, dv_seqL, dv_seqT, dv_ixL, dv_ixT, dv_ixO, atI_0, atI_1, atI_2, Option.bind_some, Option.bind_none, List.getElem?_cons_zero, List.getElem?_cons_succ, List.getElem?_nil, List.set_cons_zero, List.set_cons_succ, List.set_nil, List.length_cons, List.length_nil, List.map_cons, List.map_nil, List.replicate_succ, List.replicate_zero, List.cons_append, List.nil_append, Nat.reduceAdd, Nat.reduceSub, Nat.reduceLeDiff, Nat.zero_add, Nat.sub_zero, Nat.add_zero, if_true, if_false, Bool.false_eq_true, Nat.reduceEqDiff, Bool.not_true, Bool.not_false, decide_true, decide_false, ev_nat, dv_eqI, decide_eq_false e8]
          · simp only [ev_C, ev_V, ev_B, ev_aN, ev_aC, ev_Tup, ev_Lst, ev_Bin, ev_Un, ev_UnF, ev_cV, ev_cAnd, ev_cOr, ev_cNot, ev_cYes, ev_And, ev_Or, ev_Not, ev_If, ev_Chain, ev_Call, ev_Ix, ev_Sl, ev_oN, ev_oE, ev_aS, ev_Comp, ev_iAny, ev_iRange1, ev_iRange2, ev_iZip, ev_iEnum, ev_sNil, ev_sSeq, ev_sIf, ev_sRet, ev_sRetO, ev_sRetN, ev_sAsg, ev_sSet, ev_sSetO, ev_sPar, ev_sFor, ev_sWhile, ev_sApp, ev_sIxO, ev_sIxC, ev_sFrz, ev_sExp, ev_sPass, ev_runB, ev_forN, ev_compN, ev_put0, ev_put1, ev_wipe0, ev_wipe1, ev_bnm, ev_btup, ev_bL0, ev_bL1, dv_add, dv_sub, dv_neg, dv_lt, dv_le, dv_gt, dv_ge, dv_int, dv_abs, dv_lenL, dv_lenT, dv_tupL, dv_tupT, dv_lofL, dv_lofT, dv_lofS, dv_seqL, dv_seqT, dv_ixL, dv_ixT, dv_ixO, atI_0, atI_1, atI_2, Option.bind_some, Option.bind_none, List.getElem?_cons_zero, List.getElem?_cons_succ, List.getElem?_nil, List.set_cons_zero, List.set_cons_succ, List.set_nil, List.length_cons, List.length_nil, List.map_cons, List.map_nil, List.replicate_succ, List.replicate_zero, List.cons_append, List.nil_append, Nat.reduceAdd, Nat.reduceSub, Nat.reduceLeDiff, Nat.zero_add, Nat.sub_zero, Nat.add_zero, if_true, if_false, Bool.false_eq_true, Nat.reduceEqDiff, Bool.not_true, Bool.not_false, decide_true, decide_false, ev_nat, dv_eqI, decide_eq_false e9]
          · simp only [ev_C, ev_V, ev_B, ev_aN, ev_aC, ev_Tup, ev_Lst, ev_Bin, ev_Un, ev_UnF, ev_cV, ev_cAnd, ev_cOr, ev_cNot, ev_cYes, ev_And, ev_Or, ev_Not, ev_If, ev_Chain, ev_Call, ev_Ix, ev_Sl, ev_oN, ev_oE, ev_aS, ev_Comp, ev_iAny, ev_iRange1, ev_iRange2, ev_iZip, ev_iEnum, ev_sNil, ev_sSeq, ev_sIf, ev_sRet, ev_sRetO, ev_sRetN, ev_sAsg, ev_sSet, ev_sSetO, ev_sPar, ev_sFor, ev_sWhile, ev_sApp, ev_sIxO, ev_sIxC, ev_sFrz, ev_sExp, ev_sPass, ev_runB, ev_forN, ev_compN, ev_put0, ev_put1, ev_wipe0, ev_wipe1, ev_bnm, ev_btup, ev_bL0, ev_bL1, dv_add, dv_sub, dv_neg, dv_lt, dv_le, dv_gt, dv_ge, dv_int, dv_abs, dv_lenL, dv_lenT, dv_tupL, dv_tupT, dv_lofL, dv_lofT, dv_lofS, dv_seqL, dv_seqT, dv_ixL, dv_ixT, dv_ixO, atI_0, atI_1, atI_2, Option.bind_some, Option.bind_none, List.getElem?_cons_zero, List.getElem?_cons_succ, List.getElem?_nil, List.set_cons_zero, List.set_cons_succ, List.set_nil, List.length_cons, List.length_nil, List.map_cons, List.map_nil, List.replicate_succ, List.replicate_zero, List.cons_append, List.nil_append, Nat.reduceAdd, Nat.reduceSub, Nat.reduceLeDiff, Nat.zero_add, Nat.sub_zero, Nat.add_zero, if_true, if_false, Bool.false_eq_true, Nat.reduceEqDiff, Bool.not_true, Bool.not_false, decide_true, decide_false, ev_nat, dv_eqI, decide_eq_false e10]
          · rw [ev_sIns]
            have b : xs.length < 16777216 ∧ 0 ≤ k ∧ k < 9223372036854775808 := ⟨by omega, k0, a63⟩
            have q : eCall 2 (m_law_any 3) (aC (eV 0) (aC (eC (.int 1)) aN)) [.val (.obj 0), .val d, .val (.int k), .own (.lst xs), .val (.int c), .non] (tp t) = some (r, tp t') := call_s (ds := [.obj 0, .int 1]) (S' := tp t) rfl rfl e
            have e' : m_law_any 3 [D.obj 0, D.int 1] (tp t) = some (r, tp t') := e
            simp only [ev_C, ev_V, ev_B, ev_aN, ev_aC, ev_Tup, ev_Lst, ev_Bin, ev_Un, ev_UnF, ev_cV, ev_cAnd, ev_cOr, ev_cNot, ev_cYes, ev_And, ev_Or, ev_Not, ev_If, ev_Chain, ev_Call, ev_Ix, ev_Sl, ev_oN, ev_oE, ev_aS, ev_Comp, ev_iAny, ev_iRange1, ev_iRange2, ev_iZip, ev_iEnum, ev_sNil, ev_sSeq, ev_sIf, ev_sRet, ev_sRetO, ev_sRetN, ev_sAsg, ev_sSet, ev_sSetO, ev_sPar, ev_sFor, ev_sWhile, ev_sApp, ev_sIxO, ev_sIxC, ev_sFrz, ev_sExp, ev_sPass, ev_runB, ev_forN, ev_compN, ev_put0, ev_put1, ev_wipe0, ev_wipe1, ev_bnm, ev_btup, ev_bL0, ev_bL1, dv_add, dv_sub, dv_neg, dv_lt, dv_le, dv_gt, dv_ge, dv_int, dv_abs, dv_lenL, dv_lenT, dv_tupL, dv_tupT, dv_lofL, dv_lofT, dv_lofS, dv_seqL, dv_seqT, dv_ixL, dv_ixT, dv_ixO, atI_0, atI_1, atI_2, Option.bind_some, Option.bind_none, List.getElem?_cons_zero, List.getElem?_cons_succ, List.getElem?_nil, List.set_cons_zero, List.set_cons_succ, List.set_nil, List.length_cons, List.length_nil, List.map_cons, List.map_nil, List.replicate_succ, List.replicate_zero, List.cons_append, List.nil_append, Nat.reduceAdd, Nat.reduceSub, Nat.reduceLeDiff, Nat.zero_add, Nat.sub_zero, Nat.add_zero, if_true, if_false, Bool.false_eq_true, Nat.reduceEqDiff, Bool.not_true, Bool.not_false, decide_true, decide_false, ev_nat, e', if_pos b]
theorem spA_ex (m : List D → List D → Option (D × List D)) (d : D) (xs : List D) (t : Tape) (hd : d = .tup xs ∨ d = .lst xs) (hne : 0 < xs.length) (hl : xs.length ≤ 1000) (hp : plL xs = true)
    (hm : ∀ x ∈ xs, ∀ t, ∃ r t', plD r = true ∧ m [.obj 0, x] (tp t) = some (r, tp t')) : Ends (spA m) [.val (.obj 0), .val d, .non, .non, .non, .non] t := by
  have hlen : dLen d = some (.int xs.length) := by rcases hd with rfl | rfl <;> rfl
  have hlo : lOf d = some xs := by rcases hd with rfl | rfl <;> rfl
  obtain ⟨k, t1, k0, k1, e1⟩ := drawE_ex t (ρ := [.val (.obj 0), .val d, .non, .non, .non, .non]) (i := 0) (k := eUn dLen (eB 1)) (many := xs.length) rfl (un_s (d := d) (S' := tp t) rfl hlen) (by omega) (wide_sm (by omega))
  obtain ⟨c, t2, c0, c1, e2⟩ := drawE_ex t1 (ρ := [.val (.obj 0), .val d, .val (.int k), .own (.lst xs), .non, .non]) (i := 0) (k := eC (.int 12)) rfl rfl (by decide) (wide_sm (by decide))
  obtain ⟨ys, t3, hys, e3⟩ := spB_ex m d xs k c t2 k0 k1 c0 hl hp hm
  have lo : sSetO 3 (eUnF lOf (eB 1)) [.val (.obj 0), .val d, .val (.int k), .non, .non, .non] (tp t1) = some (.nx [.val (.obj 0), .val d, .val (.int k), .own (.lst xs), .non, .non] (tp t1)) := by
    rw [ev_sSetO, ev_UnF, ev_B]
    simp only [List.getElem?_cons_zero, List.getElem?_cons_succ, Option.bind_some, hlo]
    rfl
  unfold spA
  rcases hd with rfl | rfl
  · exact ⟨.tup ys, t3, by simpa [plD] using hys, (seq_nx (set_s e1)).trans ((seq_nx lo).trans ((seq_nx (set_s e2)).trans ((seq_nx e3).trans rfl)))⟩
  · exact ⟨.lst ys, t3, by simpa [plD] using hys, (seq_nx (set_s e1)).trans ((seq_nx lo).trans ((seq_nx (set_s e2)).trans ((seq_nx e3).trans rfl)))⟩
theorem spoilt_ex : ∀ (n : Nat) (d : D), lkS n d = true → ∀ t, ∃ r t', plD r = true ∧ m_law_spoilt (n + 1) [.obj 0, d] (tp t) = some (r, tp t') := by
  intro n
  induction n with
  | zero =>
    intro d h t
    rw [m_law_spoilt_succ, g_law_spoilt_is]
    have hf : isLT d = some false := by cases d <;> first | rfl | (simp [lkS] at h)
    obtain ⟨r, t', hr, e⟩ := spW_ex d t (lkS_pl 0 d h) (fun x e => by subst e; simp only [lkS, Bool.and_eq_true, decide_eq_true_eq] at h; exact h.2)
    refine ⟨r, t', hr, run_rt (ρ := [.val (.obj 0), .val d, .non, .non, .non, .non]) rfl ((seq_nx ((if_f (S' := tp t) ?_).trans rfl)).trans e)⟩
    simp only [ev_C, ev_V, ev_B, ev_aN, ev_aC, ev_Tup, ev_Lst, ev_Bin, ev_Un, ev_UnF, ev_cV, ev_cAnd, ev_cOr, ev_cNot, ev_cYes, ev_And, ev_Or, ev_Not, ev_If, ev_Chain, ev_Call, ev_Ix, ev_Sl, ev_oN, ev_oE, ev_aS, ev_Comp, ev_iAny, ev_iRange1, ev_iRange2, ev_iZip, ev_iEnum, ev_sNil, ev_sSeq, ev_sIf, ev_sRet, ev_sRetO, ev_sRetN, ev_sAsg, ev_sSet, ev_sSetO, ev_sPar, ev_sFor, ev_sWhile, ev_sApp, ev_sIxO, ev_sIxC, ev_sFrz, ev_sExp, ev_sPass, ev_runB, ev_forN, ev_compN, ev_put0, ev_put1, ev_wipe0, ev_wipe1, ev_bnm, ev_btup, ev_bL0, ev_bL1, dv_add, dv_sub, dv_neg, dv_lt, dv_le, dv_gt, dv_ge, dv_int, dv_abs, dv_lenL, dv_lenT, dv_tupL, dv_tupT, dv_lofL, dv_lofT, dv_lofS, dv_seqL, dv_seqT, dv_ixL, dv_ixT, dv_ixO, atI_0, atI_1, atI_2, Option.bind_some, Option.bind_none, List.getElem?_cons_zero, List.getElem?_cons_succ, List.getElem?_nil, List.set_cons_zero, List.set_cons_succ, List.set_nil, List.length_cons, List.length_nil, List.map_cons, List.map_nil, List.replicate_succ, List.replicate_zero, List.cons_append, List.nil_append, Nat.reduceAdd, Nat.reduceSub, Nat.reduceLeDiff, Nat.zero_add, Nat.sub_zero, Nat.add_zero, if_true, if_false, Bool.false_eq_true, Nat.reduceEqDiff, Bool.not_true, Bool.not_false, decide_true, decide_false, ev_nat, dIs, hf]
  | succ n ih =>
    intro d h t
    rw [m_law_spoilt_succ, g_law_spoilt_is]
    have hpl := lkS_pl _ d h
    by_cases hl : ∃ xs, (d = .tup xs ∨ d = .lst xs) ∧ 0 < xs.length
    · obtain ⟨xs, hd, hne⟩ := hl
      have hx : xs.length ≤ 1000 ∧ lkSL n xs = true := by
        rcases hd with rfl | rfl <;> (simp only [lkS, Bool.and_eq_true, decide_eq_true_eq] at h; exact h)
      have hlt : isLT d = some true := by rcases hd with rfl | rfl <;> rfl
      have hlen : dLen d = some (.int xs.length) := by rcases hd with rfl | rfl <;> rfl
      have hne' : (0 : Int) < xs.length := by omega
      obtain ⟨k, t1, k0, k1, e1⟩ := drawE_ex t (ρ := [.val (.obj 0), .val d, .non, .non, .non, .non]) (i := 0) (k := eC (.int 7)) rfl rfl (by decide) (wide_sm (by decide))
      have hc : cAnd (cV (eUn (dIs isLT) (eB 1))) (cAnd (cV (eBin dGt (eUn dLen (eB 1)) (eC (.int 0)))) (cV (eBin dGt (drawE 0 (eC (.int 7))) (eC (.int 0))))) [.val (.obj 0), .val d, .non, .non, .non, .non] (tp t) = some (decide (0 < k), tp t1) := by
        simp only [ev_C, ev_V, ev_B, ev_aN, ev_aC, ev_Tup, ev_Lst, ev_Bin, ev_Un, ev_UnF, ev_cV, ev_cAnd, ev_cOr, ev_cNot, ev_cYes, ev_And, ev_Or, ev_Not, ev_If, ev_Chain, ev_Call, ev_Ix, ev_Sl, ev_oN, ev_oE, ev_aS, ev_Comp, ev_iAny, ev_iRange1, ev_iRange2, ev_iZip, ev_iEnum, ev_sNil, ev_sSeq, ev_sIf, ev_sRet, ev_sRetO, ev_sRetN, ev_sAsg, ev_sSet, ev_sSetO, ev_sPar, ev_sFor, ev_sWhile, ev_sApp, ev_sIxO, ev_sIxC, ev_sFrz, ev_sExp, ev_sPass, ev_runB, ev_forN, ev_compN, ev_put0, ev_put1, ev_wipe0, ev_wipe1, ev_bnm, ev_btup, ev_bL0, ev_bL1, dv_add, dv_sub, dv_neg, dv_lt, dv_le, dv_gt, dv_ge, dv_int, dv_abs, dv_lenL, dv_lenT, dv_tupL, dv_tupT, dv_lofL, dv_lofT, dv_lofS, dv_seqL, dv_seqT, dv_ixL, dv_ixT, dv_ixO, atI_0, atI_1, atI_2, Option.bind_some, Option.bind_none, List.getElem?_cons_zero, List.getElem?_cons_succ, List.getElem?_nil, List.set_cons_zero, List.set_cons_succ, List.set_nil, List.length_cons, List.length_nil, List.map_cons, List.map_nil, List.replicate_succ, List.replicate_zero, List.cons_append, List.nil_append, Nat.reduceAdd, Nat.reduceSub, Nat.reduceLeDiff, Nat.zero_add, Nat.sub_zero, Nat.add_zero, if_true, if_false, Bool.false_eq_true, Nat.reduceEqDiff, Bool.not_true, Bool.not_false, decide_true, decide_false, ev_nat, dIs, hlt, hlen, decide_eq_true hne', e1]
      by_cases hk : 0 < k
      · obtain ⟨r, t', hr, e⟩ := spA_ex (m_law_spoilt (n + 1)) d xs t1 hd hne hx.1 (lkSL_pl n xs hx.2) (fun x m t => ih x (lkSL_mem hx.2 x m) t)
        exact ⟨r, t', hr, run_rt (ρ := [.val (.obj 0), .val d, .non, .non, .non, .non]) rfl (seq_rt ((if_t (S' := tp t1) (by rw [hc, decide_eq_true hk])).trans e))⟩
      · obtain ⟨r, t', hr, e⟩ := spW_ex d t1 hpl (fun x e => by subst e; rcases hd with z | z <;> cases z)
        exact ⟨r, t', hr, run_rt (ρ := [.val (.obj 0), .val d, .non, .non, .non, .non]) rfl ((seq_nx ((if_f (S' := tp t1) (by rw [hc, decide_eq_false hk])).trans rfl)).trans e)⟩
    · have hc : cAnd (cV (eUn (dIs isLT) (eB 1))) (cAnd (cV (eBin dGt (eUn dLen (eB 1)) (eC (.int 0)))) (cV (eBin dGt (drawE 0 (eC (.int 7))) (eC (.int 0))))) [.val (.obj 0), .val d, .non, .non, .non, .non] (tp t) = some (false, tp t) := by
        by_cases hlt : isLT d = some true
        · obtain ⟨xs, hd⟩ : ∃ xs, d = .tup xs ∨ d = .lst xs := by cases d <;> first | exact ⟨_, .inl rfl⟩ | exact ⟨_, .inr rfl⟩ | cases hlt
          have : ¬ (0 : Int) < xs.length := fun z => hl ⟨xs, hd, by omega⟩
          have hlen : dLen d = some (.int xs.length) := by rcases hd with rfl | rfl <;> rfl
          simp only [ev_C, ev_V, ev_B, ev_aN, ev_aC, ev_Tup, ev_Lst, ev_Bin, ev_Un, ev_UnF, ev_cV, ev_cAnd, ev_cOr, ev_cNot, ev_cYes, ev_And, ev_Or, ev_Not, ev_If, ev_Chain, ev_Call, ev_Ix, ev_Sl, ev_oN, ev_oE, ev_aS, ev_Comp, ev_iAny, ev_iRange1, ev_iRange2, ev_iZip, ev_iEnum, ev_sNil, ev_sSeq, ev_sIf, ev_sRet, ev_sRetO, ev_sRetN, ev_sAsg, ev_sSet, ev_sSetO, ev_sPar, ev_sFor, ev_sWhile, ev_sApp, ev_sIxO, ev_sIxC, ev_sFrz, ev_sExp, ev_sPass, ev_runB, ev_forN, ev_compN, ev_put0, ev_put1, ev_wipe0, ev_wipe1, ev_bnm, ev_btup, ev_bL0, ev_bL1, dv_add, dv_sub, dv_neg, dv_lt, dv_le, dv_gt, dv_ge, dv_int, dv_abs, dv_lenL, dv_lenT, dv_tupL, dv_tupT, dv_lofL, dv_lofT, dv_lofS, dv_seqL, dv_seqT, dv_ixL, dv_ixT, dv_ixO, atI_0, atI_1, atI_2, Option.bind_some, Option.bind_none, List.getElem?_cons_zero, List.getElem?_cons_succ, List.getElem?_nil, List.set_cons_zero, List.set_cons_succ, List.set_nil, List.length_cons, List.length_nil, List.map_cons, List.map_nil, List.replicate_succ, List.replicate_zero, List.cons_append, List.nil_append, Nat.reduceAdd, Nat.reduceSub, Nat.reduceLeDiff, Nat.zero_add, Nat.sub_zero, Nat.add_zero, if_true, if_false, Bool.false_eq_true, Nat.reduceEqDiff, Bool.not_true, Bool.not_false, decide_true, decide_false, ev_nat, dIs, hlt, hlen, decide_eq_false this]
        · have hf : isLT d = some false := by cases d <;> first | rfl | exact absurd rfl hlt | (simp [plD] at hpl)
          simp only [ev_C, ev_V, ev_B, ev_aN, ev_aC, ev_Tup, ev_Lst, ev_Bin, ev_Un, ev_UnF, ev_cV, ev_cAnd, ev_cOr, ev_cNot, ev_cYes, ev_And, ev_Or, ev_Not, ev_If, ev_Chain, ev_Call, ev_Ix, ev_Sl, ev_oN, ev_oE, ev_aS, ev_Comp, ev_iAny, ev_iRange1, ev_iRange2, ev_iZip, ev_iEnum, ev_sNil, ev_sSeq, ev_sIf, ev_sRet, ev_sRetO, ev_sRetN, ev_sAsg, ev_sSet, ev_sSetO, ev_sPar, ev_sFor, ev_sWhile, ev_sApp, ev_sIxO, ev_sIxC, ev_sFrz, ev_sExp, ev_sPass, ev_runB, ev_forN, ev_compN, ev_put0, ev_put1, ev_wipe0, ev_wipe1, ev_bnm, ev_btup, ev_bL0, ev_bL1, dv_add, dv_sub, dv_neg, dv_lt, dv_le, dv_gt, dv_ge, dv_int, dv_abs, dv_lenL, dv_lenT, dv_tupL, dv_tupT, dv_lofL, dv_lofT, dv_lofS, dv_seqL, dv_seqT, dv_ixL, dv_ixT, dv_ixO, atI_0, atI_1, atI_2, Option.bind_some, Option.bind_none, List.getElem?_cons_zero, List.getElem?_cons_succ, List.getElem?_nil, List.set_cons_zero, List.set_cons_succ, List.set_nil, List.length_cons, List.length_nil, List.map_cons, List.map_nil, List.replicate_succ, List.replicate_zero, List.cons_append, List.nil_append, Nat.reduceAdd, Nat.reduceSub, Nat.reduceLeDiff, Nat.zero_add, Nat.sub_zero, Nat.add_zero, if_true, if_false, Bool.false_eq_true, Nat.reduceEqDiff, Bool.not_true, Bool.not_false, decide_true, decide_false, ev_nat, dIs, hf]
      obtain ⟨r, t', hr, e⟩ := spW_ex d t hpl (fun x e => by subst e; simp only [lkS, Bool.and_eq_true, decide_eq_true_eq] at h; exact h.2)
      exact ⟨r, t', hr, run_rt (ρ := [.val (.obj 0), .val d, .non, .non, .non, .non]) rfl ((seq_nx ((if_f (S' := tp t) hc).trans rfl)).trans e)⟩
end K
namespace K
open DL
open L2 (atI ixN)
def handOk : D → Bool
  | .int i => (decide (-1000000 ≤ i) && decide (i ≤ 1000000)) && !decide (i = 0)
  | _ => false
def intV : D → Int
  | .int i => i
  | _ => 0
def handsOk : D → Bool
  | .tup hs => (decide (2 ≤ hs.length) && decide (hs.length ≤ 4)) && (hs.all handOk && decide (gcdL (hs.map intV) = 1))
  | _ => false
theorem dne_i0 (i : Int) : dNe (.int i) (.int 0) = some (.bl (!decide (i = 0))) := by
  unfold dNe
  simp only [okD, Bool.and_self, if_true, eqD, Bool.beq_eq_decide_eq]
theorem ints_of : ∀ (hs : List D), hs.all handOk = true → ∃ is : List Int, hs = is.map .int ∧ (hs.map intV) = is
  | [], _ => ⟨[], rfl, rfl⟩
  | h :: hs, e => by
    simp only [List.all_cons, Bool.and_eq_true] at e
    obtain ⟨is, e1, e2⟩ := ints_of hs e.2
    cases h with
    | int i => exact ⟨i :: is, by rw [e1]; rfl, by rw [List.map_cons, e2]; rfl⟩
    | _ => exact absurd e.1 (by simp [handOk])
theorem m_common_divisor_eq (is : List Int) (S : List D) : m_common_divisor [.tup (is.map .int)] S = some (.int (gcdL is), S) := by
  unfold m_common_divisor g_common_divisor
  refine run_rt (ρ := [.val (.tup (is.map .int)), .non, .non]) rfl ?_
  refine (seq_nx (set_s (d := .int 0) (S' := S) rfl)).trans ?_
  have q := (forL_fold (p := .nm 2) (g := (sSet 1 (eCall 2 m_divisor (aC (eV 1) (aC (eV 2) aN))))) (D.int) (fun (s : Nat × Slot) => [.val (.tup (is.map .int)), .val (.int s.1), s.2]) (fun s h => (Nat.gcd s.1 h.natAbs, .val (.int h))) S (fun _ => True)
    (fun s h _ => ⟨_, ev_bnm _ _, by
      rw [ev_put1, ev_put0]
      refine set_s (call_s (ds := [.int s.1, .int h]) (S' := S) rfl rfl ?_)
      rw [m_divisor_eq]
      rfl, trivial⟩) is (0, .non) trivial).1
  have e : ∀ (l : List Int) (g : Nat) (y : Slot), (l.foldl (fun (s : Nat × Slot) h => (Nat.gcd s.1 h.natAbs, Slot.val (.int h))) (g, y)).1 = l.foldl (fun g h => Nat.gcd g h.natAbs) g := by
    intro l
    induction l with
    | nil => intro g y; rfl
    | cons z l ih => intro g y; rw [List.foldl_cons, ih]; rfl
  refine (seq_nx (for_s (ds := is.map .int) (S' := S) rfl q)).trans ?_
  have e2 := e is 0 .non
  generalize is.foldl (fun (s : Nat × Slot) h => (Nat.gcd s.1 h.natAbs, Slot.val (.int h))) (0, .non) = z at e2
  refine (ret_s (d := .int z.1) (S' := S) rfl).trans ?_
  rw [e2]
  rfl
theorem dall_map {β : Type} (p : β → Bool) (l : List β) : dAll (.lst (l.map fun h => D.bl (p h))) = some (.bl (l.all p)) := by
  show (blsD (l.map fun h => D.bl (p h))).map _ = _
  have : (l.map fun h => D.bl (p h)) = (l.map p).map D.bl := by rw [List.map_map]; rfl
  rw [this, blsD_map]
  show some (D.bl ((l.map p).all id)) = _
  rw [List.all_map]; rfl
theorem is_hand (ρ : List Slot) (h : D) (S : List D) (hp : plain h = true) (h1 : ρ[1]? = some (.val h)) : eAnd (eCall 3 m_is_integer (aC (eV 1) (aC (eUn dNeg (eC k_FASTEST)) (aC (eC k_FASTEST) aN)))) (eBin dNe (eB 1) (eC (.int 0))) ρ S = some (.bl (handOk h), S) := by
  have c : eCall 3 m_is_integer (aC (eV 1) (aC (eUn dNeg (eC k_FASTEST)) (aC (eC k_FASTEST) aN))) ρ S = some (.bl (inR h (-1000000) 1000000), S) := by
    refine call_s (ds := [h, .int (-1000000), .int 1000000]) (S' := S) ?_ rfl (m_is_integer_eq h _ _ S hp)
    rw [ev_aC, ev_V, h1]; rfl
  rw [ev_And, c]
  cases h with
  | int i =>
    cases hr : (decide (-1000000 ≤ i) && decide (i ≤ 1000000)) with
    | false =>
      have e : inR (.int i) (-1000000) 1000000 = false := hr
      rw [e]
      show some (D.bl false, S) = some (D.bl ((decide (-1000000 ≤ i) && decide (i ≤ 1000000)) && !decide (i = 0)), S)
      rw [hr]; rfl
    | true =>
      have e : inR (.int i) (-1000000) 1000000 = true := hr
      rw [e]
      show eBin dNe (eB 1) (eC (.int 0)) ρ S = some (D.bl ((decide (-1000000 ≤ i) && decide (i ≤ 1000000)) && !decide (i = 0)), S)
      rw [hr, Bool.true_and]
      exact bin_s (d := .int i) (S' := S) (by rw [ev_B, h1]) rfl (dne_i0 i)
  | _ => rfl
theorem m_are_hands_eq (d : D) (S : List D) (h : plD d = true) : m_are_hands [d] S = some (.bl (handsOk d), S) := by
  unfold m_are_hands g_are_hands
  refine run_rt (ρ := [.val d, .non]) rfl ?_
  by_cases ht : ∃ hs, d = .tup hs
  · obtain ⟨hs, rfl⟩ := ht
    have hpl : plL hs = true := by simpa [plD] using h
    have c1 := chain_le (fa := eC (.int 2)) (fb := eUn dLen (eB 0)) (fz := eC (.int 4)) (ρ := [.val (.tup hs), .non]) (S := S) (S1 := S) (S2 := S) (S3 := S) (a := 2) (b := hs.length) (c := 4) rfl rfl rfl
    have c2 : cOr (cNot (cV (eUn (dIs isTp) (eB 0)))) (cNot (cV (eChain dLe dLe (eC (.int 2)) (eUn dLen (eB 0)) (eC (.int 4))))) [.val (.tup hs), .non] S = some (!(decide ((2 : Int) ≤ hs.length) && decide ((hs.length : Int) ≤ 4)), S) := by
      exact Eq.trans (b := cNot (cV (eChain dLe dLe (eC (.int 2)) (eUn dLen (eB 0)) (eC (.int 4)))) [.val (.tup hs), .non] S) rfl (cNot_s (cV_s c1))
    have e2 : (decide ((2 : Int) ≤ hs.length) && decide ((hs.length : Int) ≤ 4)) = (decide (2 ≤ hs.length) && decide (hs.length ≤ 4)) := by
      congr 1 <;> exact decide_eq_decide.mpr (by omega)
    rw [e2] at c2
    have hres : handsOk (.tup hs) = ((decide (2 ≤ hs.length) && decide (hs.length ≤ 4)) && (hs.all handOk && decide (gcdL (hs.map intV) = 1))) := rfl
    rw [hres]
    cases hb : (decide (2 ≤ hs.length) && decide (hs.length ≤ 4)) with
    | false =>
      rw [hb] at c2
      exact (seq_rt ((if_t c2).trans rfl))
    | true =>
      rw [hb] at c2
      have hlen : hs.length ≤ 4 := by
        simp only [Bool.and_eq_true, decide_eq_true_eq] at hb; exact hb.2
      refine (seq_nx ((if_f c2).trans rfl)).trans ?_
      have cm : eUn dAll (eComp (.nm 1) (iAny (eV 0)) cYes (eAnd (eCall 3 m_is_integer (aC (eV 1) (aC (eUn dNeg (eC k_FASTEST)) (aC (eC k_FASTEST) aN)))) (eBin dNe (eB 1) (eC (.int 0)))) [1]) [.val (.tup hs), .non] S = some (.bl (hs.all handOk), S) := by
        refine un_s (d := .lst (hs.map fun h => .bl (handOk h))) (S' := S) ?_ (dall_map handOk hs)
        refine comp_s (ds := hs) (S' := S) rfl (by omega) ?_
        have q := compL_map (p := .nm 1) (f := (eAnd (eCall 3 m_is_integer (aC (eV 1) (aC (eUn dNeg (eC k_FASTEST)) (aC (eC k_FASTEST) aN)))) (eBin dNe (eB 1) (eC (.int 0))))) (ρ := [.val (.tup hs), .non]) (S := S) (fun (x : D) => x) (fun h => D.bl (handOk h)) hs (fun x m => ⟨_, ev_bnm _ _, is_hand _ x S (plD_plain (plL_mem hpl x m)) rfl⟩)
        rw [show hs.map (fun (x : D) => x) = hs from List.map_id' hs] at q
        exact q
      cases ha : hs.all handOk with
      | false =>
        rw [ha] at cm
        exact seq_rt ((if_t (S' := S) (cNot_s (k := false) (cV_s cm))).trans rfl)
      | true =>
        rw [ha] at cm
        refine (seq_nx ((if_f (S' := S) (cNot_s (k := true) (cV_s cm))).trans rfl)).trans (ret_s ?_)
        obtain ⟨is, e1, e3⟩ := ints_of hs ha
        rw [e3]
        subst e1
        refine bin_s (d := .int (gcdL is)) (S' := S) (call_s (ds := [.tup (is.map .int)]) (S' := S) rfl rfl (m_common_divisor_eq is S)) rfl ?_
        rw [deq_one]
        simp
  · have c2 : cOr (cNot (cV (eUn (dIs isTp) (eB 0)))) (cNot (cV (eChain dLe dLe (eC (.int 2)) (eUn dLen (eB 0)) (eC (.int 4))))) [.val d, .non] S = some (true, S) := by
      rw [ev_cOr]
      cases d <;> first | rfl | exact absurd ⟨_, rfl⟩ ht | (simp [plD] at h)
    have e : handsOk d = false := by
      cases d <;> first | rfl | exact absurd ⟨_, rfl⟩ ht
    rw [e]
    exact seq_rt ((if_t c2).trans rfl)
end K
namespace K
open DL
open L2 (atI ixN)
def ch (c : Nat) : PySem.Str := ⟨#[c]⟩
def abcd : List Nat := [97, 98, 99, 100]
def inA (s : PySem.Str) : Bool := s.cps.toList.all fun c => decide (c ∈ abcd)
def cnt3 (s : PySem.Str) (c : Nat) : Bool := decide (PySem.Txt.count s (ch c) ≤ 3)
def looksOk (n : Nat) : D → Bool
  | .str s => decide (s.length = n) && (inA s && abcd.all (cnt3 s))
  | _ => false
theorem dne_nat (a b : Nat) : dNe (.int a) (.int b) = some (.bl (!decide (a = b))) := by
  unfold dNe
  simp only [okD, Bool.and_self, if_true, eqD, Bool.beq_eq_decide_eq]
  congr 3
  exact decide_eq_decide.mpr (by omega)
theorem din_abcd (c : Nat) : dIn (.str (ch c)) k_LOOKS = some (.bl (decide (c ∈ abcd))) := by
  show some (D.bl (decide (c ∈ ("abcd" : PySem.Str).cps.toList))) = _
  have e : ("abcd" : PySem.Str).cps.toList = abcd := by decide +kernel
  rw [e]
theorem seq_str (s : PySem.Str) : seqOf (.str s) = some (s.cps.toList.map fun c => D.str (ch c)) := rfl
theorem k_is : seqOf k_LOOKS = some (abcd.map fun c => D.str (ch c)) := by
  show some (("abcd" : PySem.Str).cps.toList.map fun c => D.str (ch c)) = _
  have e : ("abcd" : PySem.Str).cps.toList = abcd := by decide +kernel
  rw [e]
theorem m_are_looks_eq (d : D) (n : Nat) (S : List D) (h : plD d = true) (hn : n ≤ 4) : m_are_looks [d, .int n] S = some (.bl (looksOk n d), S) := by
  unfold m_are_looks g_are_looks
  refine run_rt (ρ := [.val d, .val (.int n), .non]) rfl ?_
  by_cases hs : ∃ s, d = .str s
  · obtain ⟨s, rfl⟩ := hs
    have hlen : dLen (.str s) = some (.int s.length) := by
      simp only [plD, Bool.and_eq_true, decide_eq_true_eq] at h
      show (if s.length ≤ 16777216 then some (D.int s.length) else none) = _
      rw [if_pos h.2]
    have ne : eBin dNe (eUn dLen (eB 0)) (eB 1) [.val (.str s), .val (.int n), .non] S = some (.bl (!decide (s.length = n)), S) := bin_s (un_s (d := .str s) (S' := S) rfl hlen) (d2 := .int n) (S2 := S) rfl (dne_nat _ _)
    show _ = some (Out.rt (D.bl (decide (s.length = n) && (inA s && abcd.all (cnt3 s)))) S)
    cases hl : decide (s.length = n) with
    | false =>
      rw [hl] at ne
      refine seq_rt ((if_t (S' := S) ?_).trans rfl)
      refine Eq.trans (b := cOr (cV (eBin dNe (eUn dLen (eB 0)) (eB 1))) (cNot (cV (eUn dAll (eComp (.nm 2) (iAny (eV 0)) cYes (eBin dIn (eB 2) (eC k_LOOKS)) [2])))) [.val (.str s), .val (.int n), .non] S) rfl ?_
      rw [ev_cOr, cV_s ne]; rfl
    | true =>
      rw [hl] at ne
      have hsl : s.length = n := of_decide_eq_true hl
      have cm : eUn dAll (eComp (.nm 2) (iAny (eV 0)) cYes (eBin dIn (eB 2) (eC k_LOOKS)) [2]) [.val (.str s), .val (.int n), .non] S = some (.bl (inA s), S) := by
        refine un_s (d := .lst (s.cps.toList.map fun c => .bl (decide (c ∈ abcd)))) (S' := S) ?_ (dall_map _ _)
        refine comp_s (ds := s.cps.toList.map fun c => D.str (ch c)) (S' := S) (by rw [ev_iAny]; exact rfl) (by
          rw [List.length_map, Array.length_toList]
          have : s.cps.size = n := hsl
          omega) ?_
        exact compL_map (fun c => D.str (ch c)) _ _ fun c _ => ⟨_, ev_bnm _ _, bin_s (d := .str (ch c)) (S' := S) rfl rfl (din_abcd c)⟩
      have c0 : cOr (cNot (cV (eUn (dIs isS) (eB 0)))) (cOr (cV (eBin dNe (eUn dLen (eB 0)) (eB 1))) (cNot (cV (eUn dAll (eComp (.nm 2) (iAny (eV 0)) cYes (eBin dIn (eB 2) (eC k_LOOKS)) [2]))))) [.val (.str s), .val (.int n), .non] S = some (!inA s, S) := by
        refine Eq.trans (b := cOr (cV (eBin dNe (eUn dLen (eB 0)) (eB 1))) (cNot (cV (eUn dAll (eComp (.nm 2) (iAny (eV 0)) cYes (eBin dIn (eB 2) (eC k_LOOKS)) [2])))) [.val (.str s), .val (.int n), .non] S) rfl ?_
        rw [ev_cOr, cV_s ne, Option.bind_some]
        exact cNot_s (cV_s cm)
      cases hi : inA s with
      | false =>
        rw [hi] at c0
        exact seq_rt ((if_t c0).trans rfl)
      | true =>
        rw [hi] at c0
        refine (seq_nx ((if_f c0).trans rfl)).trans (ret_s ?_)
        rw [Bool.true_and, Bool.true_and]
        refine un_s (d := .lst (abcd.map fun c => .bl (cnt3 s c))) (S' := S) ?_ (dall_map _ _)
        refine comp_s (ds := abcd.map fun c => D.str (ch c)) (S' := S) (by rw [ev_iAny, ev_C, Option.bind_some, k_is]; rfl) (by rw [List.length_map]; decide) ?_
        refine compL_map (fun c => D.str (ch c)) _ _ fun c _ => ⟨_, ev_bnm _ _, ?_⟩
        refine bin_s (d := .int (PySem.Txt.count s (ch c))) (S' := S) ?_ rfl rfl
        rw [ev_Ms]
        rfl
  · have e : looksOk n d = false := by
      cases d <;> first | rfl | exact absurd ⟨_, rfl⟩ hs
    rw [e]
    refine seq_rt ((if_t (S' := S) ?_).trans rfl)
    rw [ev_cOr]
    cases d <;> first | rfl | exact absurd ⟨_, rfl⟩ hs | (simp [plD] at h)
def lenT : D → Nat
  | .tup hs => hs.length
  | _ => 0
def isClock : D → Bool
  | .tup [h, l, m] => handsOk h && (looksOk (lenT h) l && inR m 1 6)
  | _ => false
theorem handsOk_len {d : D} (h : handsOk d = true) : ∃ hs, d = .tup hs ∧ 2 ≤ hs.length ∧ hs.length ≤ 4 := by
  cases d with
  | tup hs =>
    have h : ((decide (2 ≤ hs.length) && decide (hs.length ≤ 4)) && _) = true := h
    simp only [Bool.and_eq_true, decide_eq_true_eq] at h
    exact ⟨hs, rfl, h.1.1, h.1.2⟩
  | _ => cases h
theorem isClock_not {d : D} (h : ∀ x y z, d ≠ .tup [x, y, z]) : isClock d = false := by
  cases d with
  | tup xs =>
    match xs, h with
    | [], _ => rfl
    | [_], _ => rfl
    | [_, _], _ => rfl
    | [x, y, z], h => exact absurd rfl (h x y z)
    | _ :: _ :: _ :: _ :: _, _ => simp [isClock]
  | _ => rfl
theorem m_is_clock_eq (d : D) (S : List D) (h : plD d = true) : m_is_clock [d] S = some (.bl (isClock d), S) := by
  unfold m_is_clock g_is_clock
  refine run_rt (ρ := [.val d]) rfl ?_
  by_cases h3 : ∃ x y z, d = .tup [x, y, z]
  · obtain ⟨x, y, z, rfl⟩ := h3
    have hp : plD x = true ∧ plD y = true ∧ plD z = true := by
      simpa [plD, plL] using h
    have c1 := m_are_hands_eq x S hp.1
    have cc : cV (eCall 1 m_are_hands (aC (eIx (eB 0) (eC (.int 0))) aN)) [.val (.tup [x, y, z])] S = some (handsOk x, S) := cV_s (call_s (ds := [x]) (S' := S) rfl rfl c1)
    have c0 : cOr (cNot (cV (eUn (dIs isTp) (eB 0)))) (cOr (cV (eBin dNe (eUn dLen (eB 0)) (eC (.int 3)))) (cNot (cV (eCall 1 m_are_hands (aC (eIx (eB 0) (eC (.int 0))) aN))))) [.val (.tup [x, y, z])] S = some (!handsOk x, S) := Eq.trans (b := cNot (cV (eCall 1 m_are_hands (aC (eIx (eB 0) (eC (.int 0))) aN))) [.val (.tup [x, y, z])] S) rfl (cNot_s cc)
    show _ = some (Out.rt (D.bl (handsOk x && (looksOk (lenT x) y && inR z 1 6))) S)
    cases hx : handsOk x with
    | false =>
      rw [hx] at c0
      exact seq_rt ((if_t c0).trans rfl)
    | true =>
      rw [hx] at c0
      refine (seq_nx ((if_f c0).trans rfl)).trans (ret_s ?_)
      obtain ⟨hs, rfl, l2, l4⟩ := handsOk_len hx
      have c2 : eCall 2 m_are_looks (aC (eIx (eB 0) (eC (.int 1))) (aC (eUn dLen (eIx (eB 0) (eC (.int 0)))) aN)) [.val (.tup [.tup hs, y, z])] S = some (.bl (looksOk hs.length y), S) := call_s (ds := [y, .int hs.length]) (S' := S) rfl rfl (m_are_looks_eq y hs.length S hp.2.1 l4)
      rw [ev_And, c2, Option.bind_some]
      show _ = some (D.bl (true && (looksOk hs.length y && inR z 1 6)), S)
      cases hy : looksOk hs.length y with
      | false => rfl
      | true =>
        rw [Bool.true_and, Bool.true_and]
        exact call_s (ds := [z, .int 1, .int 6]) (S' := S) rfl rfl (m_is_integer_eq z 1 6 S (plD_plain hp.2.2))
  · have e := isClock_not (d := d) (fun x y z e => h3 ⟨x, y, z, e⟩)
    rw [e]
    refine seq_rt ((if_t (S' := S) ?_).trans rfl)
    by_cases ht : ∃ xs, d = .tup xs
    · obtain ⟨xs, rfl⟩ := ht
      have hl : ¬ xs.length = 3 := fun z => h3 (by
        match xs, z with
        | [a, b, c], _ => exact ⟨a, b, c, rfl⟩)
      have ne : eBin dNe (eUn dLen (eB 0)) (eC (.int 3)) [.val (.tup xs)] S = some (.bl (!decide (xs.length = 3)), S) := bin_s (d := .int xs.length) (S' := S) rfl (d2 := .int (3 : Nat)) (S2 := S) rfl (dne_nat _ _)
      rw [decide_eq_false hl] at ne
      refine Eq.trans (b := cOr (cV (eBin dNe (eUn dLen (eB 0)) (eC (.int 3)))) (cNot (cV (eCall 1 m_are_hands (aC (eIx (eB 0) (eC (.int 0))) aN)))) [.val (.tup xs)] S) rfl ?_
      rw [ev_cOr, cV_s ne]; rfl
    · rw [ev_cOr]
      cases d <;> first | rfl | exact absurd ⟨_, rfl⟩ ht | (simp [plD] at h)
end K
namespace K
open DL
open L2 (atI ixN)
theorem k2 : ∀ a ∈ abcd, ∀ b ∈ abcd, ([a, b].all fun x => cnt3 ⟨#[a, b]⟩ x) = abcd.all (cnt3 ⟨#[a, b]⟩) := by decide +kernel
theorem k3 : ∀ a ∈ abcd, ∀ b ∈ abcd, ∀ c ∈ abcd, ([a, b, c].all fun x => cnt3 ⟨#[a, b, c]⟩ x) = abcd.all (cnt3 ⟨#[a, b, c]⟩) := by decide +kernel
theorem k4 : ∀ a ∈ abcd, ∀ b ∈ abcd, ∀ c ∈ abcd, ∀ d ∈ abcd, ([a, b, c, d].all fun x => cnt3 ⟨#[a, b, c, d]⟩ x) = abcd.all (cnt3 ⟨#[a, b, c, d]⟩) := by decide +kernel
theorem cnt_same (s : PySem.Str) (h2 : 2 ≤ s.length) (h4 : s.length ≤ 4) (hi : inA s = true) : (s.cps.toList.all fun c => cnt3 s c) = abcd.all (cnt3 s) := by
  obtain ⟨⟨l⟩⟩ := s
  have hl2 : 2 ≤ l.length := h2
  have hl4 : l.length ≤ 4 := h4
  have hi : (l.all fun c => decide (c ∈ abcd)) = true := hi
  rw [List.all_eq_true] at hi
  have hm : ∀ c ∈ l, c ∈ abcd := fun c m => of_decide_eq_true (hi c m)
  match l, hl2, hl4, hm with
  | [a, b], _, _, hm => exact k2 a (hm a (by simp)) b (hm b (by simp))
  | [a, b, c], _, _, hm => exact k3 a (hm a (by simp)) b (hm b (by simp)) c (hm c (by simp))
  | [a, b, c, d], _, _, hm => exact k4 a (hm a (by simp)) b (hm b (by simp)) c (hm c (by simp)) d (hm d (by simp))
  | _ :: _ :: _ :: _ :: _ :: _, _, h, _ => simp at h
def lcB : Sv := (sSeq (sIf (cOr (cNot (cV (eCall 3 m_law_within (aC (eV 2) (aC (eUn dNeg (eBin dPow (eC (.int 10)) (eC (.int 6)))) (aC (eBin dPow (eC (.int 10)) (eC (.int 6))) aN)))))) (cV (eBin dEq (eB 2) (eC (.int 0))))) (sRet (eC (.bl false))) sNil) (sSet 1 (eCall 2 m_law_gcd (aC (eV 1) (aC (eV 2) aN)))))
theorem lcB_ok (d x3 : Slot) (i g : Int) (S : List D) (h : handOk (.int i) = true) : lcB [d, .val (.int g), .val (.int i), x3] S = some (.nx [d, .val (.int (Int.gcd g i)), .val (.int i), x3] S) := by
  have h : ((decide (-1000000 ≤ i) && decide (i ≤ 1000000)) && !decide (i = 0)) = true := h
  simp only [Bool.and_eq_true] at h
  have hz : decide (i = 0) = false := by have := h.2; cases e : decide (i = 0) <;> simp_all
  have w : eCall 3 m_law_within (aC (eV 2) (aC (eUn dNeg (eBin dPow (eC (.int 10)) (eC (.int 6)))) (aC (eBin dPow (eC (.int 10)) (eC (.int 6))) aN))) [d, .val (.int g), .val (.int i), x3] S = some (.bl true, S) := by
    refine (call_s (ds := [.int i, .int (-1000000), .int 1000000]) (S' := S) rfl rfl (m_law_within_eq (.int i) _ _ S rfl)).trans ?_
    show some (D.bl (decide (-1000000 ≤ i) && decide (i ≤ 1000000)), S) = _
    rw [h.1.1, h.1.2]; rfl
  unfold lcB
  refine (seq_nx ((if_f (S' := S) ?_).trans rfl)).trans (set_s (call_s (ds := [.int g, .int i]) (S' := S) rfl rfl (m_law_gcd_eq g i S)))
  rw [ev_cOr, cNot_s (cV_s w), Option.bind_some]
  refine cV_s (bin_s (d := .int i) (S' := S) rfl rfl ?_)
  rw [dv_eqI, hz]
theorem lcB_no (d x3 : Slot) (x : D) (g : Slot) (S : List D) (hp : plD x = true) (h : handOk x = false) : lcB [d, g, .val x, x3] S = some (.rt (.bl false) S) := by
  have w : eCall 3 m_law_within (aC (eV 2) (aC (eUn dNeg (eBin dPow (eC (.int 10)) (eC (.int 6)))) (aC (eBin dPow (eC (.int 10)) (eC (.int 6))) aN))) [d, g, .val x, x3] S = some (.bl (inR x (-1000000) 1000000), S) := call_s (ds := [x, .int (-1000000), .int 1000000]) (S' := S) rfl rfl (m_law_within_eq x _ _ S (plD_plain hp))
  unfold lcB
  refine seq_rt ((if_t (S' := S) ?_).trans rfl)
  rw [ev_cOr, cNot_s (cV_s w), Option.bind_some]
  cases hr : inR x (-1000000) 1000000 with
  | false => rfl
  | true =>
    obtain ⟨i, rfl⟩ : ∃ i, x = .int i := by cases x <;> first | exact ⟨_, rfl⟩ | cases hr
    have h : ((decide (-1000000 ≤ i) && decide (i ≤ 1000000)) && !decide (i = 0)) = false := h
    have hr : (decide (-1000000 ≤ i) && decide (i ≤ 1000000)) = true := hr
    rw [hr, Bool.true_and] at h
    have hz : decide (i = 0) = true := by cases e : decide (i = 0) <;> simp_all
    refine cV_s (bin_s (d := .int i) (S' := S) rfl rfl ?_)
    rw [dv_eqI, hz]
theorem lcL_no (d x3 : Slot) (S : List D) : ∀ (hs : List D) (g : Int) (x2 : Slot), plL hs = true → hs.all handOk = false → forL (.nm 2) lcB hs [d, .val (.int g), x2, x3] S = some (.rt (.bl false) S)
  | [], _, _, _, h => by cases h
  | x :: xs, g, x2, hp, h => by
    have hpp : plD x = true ∧ plL xs = true := by simpa [plL] using hp
    rw [ev_forC, ev_bnm, Option.bind_some, ev_put1, ev_put0]
    cases hx : handOk x with
    | false =>
      have := lcB_no d x3 x (.val (.int g)) S hpp.1 hx
      simp only [List.set_cons_succ, List.set_cons_zero]
      rw [this]; rfl
    | true =>
      obtain ⟨i, rfl⟩ : ∃ i, x = .int i := by cases x <;> first | exact ⟨_, rfl⟩ | cases hx
      have := lcB_ok d x3 i g S hx
      simp only [List.set_cons_succ, List.set_cons_zero]
      rw [this, Option.bind_some]
      rw [List.all_cons, hx, Bool.true_and] at h
      exact lcL_no d x3 S xs _ _ hpp.2 h
theorem lcL_ok (d x3 : Slot) (S : List D) : ∀ (is : List Int) (g : Nat) (x2 : Slot), (is.map D.int).all handOk = true → ∃ x2', forL (.nm 2) lcB (is.map .int) [d, .val (.int g), x2, x3] S = some (.nx [d, .val (.int (is.foldl (fun g h => Nat.gcd g h.natAbs) g : Nat)), x2', x3] S)
  | [], g, x2, _ => ⟨x2, rfl⟩
  | i :: is, g, x2, h => by
    simp only [List.map_cons, List.all_cons, Bool.and_eq_true] at h
    obtain ⟨x2', e⟩ := lcL_ok d x3 S is (Nat.gcd g i.natAbs) (.val (.int i)) h.2
    refine ⟨x2', ?_⟩
    rw [List.map_cons, ev_forC, ev_bnm, Option.bind_some, ev_put1, ev_put0]
    simp only [List.set_cons_succ, List.set_cons_zero]
    rw [lcB_ok d x3 i g S h.1, Option.bind_some]
    exact e
theorem ch_beq (k c : Nat) : (ch k == ch c) = decide (c = k) := by
  by_cases e : c = k
  · subst e; simp
  · rw [decide_eq_false e, beq_eq_false_iff_ne]
    intro h
    unfold ch at h
    injection h with h
    simp at h
    exact e h.symm
theorem dni_abcd (c : Nat) (hc : PySem.PyData.strOk (ch c) = true) : dNi (.str (ch c)) (.lst [.str "a", .str "b", .str "c", .str "d"]) = some (.bl (!decide (c ∈ abcd))) := by
  have e1 : ("a" : PySem.Str) = ch 97 := by decide +kernel
  have e2 : ("b" : PySem.Str) = ch 98 := by decide +kernel
  have e3 : ("c" : PySem.Str) = ch 99 := by decide +kernel
  have e4 : ("d" : PySem.Str) = ch 100 := by decide +kernel
  have k : ∀ k ∈ [97, 98, 99, 100], PySem.PyData.strOk (ch k) = true := by decide +kernel
  rw [e1, e2, e3, e4]
  unfold dNi inB
  simp only [okD, okL, hc, k 97 (by simp), k 98 (by simp), k 99 (by simp), k 100 (by simp), Bool.and_self, if_true, Option.bind_some, inL, eqD, ch_beq]
  congr 3
  unfold abcd
  by_cases a : c = 97 <;> by_cases b : c = 98 <;> by_cases e : c = 99 <;> by_cases f : c = 100 <;> simp [a, b, e, f]
theorem okL_of {n : Nat} : ∀ {xs : List D}, (∀ x ∈ xs, okD n x = true) → okL n xs = true
  | [], _ => by simp [okL]
  | x :: xs, h => by simp only [okL, h x List.mem_cons_self, okL_of (fun y m => h y (List.mem_cons_of_mem _ m)), Bool.and_self]
theorem dne_lnil (xs : List D) (h : ∀ x ∈ xs, okD 59 x = true) : dNe (.lst xs) (.lst []) = some (.bl (!xs.isEmpty)) := by
  unfold dNe
  have a := okL_of h
  cases xs with
  | nil => simp [okD, okL, eqD, eqL]
  | cons x xs =>
    have e : okD 60 (.lst (x :: xs)) = true := by simp only [okD]; exact a
    have e2 : okD 60 (.lst []) = true := rfl
    simp only [e, e2, Bool.and_self, if_true, eqD, eqL, List.isEmpty_cons]
end K
namespace K
open DL
open L2 (atI ixN)
def lcE : Sv := (sIf (cOr (cV (eBin dNe (eB 1) (eC (.int 1)))) (cOr (cNot (cV (eUn (dIs isS) (eIx (eB 0) (eC (.int 1)))))) (cV (eBin dNe (eUn dLen (eIx (eB 0) (eC (.int 1)))) (eUn dLen (eIx (eB 0) (eC (.int 0)))))))) (sRet (eC (.bl false))) sNil)
def lcC : Ev := (eComp (.nm 3) (iAny (eIx (eB 0) (eC (.int 1)))) (cOr (cV (eBin dNi (eB 3) (eLst (aC (eC (.str "a")) (aC (eC (.str "b")) (aC (eC (.str "c")) (aC (eC (.str "d")) aN))))))) (cV (eBin dGt (eMs dCount (eIx (eB 0) (eC (.int 1))) (eB 3)) (eC (.int 3))))) (eV 3) [3])
def lcF : Sv := (sSeq (sIf (cV (eBin dNe lcC (eLst aN))) (sRet (eC (.bl false))) sNil) (sRet (eCall 3 m_law_within (aC (eIx (eB 0) (eC (.int 2))) (aC (eC (.int 1)) (aC (eC (.int 6)) aN))))))
theorem g_law_is_clock_is : g_law_is_clock = (sSeq (sIf (cOr (cNot (cV (eUn (dIs isTp) (eB 0)))) (cV (eBin dNe (eUn dLen (eB 0)) (eC (.int 3))))) (sRet (eC (.bl false))) sNil) (sSeq (sIf (cOr (cNot (cV (eUn (dIs isTp) (eIx (eB 0) (eC (.int 0)))))) (cNot (cV (eChain dLt dLt (eC (.int 1)) (eUn dLen (eIx (eB 0) (eC (.int 0)))) (eC (.int 5)))))) (sRet (eC (.bl false))) sNil) (sSeq (sSet 1 (eC (.int 0))) (sSeq (sFor (.nm 2) (iAny (eIx (eB 0) (eC (.int 0)))) lcB) (sSeq lcE lcF))))) := rfl
theorem ok_ch {s : PySem.Str} (h : PySem.PyData.strOk s = true) : ∀ c ∈ s.cps.toList, PySem.PyData.strOk (ch c) = true := fun c m => by
  unfold PySem.PyData.strOk at *
  rw [← Array.all_toList, List.all_eq_true] at h
  have := h c m
  show (#[c] : Array Nat).all _ = true
  simpa using this
theorem lcF_ex (hs : List D) (s : PySem.Str) (z : D) (x1 x2 : Slot) (S : List D) (hz : plD z = true) (so : PySem.PyData.strOk s = true) (h2 : 2 ≤ s.length) (h4 : s.length ≤ 4) :
    lcF [.val (.tup [.tup hs, .str s, z]), x1, x2, .non] S = some (.rt (.bl ((inA s && abcd.all (cnt3 s)) && inR z 1 6)) S) := by
  have cm : lcC [.val (.tup [.tup hs, .str s, z]), x1, x2, .non] S = some (.lst ((s.cps.toList.filter fun c => !decide (c ∈ abcd) || !cnt3 s c).map fun c => D.str (ch c)), S) := by
    unfold lcC
    refine comp_s (ds := s.cps.toList.map fun c => D.str (ch c)) (S' := S) rfl (by
      rw [List.length_map, Array.length_toList]
      have : s.cps.size = s.length := rfl
      omega) ?_
    refine compL_filter (fun c => D.str (ch c)) (fun c => D.str (ch c)) _ _ fun c m => ⟨_, ev_bnm _ _, ?_, fun _ => rfl⟩
    rw [ev_cOr, cV_s (bin_s (d := .str (ch c)) (S' := S) rfl (d2 := .lst [.str "a", .str "b", .str "c", .str "d"]) (S2 := S) rfl (dni_abcd c (ok_ch so c m))), Option.bind_some]
    cases hc : decide (c ∈ abcd) with
    | false => rfl
    | true =>
      show cV (eBin dGt (eMs dCount (eIx (eB 0) (eC (.int 1))) (eB 3)) (eC (.int 3))) _ S = some (!cnt3 s c, S)
      refine cV_s (bin_s (d := .int (PySem.Txt.count s (ch c))) (S' := S) ?_ (d2 := .int 3) (S2 := S) rfl ?_)
      · rw [ev_Ms]; rfl
      · rw [dv_gt]
        congr 2
        unfold cnt3
        rw [← decide_not]
        exact decide_eq_decide.mpr (by omega)
  have ne := dne_lnil ((s.cps.toList.filter fun c => !decide (c ∈ abcd) || !cnt3 s c).map fun c => D.str (ch c)) (fun x m => by
    obtain ⟨c, mc, rfl⟩ := List.mem_map.mp m
    have := ok_ch so c (List.mem_filter.mp mc).1
    simpa [okD] using this)
  have e : ((s.cps.toList.filter fun c => !decide (c ∈ abcd) || !cnt3 s c).map fun c => D.str (ch c)).isEmpty = (inA s && abcd.all (cnt3 s)) := by
    rw [List.isEmpty_map]
    cases hi : inA s with
    | false =>
      rw [Bool.false_and]
      unfold inA at hi
      rw [List.all_eq_false] at hi
      obtain ⟨c, m, hc⟩ := hi
      have : c ∈ s.cps.toList.filter fun c => !decide (c ∈ abcd) || !cnt3 s c := List.mem_filter.mpr ⟨m, by
        have : decide (c ∈ abcd) = false := by cases e : decide (c ∈ abcd) <;> simp_all
        simp only [this]; rfl⟩
      rw [List.isEmpty_eq_false_iff_exists_mem]
      exact ⟨c, this⟩
    | true =>
      rw [Bool.true_and, ← cnt_same s h2 h4 hi]
      unfold inA at hi
      rw [List.all_eq_true] at hi
      cases hc : (s.cps.toList.all fun c => cnt3 s c) with
      | true =>
        rw [List.all_eq_true] at hc
        rw [List.isEmpty_iff, List.filter_eq_nil_iff]
        intro c m
        rw [hc c m, hi c m]; decide
      | false =>
        rw [List.all_eq_false] at hc
        obtain ⟨c, m, h⟩ := hc
        rw [List.isEmpty_eq_false_iff_exists_mem]
        refine ⟨c, List.mem_filter.mpr ⟨m, ?_⟩⟩
        have : cnt3 s c = false := by cases e : cnt3 s c <;> simp_all
        rw [this]; simp
  rw [e] at ne
  have cc : cV (eBin dNe lcC (eLst aN)) [.val (.tup [.tup hs, .str s, z]), x1, x2, .non] S = some (!(inA s && abcd.all (cnt3 s)), S) := cV_s (bin_s cm (d2 := .lst []) (S2 := S) rfl ne)
  unfold lcF
  cases hb : (inA s && abcd.all (cnt3 s)) with
  | false =>
    rw [hb] at cc
    exact seq_rt ((if_t cc).trans rfl)
  | true =>
    rw [hb] at cc
    refine (seq_nx ((if_f cc).trans rfl)).trans (ret_s ?_)
    rw [Bool.true_and]
    exact call_s (ds := [z, .int 1, .int 6]) (S' := S) rfl rfl (m_law_within_eq z 1 6 S (plD_plain hz))
theorem dne_one (g : Nat) : dNe (.int g) (.int 1) = some (.bl (!decide (g = 1))) := dne_nat g 1
theorem lcEF_ex (is : List Int) (y z : D) (x2 : Slot) (S : List D) (hy : plD y = true) (hz : plD z = true) (h2 : 2 ≤ is.length) (h4 : is.length ≤ 4) :
    (sSeq lcE lcF) [.val (.tup [.tup (is.map .int), y, z]), .val (.int (gcdL is)), x2, .non] S = some (.rt (.bl (decide (gcdL is = 1) && (looksOk is.length y && inR z 1 6))) S) := by
  have c1 : cV (eBin dNe (eB 1) (eC (.int 1))) [.val (.tup [.tup (is.map .int), y, z]), .val (.int (gcdL is)), x2, .non] S = some (!decide (gcdL is = 1), S) := cV_s (bin_s (d := .int (gcdL is)) (S' := S) rfl rfl (dne_one _))
  cases hg : decide (gcdL is = 1) with
  | false =>
    rw [hg] at c1
    refine seq_rt ((if_t (S' := S) ?_).trans rfl)
    rw [ev_cOr, c1]; rfl
  | true =>
    rw [hg] at c1
    rw [Bool.true_and]
    by_cases hs : ∃ s, y = .str s
    · obtain ⟨s, rfl⟩ := hs
      simp only [plD, Bool.and_eq_true, decide_eq_true_eq] at hy
      have hlen : dLen (.str s) = some (.int s.length) := by
        show (if s.length ≤ 16777216 then some (D.int s.length) else none) = _
        rw [if_pos hy.2]
      have ne : eBin dNe (eUn dLen (eIx (eB 0) (eC (.int 1)))) (eUn dLen (eIx (eB 0) (eC (.int 0)))) [.val (.tup [.tup (is.map .int), .str s, z]), .val (.int (gcdL is)), x2, .non] S = some (.bl (!decide (s.length = is.length)), S) := by
        refine bin_s (d := .int s.length) (S' := S) (un_s (d := .str s) (S' := S) rfl hlen) (d2 := .int is.length) (S2 := S) ?_ (dne_nat _ _)
        refine un_s (d := .tup (is.map .int)) (S' := S) rfl ?_
        rw [dv_lenT, List.length_map]
      have c2 : cOr (cV (eBin dNe (eB 1) (eC (.int 1)))) (cOr (cNot (cV (eUn (dIs isS) (eIx (eB 0) (eC (.int 1)))))) (cV (eBin dNe (eUn dLen (eIx (eB 0) (eC (.int 1)))) (eUn dLen (eIx (eB 0) (eC (.int 0))))))) [.val (.tup [.tup (is.map .int), .str s, z]), .val (.int (gcdL is)), x2, .non] S = some (!decide (s.length = is.length), S) := by
        rw [ev_cOr, c1, Option.bind_some]
        exact Eq.trans (b := cV (eBin dNe (eUn dLen (eIx (eB 0) (eC (.int 1)))) (eUn dLen (eIx (eB 0) (eC (.int 0))))) [.val (.tup [.tup (is.map .int), .str s, z]), .val (.int (gcdL is)), x2, .non] S) rfl (cV_s ne)
      show _ = some (Out.rt (D.bl ((decide (s.length = is.length) && (inA s && abcd.all (cnt3 s))) && inR z 1 6)) S)
      cases hl : decide (s.length = is.length) with
      | false =>
        rw [hl] at c2
        exact seq_rt ((if_t c2).trans rfl)
      | true =>
        rw [hl] at c2
        have hl' := of_decide_eq_true hl
        refine (seq_nx ((if_f c2).trans rfl)).trans ?_
        rw [Bool.true_and]
        exact lcF_ex (is.map .int) s z _ x2 S hz hy.1 (by omega) (by omega)
    · have e : looksOk is.length y = false := by
        cases y <;> first | rfl | exact absurd ⟨_, rfl⟩ hs
      rw [e]
      refine seq_rt ((if_t (S' := S) ?_).trans rfl)
      rw [ev_cOr, c1, Option.bind_some]
      cases y <;> first | rfl | exact absurd ⟨_, rfl⟩ hs | (simp [plD] at hy)
theorem m_law_is_clock_eq (d : D) (S : List D) (h : plD d = true) : m_law_is_clock [d] S = some (.bl (isClock d), S) := by
  unfold m_law_is_clock
  rw [g_law_is_clock_is]
  refine run_rt (ρ := [.val d, .non, .non, .non]) rfl ?_
  by_cases h3 : ∃ x y z, d = .tup [x, y, z]
  · obtain ⟨x, y, z, rfl⟩ := h3
    have hp : plD x = true ∧ plD y = true ∧ plD z = true := by
      simpa [plD, plL] using h
    refine (seq_nx ((if_f (S' := S) rfl).trans rfl)).trans ?_
    show _ = some (Out.rt (D.bl (handsOk x && (looksOk (lenT x) y && inR z 1 6))) S)
    by_cases ht : ∃ hs, x = .tup hs
    · obtain ⟨hs, rfl⟩ := ht
      have hpl : plL hs = true := by simpa [plD] using hp.1
      have c1 := chain_lt (fa := eC (.int 1)) (fb := eUn dLen (eIx (eB 0) (eC (.int 0)))) (fz := eC (.int 5)) (ρ := [.val (.tup [.tup hs, y, z]), .non, .non, .non]) (S := S) (S1 := S) (S2 := S) (S3 := S) (a := 1) (b := hs.length) (c := 5) rfl rfl rfl
      have e2 : (decide ((1 : Int) < hs.length) && decide ((hs.length : Int) < 5)) = (decide (2 ≤ hs.length) && decide (hs.length ≤ 4)) := by
        congr 1 <;> exact decide_eq_decide.mpr (by omega)
      rw [e2] at c1
      have c2 : cOr (cNot (cV (eUn (dIs isTp) (eIx (eB 0) (eC (.int 0)))))) (cNot (cV (eChain dLt dLt (eC (.int 1)) (eUn dLen (eIx (eB 0) (eC (.int 0)))) (eC (.int 5))))) [.val (.tup [.tup hs, y, z]), .non, .non, .non] S = some (!(decide (2 ≤ hs.length) && decide (hs.length ≤ 4)), S) :=
        Eq.trans (b := cNot (cV (eChain dLt dLt (eC (.int 1)) (eUn dLen (eIx (eB 0) (eC (.int 0)))) (eC (.int 5)))) [.val (.tup [.tup hs, y, z]), .non, .non, .non] S) rfl (cNot_s (cV_s c1))
      have hres : handsOk (.tup hs) = ((decide (2 ≤ hs.length) && decide (hs.length ≤ 4)) && (hs.all handOk && decide (gcdL (hs.map intV) = 1))) := rfl
      rw [hres]
      cases hb : (decide (2 ≤ hs.length) && decide (hs.length ≤ 4)) with
      | false =>
        rw [hb] at c2
        exact seq_rt ((if_t c2).trans rfl)
      | true =>
        rw [hb] at c2
        have hlen : 2 ≤ hs.length ∧ hs.length ≤ 4 := by
          simp only [Bool.and_eq_true, decide_eq_true_eq] at hb; exact hb
        refine (seq_nx ((if_f c2).trans rfl)).trans ?_
        refine (seq_nx (set_s (d := .int 0) (S' := S) rfl)).trans ?_
        cases ha : hs.all handOk with
        | false => exact seq_rt (for_s (ds := hs) (S' := S) rfl (lcL_no (.val (.tup [.tup hs, y, z])) .non S hs 0 .non hpl ha))
        | true =>
          obtain ⟨is, e1, e3⟩ := ints_of hs ha
          rw [e3]
          subst e1
          obtain ⟨x2', e⟩ := lcL_ok (.val (.tup [.tup (is.map .int), y, z])) .non S is 0 .non ha
          refine (seq_nx (for_s (ds := is.map .int) (S' := S) rfl e)).trans ?_
          rw [List.length_map] at hlen
          have q := lcEF_ex is y z x2' S hp.2.1 hp.2.2 hlen.1 hlen.2
          refine Eq.trans q ?_
          have e4 : lenT (.tup (is.map D.int)) = is.length := by show (is.map D.int).length = _; rw [List.length_map]
          rw [e4, Bool.true_and, Bool.true_and]
    · have e : handsOk x = false := by
        cases x <;> first | rfl | exact absurd ⟨_, rfl⟩ ht
      rw [e]
      refine seq_rt ((if_t (S' := S) ?_).trans rfl)
      rw [ev_cOr]
      cases x <;> first | rfl | exact absurd ⟨_, rfl⟩ ht | (simp [plD] at hp)
  · have e := isClock_not (d := d) (fun x y z e => h3 ⟨x, y, z, e⟩)
    rw [e]
    refine seq_rt ((if_t (S' := S) ?_).trans rfl)
    by_cases ht : ∃ xs, d = .tup xs
    · obtain ⟨xs, rfl⟩ := ht
      have hl : ¬ xs.length = 3 := fun z => h3 (by
        match xs, z with
        | [a, b, c], _ => exact ⟨a, b, c, rfl⟩)
      have ne : eBin dNe (eUn dLen (eB 0)) (eC (.int 3)) [.val (.tup xs), .non, .non, .non] S = some (.bl (!decide (xs.length = 3)), S) := bin_s (d := .int xs.length) (S' := S) rfl (d2 := .int (3 : Nat)) (S2 := S) rfl (dne_nat _ _)
      rw [decide_eq_false hl] at ne
      exact Eq.trans (b := cV (eBin dNe (eUn dLen (eB 0)) (eC (.int 3))) [.val (.tup xs), .non, .non, .non] S) rfl (cV_s ne)
    · rw [ev_cOr]
      cases d <;> first | rfl | exact absurd ⟨_, rfl⟩ ht | (simp [plD] at h)
end K
namespace K
open DL
open L2 (atI ixN)
def chk : Sv := (sIf (cNot (cV (eCall 2 (m_law_like 8) (aC (eCall 1 m_is_clock (aC (eV 8) aN)) (aC (eCall 1 m_law_is_clock (aC (eV 8) aN)) aN))))) (sRet (eC (.bl false))) sNil)
def thE : Ev := (eBin dAdd (eBin dAdd (eB 7) (eComp (.nm 9) (iRange1 (aC (eC (.int 8)) aN)) cYes (eCall 2 (m_law_spoilt 4) (aC (eV 1) (aC (eV 3) aN))) [9])) (eLst (aC (eCall 2 (m_law_any 3) (aC (eV 1) (aC (eC (.int 2)) aN))) aN)))
def th1E : Ev := (eLst (aC (eV 3) (aC (eUnF lOf (eB 3)) (aC (eTup (aC (eV 4) (aC (eV 5) aN))) (aC (eTup (aC (eV 4) (aC (eV 5) (aC (eC (.int 0)) aN)))) (aC (eTup (aC (eV 4) (aC (eV 5) (aC (eC (.int 7)) aN)))) aN))))))
def th2E : Ev := (eLst (aC (eTup (aC (eV 4) (aC (eBin dAdd (eB 5) (eC (.str "a"))) (aC (eV 6) aN)))) (aC (eTup (aC (eUnF lOf (eB 4)) (aC (eV 5) (aC (eV 6) aN)))) aN)))
def th3E : Ev := (eLst (aC (eTup (aC (eBin dAdd (eB 4) (eTup (aC (eC (.int 0)) aN))) (aC (eBin dAdd (eB 5) (eC (.str "d"))) (aC (eV 6) aN)))) (aC (eTup (aC (eSl (eB 4) oN (oE (eC (.int 1)))) (aC (eSl (eB 5) oN (oE (eC (.int 1)))) (aC (eV 6) aN)))) aN)))
def th4E : Ev := (eLst (aC (eTup (aC (eTup (aC (eC (.int 1)) (aC (eC (.int 1)) (aC (eC (.int 1)) (aC (eC (.int 1)) aN))))) (aC (eC (.str "aaaa")) (aC (eC (.int 1)) aN)))) (aC (eTup (aC (eTup (aC (eC (.int 1)) (aC (eC (.int 1)) (aC (eC (.int 1)) (aC (eC (.int 1)) aN))))) (aC (eC (.str "aaab")) (aC (eC (.int 1)) aN)))) aN)))
def th5E : Ev := (eLst (aC (eTup (aC (eTup (aC (eC (.int 2)) (aC (eC (.int 4)) aN))) (aC (eC (.str "aa")) (aC (eC (.int 1)) aN)))) (aC (eTup (aC (eTup (aC (eC (.int 1)) (aC (eBin dPow (eC (.int 10)) (eC (.int 6))) aN))) (aC (eC (.str "ab")) (aC (eC (.int 1)) aN)))) (aC (eTup (aC (eTup (aC (eC (.int 1)) (aC (eBin dAdd (eBin dPow (eC (.int 10)) (eC (.int 6))) (eC (.int 1))) aN))) (aC (eC (.str "ab")) (aC (eC (.int 1)) aN)))) aN))))
def th6E : Ev := (eLst (aC (eTup (aC (eTup (aC (eC (.int 1)) (aC (eUn dNeg (eBin dPow (eC (.int 10)) (eC (.int 6)))) aN))) (aC (eC (.str "ae")) (aC (eC (.int 1)) aN)))) (aC (eTup (aC (eTup (aC (eC (.int 1)) (aC (eC (.bl true)) aN))) (aC (eC (.str "aa")) (aC (eC (.int 1)) aN)))) (aC (eC .non) aN))))
def body2 : Sv := (sSeq (sSet 3 (eCall 2 m_law_clock (aC (eV 1) (aC (eBin dPow (eC (.int 10)) (eC (.int 6))) aN)))) (sSeq (sAsg (.tup [(.nm 4), (.nm 5), (.nm 6)]) (eV 3)) (sSeq (sSet 7 th1E) (sSeq (sSet 7 (eBin dAdd (eB 7) th2E)) (sSeq (sSet 7 (eBin dAdd (eB 7) th3E)) (sSeq (sSet 7 (eBin dAdd (eB 7) th4E)) (sSeq (sSet 7 (eBin dAdd (eB 7) th5E)) (sSeq (sSet 7 (eBin dAdd (eB 7) th6E)) (sFor (.nm 8) (iAny thE) chk)))))))))
def endE : Ev := (eBin dIsB (eCall 1 m_is_clock (aC (eTup (aC (eSl (eTup (aC (eC (.int 1)) (aC (eC (.int 1)) (aC (eC (.int 2)) (aC (eC (.int 3)) (aC (eC (.int 5)) aN)))))) oN (oE (eC (.int 4)))) (aC (eC (.str "abcd")) (aC (eC (.int 6)) aN)))) aN)) (eC (.bl true)))
theorem g_law_is : g_law = (sCell 1 (eLst (aC (eUnF lOf (eB 0)) (aC (eC (.int 0)) (aC (eC (.int 0)) aN)))) (sSeq (sFor (.nm 2) (iRange1 (aC (eC (.int 16)) aN)) body2) (sRet endE))) := rfl
theorem plL_app {xs ys : List D} (h : plL xs = true) (h2 : plL ys = true) : plL (xs ++ ys) = true := plL_of fun x m => by
  rcases List.mem_append.mp m with m | m
  · exact plL_mem h x m
  · exact plL_mem h2 x m
theorem plL_ints (l : List Int) : plL (l.map .int) = true := plL_of fun x m => by
  obtain ⟨i, _, rfl⟩ := List.mem_map.mp m
  simp [plD]
theorem chk_s (ρ : List Slot) (x : D) (h : plD x = true) (t : Tape) (h7 : ρ[8]? = some (.val x)) : chk ρ (tp t) = some (.nx ρ (tp t)) := by
  unfold chk
  have v : aC (eV 8) aN ρ (tp t) = some ([x], tp t) := by
    rw [ev_aC, ev_V, h7]; rfl
  refine (if_f (S' := tp t) ?_).trans rfl
  refine cNot_s (k := true) (cV_s ?_)
  refine call_s (ds := [.bl (isClock x), .bl (isClock x)]) (S' := tp t) ?_ rfl (like_refl 7 _ _ (by simp [lkD]))
  refine aC_s (d := .bl (isClock x)) (S' := tp t) (call_s (ds := [x]) (S' := tp t) v rfl (m_is_clock_eq x _ h)) (aC_s (d := .bl (isClock x)) (S' := tp t) (call_s (ds := [x]) (S' := tp t) v rfl (m_law_is_clock_eq x _ h)) rfl)
theorem dadd_l (xs ys : List D) (h : xs.length + ys.length ≤ 16777216) : dAdd (.lst xs) (.lst ys) = some (.lst (xs ++ ys)) := by
  show (if xs.length + ys.length ≤ 16777216 then some (D.lst (xs ++ ys)) else none) = _
  rw [if_pos h]
theorem thE_ex (t : Tape) (s0 x2 x4 x5 x6 x8 x9 : Slot) (ck : D) (hck : lkS 3 ck = true) (xs : List D) (hx : plL xs = true) (hl : xs.length ≤ 1000) : ∃ ds t', plL ds = true ∧ iAny thE [s0, .val (.obj 0), x2, .val ck, x4, x5, x6, .val (.lst xs), x8, x9] (tp t) = some (ds, tp t') := by
  obtain ⟨sp, t1, hsl, hsp, e1⟩ := compL_ex (p := .nm 9) (f := (eCall 2 (m_law_spoilt 4) (aC (eV 1) (aC (eV 3) aN)))) (ρ := [s0, .val (.obj 0), x2, .val ck, x4, x5, x6, .val (.lst xs), x8, .non]) (fun d => plD d = true) (rangeD 0 8) t (fun x _ => ⟨_, ev_bnm _ _, fun t => by
    obtain ⟨r, t', hr, e⟩ := spoilt_ex 3 ck hck t
    exact ⟨r, t', hr, call_s (ds := [.obj 0, ck]) (S' := tp t) rfl rfl e⟩⟩)
  obtain ⟨r, t2, hr, e2⟩ := any_ex 3 2 (by decide) t1
  have hs4 : sp.length = 8 := hsl
  refine ⟨(xs ++ sp) ++ [r], t2, plL_app (plL_app hx (plL_of hsp)) (by simp [plL, hr]), ?_⟩
  have w : thE [s0, .val (.obj 0), x2, .val ck, x4, x5, x6, .val (.lst xs), x8, x9] (tp t) = some (.lst ((xs ++ sp) ++ [r]), tp t2) := by
    unfold thE
    refine bin_s (d := .lst (xs ++ sp)) (S' := tp t1) ?_ (d2 := .lst [r]) (S2 := tp t2) ?_ (dadd_l _ _ (by simp; omega))
    · refine bin_s (d := .lst xs) (S' := tp t) rfl (d2 := .lst sp) (S2 := tp t1) ?_ (dadd_l _ _ (by omega))
      refine comp_s (ds := rangeD 0 8) (S' := tp t) ?_ (by decide) ?_
      · exact range1_s (k := 8) rfl (by decide)
      · exact e1
    · refine lst_s (ds := [r]) (aC_s (S' := tp t2) (call_s (ds := [.obj 0, .int 2]) (S' := tp t1) rfl rfl e2) rfl) (by show 1 ≤ 16777216; decide)
  rw [ev_iAny, w]
  rfl
theorem looks_good (n : Nat) (h : n = 2 ∨ n = 3 ∨ n = 4) (s : PySem.Str) (m : s ∈ looksOf n) : PySem.PyData.strOk s = true ∧ s.length ≤ 4 := by
  have key : ∀ n ∈ [2, 3, 4], ∀ s ∈ looksOf n, PySem.PyData.strOk s = true ∧ s.length ≤ 4 := by decide +kernel
  exact key n (by simp; exact h) s m
def ClkSlots (s0 x2 : Slot) (hs : List D) (l : PySem.Str) (m : Int) (x7 x8 x9 : Slot) : List Slot := [s0, .val (.obj 0), x2, .val (.tup [.tup hs, .str l, .int m]), .val (.tup hs), .val (.str l), .val (.int m), x7, x8, x9]
theorem th1_s (s0 x2 x7 x8 x9 : Slot) (hs : List D) (l : PySem.Str) (m : Int) (S : List D) (hp : plL hs = true) (lo : PySem.PyData.strOk l = true) (l4 : l.length ≤ 4) : ∃ xs, plL xs = true ∧ xs.length = 5 ∧ th1E (ClkSlots s0 x2 hs l m x7 x8 x9) S = some (.lst xs, S) := by
  have h2 : l.length ≤ 16777216 := by omega
  refine ⟨[.tup [.tup hs, .str l, .int m], .lst [.tup hs, .str l, .int m], .tup [.tup hs, .str l], .tup [.tup hs, .str l, .int 0], .tup [.tup hs, .str l, .int 7]], ?_, rfl, rfl⟩
  simp [plL, plD, hp, lo, h2]
theorem add_ok (a b : PySem.Str) (h : a.length + b.length ≤ 16777216) : dAdd (.str a) (.str b) = some (.str (a ++ b)) := by
  show (if _ then _ else _) = _
  rw [if_pos h]
theorem th2_s (s0 x2 x7 x8 x9 : Slot) (hs : List D) (l : PySem.Str) (m : Int) (S : List D) (hp : plL hs = true) (lo : PySem.PyData.strOk l = true) (l4 : l.length ≤ 4) : ∃ xs, plL xs = true ∧ xs.length = 2 ∧ th2E (ClkSlots s0 x2 hs l m x7 x8 x9) S = some (.lst xs, S) := by
  have h2 : l.length ≤ 16777216 := by omega
  have ka : PySem.PyData.strOk ("a" : PySem.Str) = true ∧ ("a" : PySem.Str).length = 1 := by decide +kernel
  have h3 : (l ++ ("a" : PySem.Str)).length ≤ 16777216 := by rw [add_len, ka.2]; omega
  have lo2 := ok_app lo ka.1
  refine ⟨[.tup [.tup hs, .str (l ++ "a"), .int m], .tup [.lst hs, .str l, .int m]], ?_, rfl, ?_⟩
  · simp [plL, plD, hp, lo, h2, lo2, h3]
  · refine lst_s (aC_s (S' := S) (tup_s (ds := [.tup hs, .str (l ++ "a"), .int m]) (aC_s (S' := S) rfl (aC_s (d := .str (l ++ "a")) (S' := S) (bin_s (d := .str l) (S' := S) rfl (d2 := .str "a") (S2 := S) rfl (add_ok _ _ (by rw [ka.2]; omega))) rfl)) (by show 3 ≤ 16777216; decide)) (aC_s (d := .tup [.lst hs, .str l, .int m]) (S' := S) rfl rfl)) (by show 2 ≤ 16777216; decide)
theorem th3_s (s0 x2 x7 x8 x9 : Slot) (hs : List D) (l : PySem.Str) (m : Int) (S : List D) (hp : plL hs = true) (h4 : hs.length ≤ 4) (lo : PySem.PyData.strOk l = true) (l4 : l.length ≤ 4) : ∃ xs, plL xs = true ∧ xs.length = 2 ∧ th3E (ClkSlots s0 x2 hs l m x7 x8 x9) S = some (.lst xs, S) := by
  have h2 : l.length ≤ 16777216 := by omega
  have ka : PySem.PyData.strOk ("d" : PySem.Str) = true ∧ ("d" : PySem.Str).length = 1 := by decide +kernel
  have h3 : (l ++ ("d" : PySem.Str)).length ≤ 16777216 := by rw [add_len, ka.2]; omega
  have lo2 := ok_app lo ka.1
  have lo3 := ok_cut lo none (some 1)
  have l3 : (L2.cutS l none (some 1)).length ≤ 16777216 := Nat.le_trans (cut_len l none (some 1)) h2
  have sl1 : slD none (some 1) (.str l) = some (.str (L2.cutS l none (some 1))) := by
    show (if l.length ≤ 16777216 then some (D.str (L2.cutS l none (some 1))) else none) = _
    rw [if_pos h2]
  obtain ⟨ys, hy, sl2⟩ : ∃ ys, plL ys = true ∧ slD none (some 1) (.tup hs) = some (.tup ys) := by
    refine ⟨_, ?_, rfl⟩
    exact plL_of fun x m => plL_mem hp x (by
      unfold cutD at m
      exact List.mem_of_mem_drop (List.mem_of_mem_take m))
  refine ⟨[.tup [.tup (hs ++ [.int 0]), .str (l ++ "d"), .int m], .tup [.tup ys, .str (L2.cutS l none (some 1)), .int m]], ?_, rfl, ?_⟩
  · have q := plL_app hp (show plL [D.int 0] = true by simp [plL, plD])
    simp [plL, plD, q, hy, lo, h2, lo2, h3, lo3, l3]
  · refine lst_s (aC_s (S' := S) (tup_s (ds := [.tup (hs ++ [.int 0]), .str (l ++ "d"), .int m]) (aC_s (S' := S) (bin_s (d := .tup hs) (S' := S) rfl (d2 := .tup [.int 0]) (S2 := S) rfl (dv_addT _ _ (by simp; omega))) (aC_s (d := .str (l ++ "d")) (S' := S) (bin_s (d := .str l) (S' := S) rfl (d2 := .str "d") (S2 := S) rfl (add_ok _ _ (by rw [ka.2]; omega))) rfl)) (by show 3 ≤ 16777216; decide))
      (aC_s (S' := S) (tup_s (ds := [.tup ys, .str (L2.cutS l none (some 1)), .int m]) (aC_s (d := .tup ys) (S' := S) ?_ (aC_s (d := .str (L2.cutS l none (some 1))) (S' := S) ?_ rfl)) (by show 3 ≤ 16777216; decide)) rfl)) (by show 2 ≤ 16777216; decide)
    · unfold ClkSlots; simp only [ev_C, ev_V, ev_B, ev_aN, ev_aC, ev_Tup, ev_Lst, ev_Bin, ev_Un, ev_UnF, ev_cV, ev_cAnd, ev_cOr, ev_cNot, ev_cYes, ev_And, ev_Or, ev_Not, ev_If, ev_Chain, ev_Call, ev_Ix, ev_Sl, ev_oN, ev_oE, ev_aS, ev_Comp, ev_iAny, ev_iRange1, ev_iRange2, ev_iZip, ev_iEnum, ev_sNil, ev_sSeq, ev_sIf, ev_sRet, ev_sRetO, ev_sRetN, ev_sAsg, ev_sSet, ev_sSetO, ev_sPar, ev_sFor, ev_sWhile, ev_sApp, ev_sIxO, ev_sIxC, ev_sFrz, ev_sExp, ev_sPass, ev_runB, ev_forN, ev_compN, ev_put0, ev_put1, ev_wipe0, ev_wipe1, ev_bnm, ev_btup, ev_bL0, ev_bL1, dv_add, dv_sub, dv_neg, dv_lt, dv_le, dv_gt, dv_ge, dv_int, dv_abs, dv_lenL, dv_lenT, dv_tupL, dv_tupT, dv_lofL, dv_lofT, dv_lofS, dv_seqL, dv_seqT, dv_ixL, dv_ixT, dv_ixO, atI_0, atI_1, atI_2, Option.bind_some, Option.bind_none, List.getElem?_cons_zero, List.getElem?_cons_succ, List.getElem?_nil, List.set_cons_zero, List.set_cons_succ, List.set_nil, List.length_cons, List.length_nil, List.map_cons, List.map_nil, List.replicate_succ, List.replicate_zero, List.cons_append, List.nil_append, Nat.reduceAdd, Nat.reduceSub, Nat.reduceLeDiff, Nat.zero_add, Nat.sub_zero, Nat.add_zero, if_true, if_false, Bool.false_eq_true, Nat.reduceEqDiff, Bool.not_true, Bool.not_false, decide_true, decide_false, ev_nat, sl2]
    · unfold ClkSlots; simp only [ev_C, ev_V, ev_B, ev_aN, ev_aC, ev_Tup, ev_Lst, ev_Bin, ev_Un, ev_UnF, ev_cV, ev_cAnd, ev_cOr, ev_cNot, ev_cYes, ev_And, ev_Or, ev_Not, ev_If, ev_Chain, ev_Call, ev_Ix, ev_Sl, ev_oN, ev_oE, ev_aS, ev_Comp, ev_iAny, ev_iRange1, ev_iRange2, ev_iZip, ev_iEnum, ev_sNil, ev_sSeq, ev_sIf, ev_sRet, ev_sRetO, ev_sRetN, ev_sAsg, ev_sSet, ev_sSetO, ev_sPar, ev_sFor, ev_sWhile, ev_sApp, ev_sIxO, ev_sIxC, ev_sFrz, ev_sExp, ev_sPass, ev_runB, ev_forN, ev_compN, ev_put0, ev_put1, ev_wipe0, ev_wipe1, ev_bnm, ev_btup, ev_bL0, ev_bL1, dv_add, dv_sub, dv_neg, dv_lt, dv_le, dv_gt, dv_ge, dv_int, dv_abs, dv_lenL, dv_lenT, dv_tupL, dv_tupT, dv_lofL, dv_lofT, dv_lofS, dv_seqL, dv_seqT, dv_ixL, dv_ixT, dv_ixO, atI_0, atI_1, atI_2, Option.bind_some, Option.bind_none, List.getElem?_cons_zero, List.getElem?_cons_succ, List.getElem?_nil, List.set_cons_zero, List.set_cons_succ, List.set_nil, List.length_cons, List.length_nil, List.map_cons, List.map_nil, List.replicate_succ, List.replicate_zero, List.cons_append, List.nil_append, Nat.reduceAdd, Nat.reduceSub, Nat.reduceLeDiff, Nat.zero_add, Nat.sub_zero, Nat.add_zero, if_true, if_false, Bool.false_eq_true, Nat.reduceEqDiff, Bool.not_true, Bool.not_false, decide_true, decide_false, ev_nat, sl1]
theorem th456 : ∃ a b c, plL a = true ∧ plL b = true ∧ plL c = true ∧ a.length = 2 ∧ b.length = 3 ∧ c.length = 3 ∧ ∀ ρ S, th4E ρ S = some (.lst a, S) ∧ th5E ρ S = some (.lst b, S) ∧ th6E ρ S = some (.lst c, S) := by
  refine ⟨[.tup [.tup [.int 1, .int 1, .int 1, .int 1], .str "aaaa", .int 1], .tup [.tup [.int 1, .int 1, .int 1, .int 1], .str "aaab", .int 1]], [.tup [.tup [.int 2, .int 4], .str "aa", .int 1], .tup [.tup [.int 1, .int 1000000], .str "ab", .int 1], .tup [.tup [.int 1, .int 1000001], .str "ab", .int 1]], [.tup [.tup [.int 1, .int (-1000000)], .str "ae", .int 1], .tup [.tup [.int 1, .bl true], .str "aa", .int 1], .non], ?_, ?_, ?_, rfl, rfl, rfl, fun ρ S => ⟨rfl, rfl, rfl⟩⟩ <;> (simp only [plL, plD]; decide +kernel)
theorem body_s (t : Tape) (s0 x2 x3 x4 x5 x6 x7 x8 x9 : Slot) : ∃ x3' x4' x5' x6' x7' x8' t', body2 [s0, .val (.obj 0), x2, x3, x4, x5, x6, x7, x8, x9] (tp t) = some (.nx [s0, .val (.obj 0), x2, x3', x4', x5', x6', x7', x8', x9] (tp t')) := by
  obtain ⟨hands, looks, marks, t1, gc, e1⟩ := clock_ex t 1000000 (by decide) (wide_sm (by decide))
  have hl := gc.len
  obtain ⟨lo, l4⟩ := looks_good hands.length (by omega) looks gc.looks
  have hp := plL_ints hands
  have hck : lkS 3 (clkD hands looks marks) = true := by
    have q : lkSL 1 (hands.map D.int) = true := by
      generalize hands = l
      induction l with
      | nil => simp [lkSL]
      | cons a l ih => simp only [List.map_cons, lkSL, lkS, ih, Bool.and_self]
    have a1 : looks.length ≤ 1000 := by omega
    have a2 : (hands.map D.int).length ≤ 1000 := by rw [List.length_map]; omega
    unfold clkD
    simp [lkS, lkSL, q, lo, a1]
    omega
  have h4 : (hands.map D.int).length ≤ 4 := by rw [List.length_map]; omega
  obtain ⟨u1, p1, n1, w1⟩ := th1_s s0 x2 x7 x8 x9 (hands.map .int) looks marks (tp t1) hp lo l4
  obtain ⟨u2, p2, n2, w2⟩ := th2_s s0 x2 (.val (.lst u1)) x8 x9 (hands.map .int) looks marks (tp t1) hp lo l4
  obtain ⟨u3, p3, n3, w3⟩ := th3_s s0 x2 (.val (.lst (u1 ++ u2))) x8 x9 (hands.map .int) looks marks (tp t1) hp h4 lo l4
  obtain ⟨u4, u5, u6, p4, p5, p6, n4, n5, n6, w⟩ := th456
  obtain ⟨ds, t2, hds, e2⟩ := thE_ex t1 s0 x2 (.val (.tup (hands.map .int))) (.val (.str looks)) (.val (.int marks)) x8 x9 (clkD hands looks marks) hck (((((u1 ++ u2) ++ u3) ++ u4) ++ u5) ++ u6) (plL_app (plL_app (plL_app (plL_app (plL_app p1 p2) p3) p4) p5) p6) (by simp only [List.length_append]; omega)
  have lp := forL_inv (p := .nm 8) (g := chk) (fun _ ρ S => ∃ x8, ρ = ClkSlots s0 x2 (hands.map .int) looks marks (.val (.lst (((((u1 ++ u2) ++ u3) ++ u4) ++ u5) ++ u6))) x8 x9 ∧ S = tp t2) ds (ClkSlots s0 x2 (hands.map .int) looks marks (.val (.lst (((((u1 ++ u2) ++ u3) ++ u4) ++ u5) ++ u6))) x8 x9) (tp t2) ⟨x8, rfl, rfl⟩ (fun pre x ρ S hx hN H => by
    obtain ⟨y, rfl, rfl⟩ := H
    exact ⟨_, _, _, ev_bnm _ _, chk_s _ x (plL_mem hds x hx) t2 rfl, _, rfl, rfl⟩)
  obtain ⟨ρ', S', e3, x8', rfl, rfl⟩ := lp
  refine ⟨.val (clkD hands looks marks), .val (.tup (hands.map .int)), .val (.str looks), .val (.int marks), .val (.lst (((((u1 ++ u2) ++ u3) ++ u4) ++ u5) ++ u6)), x8', t2, ?_⟩
  unfold body2
  refine (seq_nx (set_s (d := clkD hands looks marks) (S' := tp t1) (call_s (ds := [.obj 0, .int 1000000]) (S' := tp t) (aC_s (S' := tp t) rfl (aC_s (S' := tp t) (bin_s (S' := tp t) (S2 := tp t) rfl rfl pow_6) rfl)) rfl e1))).trans ?_
  refine (seq_nx (asg_s (d := clkD hands looks marks) (S' := tp t1) (l := [(4, .tup (hands.map .int)), (5, .str looks), (6, .int marks)]) rfl rfl)).trans ?_
  refine (seq_nx (set_s (d := .lst u1) (S' := tp t1) w1)).trans ?_
  refine (seq_nx (set_s (S' := tp t1) (bin_s (d := .lst u1) (S' := tp t1) rfl w2 (dadd_l _ _ (by omega))))).trans ?_
  refine (seq_nx (set_s (S' := tp t1) (bin_s (d := .lst (u1 ++ u2)) (S' := tp t1) rfl w3 (dadd_l _ _ (by simp only [List.length_append]; omega))))).trans ?_
  refine (seq_nx (set_s (S' := tp t1) (bin_s (d := .lst ((u1 ++ u2) ++ u3)) (S' := tp t1) rfl (w _ _).1 (dadd_l _ _ (by simp only [List.length_append]; omega))))).trans ?_
  refine (seq_nx (set_s (S' := tp t1) (bin_s (d := .lst (((u1 ++ u2) ++ u3) ++ u4)) (S' := tp t1) rfl (w _ _).2.1 (dadd_l _ _ (by simp only [List.length_append]; omega))))).trans ?_
  refine (seq_nx (set_s (S' := tp t1) (bin_s (d := .lst ((((u1 ++ u2) ++ u3) ++ u4) ++ u5)) (S' := tp t1) rfl (w _ _).2.2 (dadd_l _ _ (by simp only [List.length_append]; omega))))).trans ?_
  exact for_s e2 e3
theorem end_s (ρ : List Slot) (S : List D) : endE ρ S = some (.bl true, S) := by
  unfold endE
  have hp : plD (.tup [.tup [.int 1, .int 1, .int 2, .int 3], .str "abcd", .int 6]) = true := by simp only [plL, plD]; decide +kernel
  have v : isClock (.tup [.tup [.int 1, .int 1, .int 2, .int 3], .str "abcd", .int 6]) = true := by decide +kernel
  have q := m_is_clock_eq _ S hp
  rw [v] at q
  exact bin_s (S' := S) (call_s (ds := [.tup [.tup [.int 1, .int 1, .int 2, .int 3], .str "abcd", .int 6]]) (S' := S) rfl rfl q) (d2 := .bl true) (S2 := S) rfl rfl
theorem THE (ns : List Int) (h : ns.length ≤ 63) : m_law [.scr ns] [] = some (.bl true, []) := by
  unfold m_law
  rw [g_law_is]
  refine run_rt (ρ := [.val (.scr ns), .non, .non, .non, .non, .non, .non, .non, .non, .non]) rfl ?_
  have q := forL_inv (p := .nm 2) (g := body2) (fun _ ρ S => ∃ x2 x3 x4 x5 x6 x7 x8 x9 t, ρ = [.val (.scr ns), .val (.obj 0), x2, x3, x4, x5, x6, x7, x8, x9] ∧ S = tp t) (rangeD 0 16) [.val (.scr ns), .val (.obj 0), .non, .non, .non, .non, .non, .non, .non, .non] (tp ⟨ns, 0, 0⟩) ⟨.non, .non, .non, .non, .non, .non, .non, .non, _, rfl, rfl⟩ (fun pre x ρ S hx hN H => by
    obtain ⟨x2, x3, x4, x5, x6, x7, x8, x9, t, rfl, rfl⟩ := H
    obtain ⟨x3', x4', x5', x6', x7', x8', t', e⟩ := body_s t (.val (.scr ns)) (.val x) x3 x4 x5 x6 x7 x8 x9
    exact ⟨_, _, _, ev_bnm _ _, e, _, _, _, _, _, _, _, _, _, rfl, rfl⟩)
  obtain ⟨ρ', S', e, x2, x3, x4, x5, x6, x7, x8, x9, t, rfl, rfl⟩ := q
  have z : sSeq (sFor (.nm 2) (iRange1 (aC (eC (.int 16)) aN)) body2) (sRet endE) [.val (.scr ns), .val (.obj 0), .non, .non, .non, .non, .non, .non, .non, .non] (tp ⟨ns, 0, 0⟩) = some (.rt (.bl true) (tp t)) := by
    refine (seq_nx (for_s (range1_s (k := 16) (S' := tp ⟨ns, 0, 0⟩) rfl (by decide)) e)).trans ?_
    exact ret_s (end_s _ _)
  unfold sCell
  have w : (eLst (aC (eUnF lOf (eB 0)) (aC (eC (.int 0)) (aC (eC (.int 0)) aN)))) [.val (.scr ns), .non, .non, .non, .non, .non, .non, .non, .non, .non] [] = some (.lst [.lst (ns.map .int), .int 0, .int 0], []) := by rfl
  simp only [w, Option.bind_some]
  have z' : sSeq (sFor (.nm 2) (iRange1 (aC (eC (.int 16)) aN)) body2) (sRet endE) ([Slot.val (.scr ns), .non, .non, .non, .non, .non, .non, .non, .non, .non].set 1 (.val (.obj 0))) [.lst [.lst (ns.map .int), .int 0, .int 0]] = some (.rt (.bl true) (tp t)) := z
  rw [z']
  rfl
end K
open PySem PySem.W PySem.Calls PyProof.Rows in
set_option maxRecDepth 100000 in
set_option maxHeartbeats 0 in
theorem PySem.Challenge.cw_unclearhands_k01_clocks_recognized_holds : PySem.Challenge.rw_unclearhands_k01_clocks_recognized.Holds := by
  w_on; o_law
  refine HandSHeadRun.head_any (r := OpenLaw.row PySem.Challenge.rw_unclearhands_k01_clocks_recognized) (q := view (OpenLaw.row PySem.Challenge.rw_unclearhands_k01_clocks_recognized).prog [20]) (H := K.hkT) (ob := K.obT) (M := 4000) (loose := K.looseT) (d := HandSHeadRun.topDef (OpenLaw.row PySem.Challenge.rw_unclearhands_k01_clocks_recognized).prog 20) (kwd := []) K.ob_eq
    (by kernel_rfl) (fun s => by kernel_rfl) K.runT (by kernel_rfl) (by kernel_rfl) (by kernel_rfl) (by rfl) (by first | assumption | decide +kernel) (by decide +kernel) ⟨rfl, rfl, rfl, rfl, rfl, by decide +kernel⟩ ?hw ?hc
  case hw => w_witness2
  case hc =>
    refine L2.walk_ofE (l := PySem.Challenge.rw_unclearhands_k01_clocks_recognized) (n := 63) (k := 9) (x := "_law_script") (CX := L2.CX0) rfl (by decide) (by kernel_rfl) ⟨rfl, by decide, by decide⟩ ?F (fun _ _ _ _ z => z)
    intro w mg fa h Y G hmg0
    obtain ⟨KW, KX, c⟩ := Y
    have hmg : mg ("law" : PySem.Str) = some (.ref fa) := by
      have e : (HandSHeadRun.topDef (OpenLaw.row PySem.Challenge.rw_unclearhands_k01_clocks_recognized).prog 20).name = ("law" : PySem.Str) := by kernel_rfl
      rw [← e]
      exact hmg0
    obtain ⟨fd, hb, hF⟩ := K.factsT (P := (PySem.Challenge.rw_unclearhands_k01_clocks_recognized).prog) (w := w) KX G hmg c
    exact ⟨KW, fd, DL.spM false KW 1 K.m_law, KX, hb, fun H a ns hl _ hS => DL.law_end hS (K.THE ns hl), hF⟩
