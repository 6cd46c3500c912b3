import PyProof.Rows.All
import HandS.ForMost
import KE.KDictKeyed
import HandS.Defaults
import KE.GoesZip
import KE.GoesMore
import KE.GoesEnum
import HandS.Wide
import HandS.TupAny
import HandS.Deep
import HandS.IsInst
import HandS.Star
import HandS.Style
import HandS.More
import HandS.Text
import HandS.SortInts
import HandS.SetFor
import HandS.Comp
import KE.SortData
import HandS.Strs
import HandS.HeadHook2
import HandS.Conv
import HandS.Dict
import HandS.Iter
import KE.KDictWalk
import KE.KDictOf
import KE.KDictCopyH
import KE.KDictDisplayH
import HandS.DictComp
import HandS.HeadEnd
import HandS.Head2
import PySem.Challenge.RW_unclearhands_k07_whole_two_hands
set_option Elab.async false
set_option linter.all false
set_option autoImplicit false
set_option maxRecDepth 100000
set_option maxHeartbeats 4000000
namespace DL
open PySem PySem.Spec PyProof.Rows L2
structure KW where
  f : PySem.W.Frag
  w : World
instance : CoeOut KW PySem.W.Frag := ⟨KW.f⟩
inductive D where
  | non | bl (b : Bool) | int (i : Int) | str (s : Str) | obj (i : Nat) | tup (xs : List D) | lst (xs : List D) | dct (kvs : List (D × D)) | scr (ns : List Int)
  deriving Inhabited
inductive Slot where
  | non | val (d : D) | own (d : D)
  deriving Inhabited
mutual
def keyD : D → NestedKey
  | .int i => .num i
  | .str x => .text x
  | .tup xs => .tup (keyL xs)
  | _ => .none
def keyL : List D → List NestedKey
  | [] => []
  | x :: xs => keyD x :: keyL xs
end
mutual
def kyD : Nat → D → Bool
  | _, .non => true
  | _, .int _ => true
  | _, .str _ => true
  | n + 1, .tup xs => kyL n xs
  | _, _ => false
def kyL : Nat → List D → Bool
  | _, [] => true
  | n, x :: xs => kyD n x && kyL n xs
end
def isTupD : D → Bool
  | .tup _ => true
  | _ => false
def keysOk (kvs : List (D × D)) : Bool := kvs.all fun kv => isTupD kv.1 && kyD 7 kv.1
def DictRel (w : World) (h : Heap) (a : Addr) (o : Obj) (xs : List (NestedKey × Addr × V)) : Prop := (a == sysModules) = false ∧ xs.length ≤ sizeLine ∧ (xs.map (·.1)).Nodup ∧
  ∃ ys : List (NestedKey × Addr × Value), (ys.map fun y => (y.1, y.2.1)) = (xs.map fun x => (x.1, x.2.1)) ∧ Vals (xs.map (·.2.2)) (ys.map (·.2.2)) ∧
    ∃ es ep, h.get? a = some o ∧ o.ExactDict ∧ o.data = .dict es ep ∧ es.toList = ys.map fun y => ⟨NestedKey.hash w y.1, .ref y.2.1, y.2.2⟩
def DictO (w : World) (a : Addr) (o : Obj) (xs : List (NestedKey × Addr × V)) : HO := .ext fun h => DictRel w h a o xs
section
variable (K : KW) (as : List Addr) (O : Addr → Prop) (H : Hp)
mutual
inductive Rp : V → D → Prop
  | non : Rp .non .non
  | bl (b : Bool) : Rp (.bl b) (.bl b)
  | int (i : Int) : Rp (.int i) (.int i)
  | str (x : Str) : Rp (.str x) (.str x)
  | obj {a : Addr} {i : Nat} : as[i]? = some a → Rp (.ref a) (.obj i)
  | tup {a : Addr} {vs : List V} {xs : List D} : SqT K H a vs → RpL vs xs → Rp (.ref a) (.tup xs)
  | lst {a : Addr} {vs : List V} {xs : List D} : ¬ O a → H a = some (.lst vs) → RpL vs xs → Rp (.ref a) (.lst xs)
  | dct {a : Addr} {o : Obj} {xs : List (NestedKey × Addr × V)} {kvs : List (D × D)} : ¬ O a → H a = some (DictO K.w a o xs) → RpL (xs.map fun x => V.ref x.2.1) (kvs.map (·.1)) → RpL (xs.map (·.2.2)) (kvs.map (·.2)) → (xs.map (·.1)) = (kvs.map fun kv => keyD kv.1) → keysOk kvs = true → Rp (.ref a) (.dct kvs)
  | scr {a : Addr} {ns : List Int} : (¬ O a ∧ Rd H a (.lst (ns.map V.int))) ∨ (∀ H' : Hp, SqL K H' a (ns.map V.int)) → Rp (.ref a) (.scr ns)
inductive RpL : List V → List D → Prop
  | nil : RpL [] []
  | cons {v : V} {vs : List V} {d : D} {ds : List D} : Rp v d → RpL vs ds → RpL (v :: vs) (d :: ds)
end
inductive CellR (a : Addr) : D → Prop
  | lst {vs : List V} {xs : List D} : H a = some (.lst vs) → RpL K as O H vs xs → CellR a (.lst xs)
  | dct {o : Obj} {xs : List (NestedKey × Addr × V)} {kvs : List (D × D)} : H a = some (DictO K.w a o xs) → RpL K as O H (xs.map fun x => V.ref x.2.1) (kvs.map (·.1)) → RpL K as O H (xs.map (·.2.2)) (kvs.map (·.2)) → (xs.map (·.1)) = (kvs.map fun kv => keyD kv.1) → keysOk kvs = true → CellR a (.dct kvs)
end
structure Wf (as : List Addr) (O : Addr → Prop) (H : Hp) : Prop where
  sub : ∀ a ∈ as, O a
  mt : ∀ a, O a → Mut (H a)
  nd : as.Nodup
structure Cells (K : KW) (as : List Addr) (O : Addr → Prop) (H : Hp) (S : List D) : Prop where
  len : as.length = S.length
  ix : ∀ (i : Nat) (a : Addr) (d : D), as[i]? = some a → S[i]? = some d → CellR K as O H a d
def Stp (as : List Addr) (H H' : Hp) : Prop := ∀ a u, a ∉ as → H a = some u → H' a = some u
theorem Stp.refl {as : List Addr} {H : Hp} : Stp as H H := fun _ _ _ h => h
theorem Stp.trans {as : List Addr} {H H1 H2 : Hp} (a : Stp as H H1) (b : Stp as H1 H2) : Stp as H H2 := fun c u n h => b c u n (a c u n h)
theorem Same.stp {as : List Addr} {H H' : Hp} (s : Same H H') : Stp as H H' := fun a u _ h => s a u h
section
variable {K : KW} {as : List Addr} {O O' : Addr → Prop} {H H' : Hp}
theorem Wf.trk (w : Wf as O H) {a : Addr} (h : O a) : H a ≠ none := fun e => by
  have := w.mt a h
  rw [e] at this
  exact this
theorem Wf.nel (w : Wf as O H) {a : Addr} (h : H a = none) : ¬ O a := fun o => w.trk o h
def Nt (o : Option HO) : Prop := (∀ vs, o ≠ some (.tup vs)) ∧ ∀ b u, o ≠ some (.frz b u)
theorem nt_of_mut {o : Option HO} (m : Mut o) : Nt o := ⟨fun _ e => by rw [e] at m; exact m, fun _ _ e => by rw [e] at m; exact m⟩
theorem nt_none : Nt none := ⟨fun _ e => (nomatch e), fun _ _ e => (nomatch e)⟩
def Kp (O : Addr → Prop) (H H' : Hp) : Prop := ∀ a u, ¬ O a → H a = some u → H' a = some u
theorem Kp.sqT (k : Kp O H H') (m : ∀ a, O a → Nt (H a)) {a : Addr} {vs : List V} (h : SqT K H a vs) : SqT K H' a vs := by
  rcases h with (h | ⟨o, h⟩) | h
  · exact .inl (.inl (k _ _ (fun o => (m a o).1 _ h) h))
  · exact .inl (.inr ⟨o, k _ _ (fun p => (m a p).2 _ _ h) h⟩)
  · exact .inr h
theorem Kp.rd (k : Kp O H H') {a : Addr} {u : HO} (n : ¬ O a) (h : Rd H a u) : Rd H' a u := by
  rcases h with h | ⟨o, h⟩
  · exact .inl (k _ _ n h)
  · exact .inr ⟨o, k _ _ n h⟩
mutual
theorem Rp.kp (m : ∀ a, O a → Nt (H a)) (k : Kp O H H') : ∀ (v : V) (d : D), Rp K as O H v d → Rp K as O H' v d
  | _, _, .non => .non
  | _, _, .bl b => .bl b
  | _, _, .int i => .int i
  | _, _, .str x => .str x
  | _, _, .obj h => .obj h
  | _, _, .tup h r => .tup (k.sqT m h) (RpL.kp m k _ _ r)
  | _, _, .lst n h r => .lst n (k _ _ n h) (RpL.kp m k _ _ r)
  | _, _, .dct n h r t e o => .dct n (k _ _ n h) (RpL.kp m k _ _ r) (RpL.kp m k _ _ t) e o
  | _, _, .scr h => .scr (h.elim (fun z => .inl ⟨z.1, k.rd z.1 z.2⟩) .inr)
theorem RpL.kp (m : ∀ a, O a → Nt (H a)) (k : Kp O H H') : ∀ (vs : List V) (ds : List D), RpL K as O H vs ds → RpL K as O H' vs ds
  | _, _, .nil => .nil
  | _, _, .cons r t => .cons (Rp.kp m k _ _ r) (RpL.kp m k _ _ t)
end
mutual
theorem Rp.anti (s : ∀ a, O' a → O a) : ∀ (v : V) (d : D), Rp K as O H v d → Rp K as O' H v d
  | _, _, .non => .non
  | _, _, .bl b => .bl b
  | _, _, .int i => .int i
  | _, _, .str x => .str x
  | _, _, .obj h => .obj h
  | _, _, .tup h r => .tup h (RpL.anti s _ _ r)
  | _, _, .lst n h r => .lst (fun o => n (s _ o)) h (RpL.anti s _ _ r)
  | _, _, .dct n h r t e k => .dct (fun o => n (s _ o)) h (RpL.anti s _ _ r) (RpL.anti s _ _ t) e k
  | _, _, .scr h => .scr (h.elim (fun z => .inl ⟨fun o => z.1 (s _ o), z.2⟩) .inr)
theorem RpL.anti (s : ∀ a, O' a → O a) : ∀ (vs : List V) (ds : List D), RpL K as O H vs ds → RpL K as O' H vs ds
  | _, _, .nil => .nil
  | _, _, .cons r t => .cons (Rp.anti s _ _ r) (RpL.anti s _ _ t)
end
def ad (O : Addr → Prop) (p : Addr) : Addr → Prop := fun a => O a ∨ a = p
mutual
theorem Rp.ad {p : Addr} (hp : H p = none) : ∀ (v : V) (d : D), Rp K as O H v d → Rp K as (ad O p) H v d
  | _, _, .non => .non
  | _, _, .bl b => .bl b
  | _, _, .int i => .int i
  | _, _, .str x => .str x
  | _, _, .obj h => .obj h
  | _, _, .tup h r => .tup h (RpL.ad hp _ _ r)
  | _, _, .lst n h r => .lst (fun o => by
      rcases o with o | o
      · exact n o
      · rw [o, hp] at h; cases h) h (RpL.ad hp _ _ r)
  | _, _, .dct n h r t e k => .dct (fun o => by
      rcases o with o | o
      · exact n o
      · rw [o, hp] at h; cases h) h (RpL.ad hp _ _ r) (RpL.ad hp _ _ t) e k
  | _, _, .scr h => .scr (h.elim (fun ⟨n, h⟩ => .inl ⟨fun o => by
      rcases o with o | o
      · exact n o
      · rcases h with h | ⟨_, h⟩ <;> (rw [o, hp] at h; cases h), h⟩) .inr)
theorem RpL.ad {p : Addr} (hp : H p = none) : ∀ (vs : List V) (ds : List D), RpL K as O H vs ds → RpL K as (ad O p) H vs ds
  | _, _, .nil => .nil
  | _, _, .cons r t => .cons (Rp.ad hp _ _ r) (RpL.ad hp _ _ t)
end
end
end DL
namespace DL
open PySem PySem.Spec PyProof.Rows L2
section
variable {K : KW} {as bs : List Addr} {O : Addr → Prop} {H : Hp}
mutual
theorem rpAs1 (h : ∀ (i : Nat) (a : Addr), as[i]? = some a → bs[i]? = some a) : ∀ (v : V) (d : D), Rp K as O H v d → Rp K bs O H v d
  | _, _, .non => .non
  | _, _, .bl b => .bl b
  | _, _, .int i => .int i
  | _, _, .str x => .str x
  | _, _, .obj q => .obj (h _ _ q)
  | _, _, .tup q r => .tup q (rpAs2 h _ _ r)
  | _, _, .lst n q r => .lst n q (rpAs2 h _ _ r)
  | _, _, .dct n q r t e k => .dct n q (rpAs2 h _ _ r) (rpAs2 h _ _ t) e k
  | _, _, .scr q => .scr q
theorem rpAs2 (h : ∀ (i : Nat) (a : Addr), as[i]? = some a → bs[i]? = some a) : ∀ (vs : List V) (ds : List D), RpL K as O H vs ds → RpL K bs O H vs ds
  | _, _, .nil => .nil
  | _, _, .cons r t => .cons (rpAs1 h _ _ r) (rpAs2 h _ _ t)
end
theorem rpAs (h : ∀ (i : Nat) (a : Addr), as[i]? = some a → bs[i]? = some a) : (∀ (v : V) (d : D), Rp K as O H v d → Rp K bs O H v d) ∧ ∀ (vs : List V) (ds : List D), RpL K as O H vs ds → RpL K bs O H vs ds := ⟨rpAs1 h, rpAs2 h⟩
end
end DL
namespace DL
open PySem PySem.Spec PyProof.Rows L2
def kw (X : Cx) : KW := ⟨X.K, X.w⟩
section
variable {K : KW} {as : List Addr} {O O' : Addr → Prop} {H H' : Hp} {S S' : List D}
theorem CellR.mt {a : Addr} {d : D} (c : CellR K as O H a d) : Mut (H a) := by
  cases c with
  | lst h r => rw [h]; trivial
  | dct h r t e k => rw [h]; trivial
theorem Cells.mt (c : Cells K as O H S) {a : Addr} (h : a ∈ as) : Mut (H a) := by
  obtain ⟨i, hi, e⟩ := List.getElem_of_mem h
  have hs : i < S.length := by rw [← c.len]; exact hi
  exact (c.ix i a S[i] (by rw [List.getElem?_eq_getElem hi, e]) (List.getElem?_eq_getElem hs)).mt
theorem Stp.kp (s : Stp as H H') (sub : ∀ a ∈ as, O a) : Kp O H H' := fun a u n h => s a u (fun m => n (sub a m)) h
theorem Wf.step (w : Wf as O H) (s : Stp as H H') (c : Cells K as O H' S') : Wf as O H' := by
  refine ⟨w.sub, fun a o => ?_, w.nd⟩
  by_cases m : a ∈ as
  · exact c.mt m
  · have q := w.mt a o
    cases e : H a with
    | none => rw [e] at q; exact q.elim
    | some u => rw [s a u m e, ← e]; exact q
theorem Wf.nt (w : Wf as O H) : ∀ a, O a → Nt (H a) := fun a o => nt_of_mut (w.mt a o)
theorem Rp.stp (w : Wf as O H) (s : Stp as H H') {v : V} {d : D} (r : Rp K as O H v d) : Rp K as O H' v d := Rp.kp w.nt (s.kp w.sub) v d r
theorem RpL.stp (w : Wf as O H) (s : Stp as H H') {v : List V} {d : List D} (r : RpL K as O H v d) : RpL K as O H' v d := RpL.kp w.nt (s.kp w.sub) v d r
theorem CellR.same (w : Wf as O H) (s : Stp as H H') {a : Addr} {d : D} (e : H' a = H a) (c : CellR K as O H a d) : CellR K as O H' a d := by
  cases c with
  | lst h r => exact .lst (e.trans h) (r.stp w s)
  | dct h r t e1 k => exact .dct (e.trans h) (r.stp w s) (t.stp w s) e1 k
theorem Same.eq (s : Same H H') {a : Addr} (h : H a ≠ none) : H' a = H a := by
  cases e : H a with
  | none => exact absurd e h
  | some u => exact s a u e
theorem Cells.same (c : Cells K as O H S) (w : Wf as O H) (s : Same H H') : Cells K as O H' S :=
  ⟨c.len, fun i a d e1 e2 => (c.ix i a d e1 e2).same w (Same.stp s) (Same.eq s (w.trk (w.sub a (List.mem_of_getElem? e1))))⟩
theorem Wf.same (w : Wf as O H) (s : Same H H') : Wf as O H' := ⟨w.sub, fun a o => by rw [Same.eq s (w.trk o)]; exact w.mt a o, w.nd⟩
theorem CellR.stp (w : Wf as O H) (s : Stp as H H') {a : Addr} {d : D} (c : CellR K as O H a d) (n : a ∉ as) : CellR K as O H' a d := c.same w s (by
  cases q : H a with
  | none => have := c.mt; rw [q] at this; exact this.elim
  | some u => exact s a u n q)
def RpB (K : KW) (as : List Addr) (O : Addr → Prop) (H : Hp) (v : V) (d : D) : Prop := Rp K as O H v d ∨ ∃ a, v = .ref a ∧ a ∉ as ∧ CellR K as O H a d
theorem RpB.stp (w : Wf as O H) (s : Stp as H H') {v : V} {d : D} (r : RpB K as O H v d) : RpB K as O H' v d := by
  rcases r with r | ⟨a, e, n, c⟩
  · exact .inl (r.stp w s)
  · refine .inr ⟨a, e, n, c.same w s ?_⟩
    cases q : H a with
    | none => have := c.mt; rw [q] at this; exact this.elim
    | some u => exact s a u n q
structure RelE (K : KW) (as : List Addr) (O : Addr → Prop) (σ : L2.St) (H : Hp) (ρ : List Slot) (S : List D) : Prop where
  wf : Wf as O H
  cells : Cells K as O H S
  len : σ.length = ρ.length
  val : ∀ (i : Nat) (d : D), ρ[i]? = some (.val d) → ∃ v, σ[i]? = some (some v) ∧ Rp K as O H v d
  own : ∀ (i : Nat) (d : D), ρ[i]? = some (.own d) → ∃ a, σ[i]? = some (some (.ref a)) ∧ a ∉ as ∧ CellR K as O H a d
theorem RelE.step {σ : L2.St} {ρ : List Slot} (r : RelE K as O σ H ρ S) (s : Stp as H H') (c : Cells K as O H' S') : RelE K as O σ H' ρ S' :=
  ⟨r.wf.step s c, c, r.len, fun i d e => let ⟨v, h, q⟩ := r.val i d e; ⟨v, h, q.stp r.wf s⟩, fun i d e => let ⟨a, h, n, q⟩ := r.own i d e; ⟨a, h, n, q.stp r.wf s n⟩⟩
end
abbrev Ev := List Slot → List D → Option (D × List D)
abbrev Ea := List Slot → List D → Option (List D × List D)
abbrev Et := List Slot → List D → Option (Bool × List D)
def tOf (K : KW) (f : Ev) : TE := fun σ H Q => ∃ as O ρ S d S', RelE K as O σ H ρ S ∧ f ρ S = some (d, S') ∧
  ∀ v H', Stp as H H' → Cells K as O H' S' → Rp K as O H' v d → Q v H'
def tOfB (K : KW) (f : Ev) : TE := fun σ H Q => ∃ as O ρ S d S', RelE K as O σ H ρ S ∧ f ρ S = some (d, S') ∧
  ∀ v H', Stp as H H' → Cells K as O H' S' → RpB K as O H' v d → Q v H'
def tOfA (K : KW) (f : Ea) : TA := fun σ H Q => ∃ as O ρ S ds S', RelE K as O σ H ρ S ∧ f ρ S = some (ds, S') ∧
  ∀ vs H', Stp as H H' → Cells K as O H' S' → RpL K as O H' vs ds → Q vs H'
def tOfT (K : KW) (f : Et) : TT := fun σ H Q => ∃ as O ρ S b S', RelE K as O σ H ρ S ∧ f ρ S = some (b, S') ∧
  ∀ H', Stp as H H' → Cells K as O H' S' → Q b H'
theorem _root_.L2.PE.weak {X : Cx} {e : Expr} {t t' : TE} (h : PE X e t) (k : ∀ σ H Q, t' σ H Q → t σ H Q) : PE X e t' := ⟨fun pins s σ H Q I hw => h.run pins s σ H Q I (k _ _ _ hw)⟩
theorem _root_.L2.PT.weak {X : Cx} {e : Expr} {t t' : TT} (h : PT X e t) (k : ∀ σ H Q, t' σ H Q → t σ H Q) : PT X e t' := ⟨fun pins s σ H Q I hw => h.run pins s σ H Q I (k _ _ _ hw)⟩
theorem _root_.L2.PW.weak {X : Cx} {e : Expr} {t t' : TT} (h : PW X e t) (k : ∀ σ H Q, t' σ H Q → t σ H Q) : PW X e t' := ⟨fun wh pins s σ H Q I hw => h.run wh pins s σ H Q I (k _ _ _ hw)⟩
theorem _root_.L2.PA.weak {X : Cx} {e : List Expr} {t t' : TA} (h : PA X e t) (k : ∀ σ H Q, t' σ H Q → t σ H Q) : PA X e t' := ⟨fun ps pins s σ H Q I hw => h.run ps pins s σ H Q I (k _ _ _ hw)⟩
theorem _root_.L2.PS.weak {X : Cx} {e : Stmt} {t t' : TS} (h : PS X e t) (k : ∀ D σ H, t' D σ H → t D σ H) : PS X e t' := ⟨fun pins s σ H Q I hw => h.run pins s σ H Q I (k _ _ _ hw)⟩
theorem _root_.L2.PSs.weak {X : Cx} {e : List Stmt} {t t' : TS} (h : PSs X e t) (k : ∀ D σ H, t' D σ H → t D σ H) : PSs X e t' := ⟨fun pins s σ H Q I hw => h.run pins s σ H Q I (k _ _ _ hw)⟩
def eC (d : D) : Ev := fun _ S => some (d, S)
def eV (i : Nat) : Ev := fun ρ S => match ρ[i]? with
  | some (.val d) => some (d, S)
  | _ => none
def eB (i : Nat) : Ev := fun ρ S => match ρ[i]? with
  | some (.val d) => some (d, S)
  | some (.own d) => some (d, S)
  | _ => none
section
variable {X : Cx} {pos : Pos} {e a b c : Expr} {es : List Expr} {f fa fb : Ev} {fs : Ea} {fc fd : Et}
theorem me_con {v : V} {d : D} (h : PE X e (tC v)) (r : ∀ as O H, Rp (kw X) as O H v d) : PE X e (tOf (kw X) (eC d)) := h.weak fun σ H Q q => by
  obtain ⟨as, O, ρ, S, d', S', R, hf, k⟩ := q
  cases hf
  exact k v H Stp.refl R.cells (r _ _ _)
theorem me_int {i j pos} : PE X (.Constant (.int i) j pos) (tOf (kw X) (eC (.int i))) := me_con pe_int fun _ _ _ => .int i
theorem me_bl {i j pos} : PE X (.Constant (.bool i) j pos) (tOf (kw X) (eC (.bl i))) := me_con pe_bl fun _ _ _ => .bl i
theorem me_non {j pos} : PE X (.Constant .none j pos) (tOf (kw X) (eC .non)) := me_con pe_non fun _ _ _ => .non
theorem me_str {i j pos} : PE X (.Constant (.str i) j pos) (tOf (kw X) (eC (.str i))) := me_con pe_str fun _ _ _ => .str i
theorem me_v (i : Nat) {x : Str} {pos : Pos} (hN : X.N[i]? = some x := by rfl) (hv : Vis X.env.scope x := by first | exact Or.inl rfl | exact Or.inr (Or.inl rfl) | exact Or.inr (Or.inr rfl)) (hd : (x == ("__debug__" : Str)) = false := by decide)
    (hcd : (x == ("__classdict__" : Str)) = false := by decide) : PE X (.Name x pos) (tOf (kw X) (eV i)) := (pe_var hN hv hd hcd).weak fun σ H Q q => by
  obtain ⟨as, O, ρ, S, d, S', R, hf, k⟩ := q
  unfold eV at hf
  split at hf
  · rename_i d' hr
    cases hf
    obtain ⟨v, h, r⟩ := R.val i _ hr
    exact ⟨v, h, k v H Stp.refl R.cells r⟩
  · cases hf
theorem me_bv (i : Nat) {x : Str} {pos : Pos} (hN : X.N[i]? = some x := by rfl) (hv : Vis X.env.scope x := by first | exact Or.inl rfl | exact Or.inr (Or.inl rfl) | exact Or.inr (Or.inr rfl)) (hd : (x == ("__debug__" : Str)) = false := by decide)
    (hcd : (x == ("__classdict__" : Str)) = false := by decide) : PE X (.Name x pos) (tOfB (kw X) (eB i)) := (pe_var hN hv hd hcd).weak fun σ H Q q => by
  obtain ⟨as, O, ρ, S, d, S', R, hf, k⟩ := q
  unfold eB at hf
  split at hf
  · rename_i d' hr
    cases hf
    obtain ⟨v, h, r⟩ := R.val i _ hr
    exact ⟨v, h, k v H Stp.refl R.cells (.inl r)⟩
  · rename_i d' hr
    cases hf
    obtain ⟨a, h, n, r⟩ := R.own i _ hr
    exact ⟨_, h, k _ H Stp.refl R.cells (.inr ⟨a, rfl, n, r⟩)⟩
  · cases hf
theorem me_b (h : PE X e (tOf (kw X) f)) : PE X e (tOfB (kw X) f) := h.weak fun σ H Q q => by
  obtain ⟨as, O, ρ, S, d, S', R, hf, k⟩ := q
  exact ⟨as, O, ρ, S, d, S', R, hf, fun v H' s c r => k v H' s c (.inl r)⟩
def aN : Ea := fun _ S => some ([], S)
def aC (f : Ev) (fs : Ea) : Ea := fun ρ S => (f ρ S).bind fun p => (fs ρ p.2).bind fun q => some (p.1 :: q.1, q.2)
theorem ma_nil : PA X [] (tOfA (kw X) aN) := pa_nil.weak fun σ H Q q => by
  obtain ⟨as, O, ρ, S, d, S', R, hf, k⟩ := q
  cases hf
  exact k [] H Stp.refl R.cells .nil
theorem ma_cons (ha : PE X e (tOf (kw X) f)) (hr : PA X es (tOfA (kw X) fs)) (hs : starEach (e :: es) X.env = (false, eval e X.env) :: starEach es X.env := by rfl) : PA X (e :: es) (tOfA (kw X) (aC f fs)) := (pa_cons ha hr hs).weak fun σ H Q q => by
  obtain ⟨as, O, ρ, S, d, S', R, hf, k⟩ := q
  unfold aC at hf
  obtain ⟨⟨d1, S1⟩, h1, hf⟩ := Option.bind_eq_some_iff.mp hf
  obtain ⟨⟨d2, S2⟩, h2, hf⟩ := Option.bind_eq_some_iff.mp hf
  cases hf
  refine ⟨as, O, ρ, S, d1, S1, R, h1, fun v H1 s1 c1 r1 => ?_⟩
  have R1 := R.step s1 c1
  refine ⟨as, O, ρ, S1, d2, _, R1, h2, fun vs H2 s2 c2 r2 => ?_⟩
  exact k _ H2 (s1.trans s2) c2 (.cons (r1.stp R1.wf s2) r2)
theorem Rp.length {K : KW} {as : List Addr} {O : Addr → Prop} {H : Hp} : ∀ {vs : List V} {ds : List D}, RpL K as O H vs ds → vs.length = ds.length
  | _, _, .nil => rfl
  | _, _, .cons _ t => congrArg (· + 1) (Rp.length t)
theorem same_new {H : Hp} {p : Addr} {o : HO} (h : H p = none) : Same H (upd H p o) := fun b u e => by rw [upd_ne (ne_of_none e h)]; exact e
def eTup (fs : Ea) : Ev := fun ρ S => (fs ρ S).bind fun p => if p.1.length ≤ 16777216 then some (.tup p.1, p.2) else none
def eLst (fs : Ea) : Ev := fun ρ S => (fs ρ S).bind fun p => if p.1.length ≤ 16777216 then some (.lst p.1, p.2) else none
theorem sizeLine_16 : sizeLine = 16777216 := by decide
theorem le_line {n : Nat} (h : n ≤ 16777216) : n ≤ sizeLine := by rw [sizeLine_16]; exact h
theorem me_tup {x1} (h : PA X es (tOfA (kw X) fs)) : PE X (.Tuple es x1 pos) (tOf (kw X) (eTup fs)) := (pe_tup h).weak fun σ H Q q => by
  obtain ⟨as, O, ρ, S, d, S', R, hf, k⟩ := q
  unfold eTup at hf
  obtain ⟨⟨d1, S1⟩, h1, hf⟩ := Option.bind_eq_some_iff.mp hf
  split at hf
  · rename_i hl
    cases hf
    refine ⟨as, O, ρ, S, d1, S1, R, h1, fun vs H1 s1 c1 r1 => ?_⟩
    have R1 := R.step s1 c1
    refine ⟨by rw [Rp.length r1]; exact le_line hl, fun p hp => ?_⟩
    have sm := same_new (o := .tup vs) hp
    exact k _ _ (s1.trans (Same.stp sm)) (c1.same R1.wf sm) (.tup (.inl (.inl upd_same)) (r1.stp R1.wf (Same.stp sm)))
  · cases hf
theorem me_lst (h : PA X es (tOfA (kw X) fs)) : PE X (.List es pos) (tOf (kw X) (eLst fs)) := (pe_lst h).weak fun σ H Q q => by
  obtain ⟨as, O, ρ, S, d, S', R, hf, k⟩ := q
  unfold eLst at hf
  obtain ⟨⟨d1, S1⟩, h1, hf⟩ := Option.bind_eq_some_iff.mp hf
  split at hf
  · rename_i hl
    cases hf
    refine ⟨as, O, ρ, S, d1, S1, R, h1, fun vs H1 s1 c1 r1 => ?_⟩
    have R1 := R.step s1 c1
    refine ⟨by rw [Rp.length r1]; exact le_line hl, fun p hp => ?_⟩
    have sm := same_new (o := .lst vs) hp
    exact k _ _ (s1.trans (Same.stp sm)) (c1.same R1.wf sm) (.lst (R1.wf.nel hp) upd_same (r1.stp R1.wf (Same.stp sm)))
  · cases hf
def r2D (K : KW) (g : D → D → Option D) : R2 := fun x y H Q => ∃ as O d e r, Wf as O H ∧ RpB K as O H x d ∧ RpB K as O H y e ∧ g d e = some r ∧ ∀ v H', Same H H' → Rp K as O H' v r → Q v H'
def r1D (K : KW) (g : D → Option D) : V → Hp → VK → Prop := fun x H Q => ∃ as O d r, Wf as O H ∧ RpB K as O H x d ∧ g d = some r ∧ ∀ v H', Same H H' → Rp K as O H' v r → Q v H'
def eBin (g : D → D → Option D) (fa fb : Ev) : Ev := fun ρ S => (fa ρ S).bind fun p => (fb ρ p.2).bind fun q => (g p.1 q.1).bind fun r => some (r, q.2)
def eUn (g : D → Option D) (fa : Ev) : Ev := fun ρ S => (fa ρ S).bind fun p => (g p.1).bind fun r => some (r, p.2)
theorem bin_weak {K : KW} {g : D → D → Option D} {σ : L2.St} {H : Hp} {Q : VK} (q : tOf K (eBin g fa fb) σ H Q) : tOp (r2D K g) (tOfB K fa) (tOfB K fb) σ H Q := by
  obtain ⟨as, O, ρ, S, d, S', R, hf, k⟩ := q
  unfold eBin at hf
  obtain ⟨⟨d1, S1⟩, h1, hf⟩ := Option.bind_eq_some_iff.mp hf
  obtain ⟨⟨d2, S2⟩, h2, hf⟩ := Option.bind_eq_some_iff.mp hf
  obtain ⟨r, h3, hf⟩ := Option.bind_eq_some_iff.mp hf
  cases hf
  refine ⟨as, O, ρ, S, d1, S1, R, h1, fun v H1 s1 c1 r1 => ?_⟩
  have R1 := R.step s1 c1
  refine ⟨as, O, ρ, S1, d2, S2, R1, h2, fun w H2 s2 c2 r2 => ?_⟩
  have R2 := R1.step s2 c2
  exact ⟨as, O, d1, d2, _, R2.wf, r1.stp R1.wf s2, r2, h3, fun v H' sm r => k v H' ((s1.trans s2).trans (Same.stp sm)) (c2.same R2.wf sm) r⟩
theorem un_weak {K : KW} {g : D → Option D} {σ : L2.St} {H : Hp} {Q : VK} (q : tOf K (eUn g fa) σ H Q) : tUn (r1D K g) (tOfB K fa) σ H Q := by
  obtain ⟨as, O, ρ, S, d, S', R, hf, k⟩ := q
  unfold eUn at hf
  obtain ⟨⟨d1, S1⟩, h1, hf⟩ := Option.bind_eq_some_iff.mp hf
  obtain ⟨r, h3, hf⟩ := Option.bind_eq_some_iff.mp hf
  cases hf
  refine ⟨as, O, ρ, S, d1, S1, R, h1, fun v H1 s1 c1 r1 => ?_⟩
  have R1 := R.step s1 c1
  exact ⟨as, O, d1, _, R1.wf, r1, h3, fun v H' sm r => k v H' (s1.trans (Same.stp sm)) (c1.same R1.wf sm) r⟩
theorem me_bin {op : Operator} {g : D → D → Option D} (ho : OpR X (binaryOp op) (r2D (kw X) g)) (ha : PE X a (tOfB (kw X) fa)) (hb : PE X b (tOfB (kw X) fb)) : PE X (.BinOp a op b pos) (tOf (kw X) (eBin g fa fb)) :=
  (pe_op ho ha hb).weak fun _ _ _ => bin_weak
theorem me_cmp {op : CmpOp} {g : D → D → Option D} (ho : OpR X (compareOp op) (r2D (kw X) g)) (ha : PE X a (tOfB (kw X) fa)) (hb : PE X b (tOfB (kw X) fb)) (hm : behindInMarks op b = false) : PE X (.Compare a [op] [b] pos) (tOf (kw X) (eBin g fa fb)) :=
  (pe_cmpR ho ha hb hm).weak fun _ _ _ => bin_weak
theorem me_un {op : UnaryOp} {g : D → Option D} (ho : UnR X (unaryOp op) (r1D (kw X) g)) (ha : PE X a (tOfB (kw X) fa)) : PE X (.UnaryOp op a pos) (tOf (kw X) (eUn g fa)) :=
  (pe_un ho ha).weak fun _ _ _ => un_weak
def cV (f : Ev) : Et := fun ρ S => (f ρ S).bind fun p => match p.1 with
  | .bl b => some (b, p.2)
  | _ => none
theorem mt_cmp {op : CmpOp} {g : D → D → Option D} (ho : OpR X (compareOp op) (r2D (kw X) g)) (ha : PE X a (tOfB (kw X) fa)) (hb : PE X b (tOfB (kw X) fb)) (hm : behindInMarks op b = false) : PT X (.Compare a [op] [b] pos) (tOfT (kw X) (cV (eBin g fa fb))) :=
  (pt_cmpR ho ha hb hm).weak fun σ H Q q => by
    obtain ⟨as, O, ρ, S, d, S', R, hf, k⟩ := q
    unfold cV at hf
    obtain ⟨⟨d1, S1⟩, h1, hf⟩ := Option.bind_eq_some_iff.mp hf
    refine bin_weak ⟨as, O, ρ, S, d1, S1, R, h1, fun v H' s c r => ?_⟩
    cases r with
    | bl b => cases hf; exact ⟨_, rfl, k H' s c⟩
    | _ => cases hf
theorem mt_val (h : PE X e (tOf (kw X) f)) (he : ∀ whole, isTrue e X.env whole = (do let v ← whole; standAt e.pos; holding [v] (truthy v)) := by intro _; rfl) : PT X e (tOfT (kw X) (cV f)) :=
  (pt_val h he).weak fun σ H Q q => by
    obtain ⟨as, O, ρ, S, d, S', R, hf, k⟩ := q
    unfold cV at hf
    obtain ⟨⟨d1, S1⟩, h1, hf⟩ := Option.bind_eq_some_iff.mp hf
    refine ⟨as, O, ρ, S, d1, S1, R, h1, fun v H' s c r => ?_⟩
    cases r with
    | bl b => cases hf; exact ⟨_, rfl, k H' s c⟩
    | _ => cases hf
def cAnd (fc fd : Et) : Et := fun ρ S => (fc ρ S).bind fun p => if p.1 = true then fd ρ p.2 else some (false, p.2)
def cOr (fc fd : Et) : Et := fun ρ S => (fc ρ S).bind fun p => if p.1 = true then some (true, p.2) else fd ρ p.2
def cNot (fc : Et) : Et := fun ρ S => (fc ρ S).bind fun p => some (!p.1, p.2)
theorem mw_and1 (h : PT X a (tOfT (kw X) fc)) : PW X (.BoolOp .And [a] pos) (tOfT (kw X) fc) := pw_and1 h
theorem mw_or1 (h : PT X a (tOfT (kw X) fc)) : PW X (.BoolOp .Or [a] pos) (tOfT (kw X) fc) := pw_or1 h
variable {rest : List Expr}
theorem mw_and (ha : PT X a (tOfT (kw X) fc)) (hb : PW X (.BoolOp .And (b :: rest) pos) (tOfT (kw X) fd)) : PW X (.BoolOp .And (a :: b :: rest) pos) (tOfT (kw X) (cAnd fc fd)) := (pw_and ha hb).weak fun σ H Q q => by
  obtain ⟨as, O, ρ, S, d, S', R, hf, k⟩ := q
  unfold cAnd at hf
  obtain ⟨⟨d1, S1⟩, h1, hf⟩ := Option.bind_eq_some_iff.mp hf
  refine ⟨as, O, ρ, S, d1, S1, R, h1, fun H1 s1 c1 => ?_⟩
  cases d1 with
  | true => exact ⟨as, O, ρ, S1, d, S', R.step s1 c1, hf, fun H2 s2 c2 => k H2 (s1.trans s2) c2⟩
  | false => cases hf; exact k H1 s1 c1
theorem mw_or (ha : PT X a (tOfT (kw X) fc)) (hb : PW X (.BoolOp .Or (b :: rest) pos) (tOfT (kw X) fd)) : PW X (.BoolOp .Or (a :: b :: rest) pos) (tOfT (kw X) (cOr fc fd)) := (pw_or ha hb).weak fun σ H Q q => by
  obtain ⟨as, O, ρ, S, d, S', R, hf, k⟩ := q
  unfold cOr at hf
  obtain ⟨⟨d1, S1⟩, h1, hf⟩ := Option.bind_eq_some_iff.mp hf
  refine ⟨as, O, ρ, S, d1, S1, R, h1, fun H1 s1 c1 => ?_⟩
  cases d1 with
  | false => exact ⟨as, O, ρ, S1, d, S', R.step s1 c1, hf, fun H2 s2 c2 => k H2 (s1.trans s2) c2⟩
  | true => cases hf; exact k H1 s1 c1
theorem mt_not (ha : PT X a (tOfT (kw X) fc)) : PT X (.UnaryOp .Not a pos) (tOfT (kw X) (cNot fc)) := (pt_not ha).weak fun σ H Q q => by
  obtain ⟨as, O, ρ, S, d, S', R, hf, k⟩ := q
  unfold cNot at hf
  obtain ⟨⟨d1, S1⟩, h1, hf⟩ := Option.bind_eq_some_iff.mp hf
  cases hf
  exact ⟨as, O, ρ, S, d1, S1, R, h1, fun H1 s1 c1 => k H1 s1 c1⟩
def eT (c : Et) : Ev := fun ρ S => (c ρ S).bind fun p => some (.bl p.1, p.2)
def eAnd (fa fb : Ev) : Ev := fun ρ S => (fa ρ S).bind fun p => match p.1 with
  | .bl true => fb ρ p.2
  | .bl false => some (.bl false, p.2)
  | _ => none
def eOr (fa fb : Ev) : Ev := fun ρ S => (fa ρ S).bind fun p => match p.1 with
  | .bl true => some (.bl true, p.2)
  | .bl false => fb ρ p.2
  | _ => none
def eNot (fa : Ev) : Ev := fun ρ S => (fa ρ S).bind fun p => match p.1 with
  | .bl b => some (.bl (!b), p.2)
  | _ => none
theorem me_and1 {op} (h : PE X a (tOf (kw X) fa)) : PE X (.BoolOp op [a] pos) (tOf (kw X) fa) := pe_one h
theorem me_and (ha : PE X a (tOf (kw X) fa)) (hb : PE X (.BoolOp .And (b :: rest) pos) (tOf (kw X) fb)) : PE X (.BoolOp .And (a :: b :: rest) pos) (tOf (kw X) (eAnd fa fb)) := (pe_and ha hb).weak fun σ H Q q => by
  obtain ⟨as, O, ρ, S, d, S', R, hf, k⟩ := q
  unfold eAnd at hf
  obtain ⟨⟨d1, S1⟩, h1, hf⟩ := Option.bind_eq_some_iff.mp hf
  refine ⟨as, O, ρ, S, d1, S1, R, h1, fun v H1 s1 c1 r1 => ?_⟩
  cases r1 with
  | bl b =>
    refine ⟨b, rfl, ?_⟩
    cases b with
    | true => exact ⟨as, O, ρ, S1, d, S', R.step s1 c1, hf, fun v H2 s2 c2 r => k v H2 (s1.trans s2) c2 r⟩
    | false => cases hf; exact k _ H1 s1 c1 (.bl _)
  | _ => cases hf
theorem me_or (ha : PE X a (tOf (kw X) fa)) (hb : PE X (.BoolOp .Or (b :: rest) pos) (tOf (kw X) fb)) : PE X (.BoolOp .Or (a :: b :: rest) pos) (tOf (kw X) (eOr fa fb)) := (pe_or ha hb).weak fun σ H Q q => by
  obtain ⟨as, O, ρ, S, d, S', R, hf, k⟩ := q
  unfold eOr at hf
  obtain ⟨⟨d1, S1⟩, h1, hf⟩ := Option.bind_eq_some_iff.mp hf
  refine ⟨as, O, ρ, S, d1, S1, R, h1, fun v H1 s1 c1 r1 => ?_⟩
  cases r1 with
  | bl b =>
    refine ⟨b, rfl, ?_⟩
    cases b with
    | false => exact ⟨as, O, ρ, S1, d, S', R.step s1 c1, hf, fun v H2 s2 c2 r => k v H2 (s1.trans s2) c2 r⟩
    | true => cases hf; exact k _ H1 s1 c1 (.bl _)
  | _ => cases hf
theorem me_not (ha : PE X a (tOf (kw X) fa)) : PE X (.UnaryOp .Not a pos) (tOf (kw X) (eNot fa)) := (pe_not ha).weak fun σ H Q q => by
  obtain ⟨as, O, ρ, S, d, S', R, hf, k⟩ := q
  unfold eNot at hf
  obtain ⟨⟨d1, S1⟩, h1, hf⟩ := Option.bind_eq_some_iff.mp hf
  refine ⟨as, O, ρ, S, d1, S1, R, h1, fun v H1 s1 c1 r1 => ?_⟩
  cases r1 with
  | bl b => cases hf; exact ⟨b, rfl, k _ H1 s1 c1 (.bl _)⟩
  | _ => cases hf
def eIf (c : Et) (fa fb : Ev) : Ev := fun ρ S => (c ρ S).bind fun p => if p.1 = true then fa ρ p.2 else fb ρ p.2
theorem me_if (hc : PT X c (tOfT (kw X) fc)) (ha : PE X a (tOf (kw X) fa)) (hb : PE X b (tOf (kw X) fb)) : PE X (.IfExp c a b pos) (tOf (kw X) (eIf fc fa fb)) := (pe_ifExp hc ha hb).weak fun σ H Q q => by
  obtain ⟨as, O, ρ, S, d, S', R, hf, k⟩ := q
  unfold eIf at hf
  obtain ⟨⟨d1, S1⟩, h1, hf⟩ := Option.bind_eq_some_iff.mp hf
  refine ⟨as, O, ρ, S, d1, S1, R, h1, fun H1 s1 c1 => ?_⟩
  cases d1 with
  | true => exact ⟨as, O, ρ, S1, d, S', R.step s1 c1, hf, fun v H2 s2 c2 r => k v H2 (s1.trans s2) c2 r⟩
  | false => exact ⟨as, O, ρ, S1, d, S', R.step s1 c1, hf, fun v H2 s2 c2 r => k v H2 (s1.trans s2) c2 r⟩
end
end DL
namespace DL
open PySem PySem.Spec PyProof.Rows L2
def tOfF (K : KW) (f : Ev) : TE := fun σ H Q => ∃ as O ρ S d S', RelE K as O σ H ρ S ∧ f ρ S = some (d, S') ∧
  ∀ a H', H a = none → Stp as H H' → Cells K as (ad O a) H' S' → CellR K as (ad O a) H' a d → Q (.ref a) H'
section
variable {K : KW} {as : List Addr} {O O' : Addr → Prop} {H H' : Hp} {S S' : List D}
theorem CellR.anti (s : ∀ a, O' a → O a) {a : Addr} {d : D} (c : CellR K as O H a d) : CellR K as O' H a d := by
  cases c with
  | lst h r => exact .lst h (RpL.anti s _ _ r)
  | dct h r t9 e9 k9 => exact .dct h (RpL.anti s _ _ r) (RpL.anti s _ _ t9) e9 k9
theorem Cells.anti (s : ∀ a, O' a → O a) (c : Cells K as O H S) : Cells K as O' H S := ⟨c.len, fun i a d e1 e2 => (c.ix i a d e1 e2).anti s⟩
theorem ad_sub {p : Addr} : ∀ a, O a → ad O p a := fun _ o => .inl o
theorem CellR.val {a : Addr} {d : D} (n : ¬ O' a) (s : ∀ a, O' a → O a) (c : CellR K as O H a d) : Rp K as O' H (.ref a) d := by
  cases c with
  | lst h r => exact .lst n h (RpL.anti s _ _ r)
  | dct h r t9 e9 k9 => exact .dct n h (RpL.anti s _ _ r) (RpL.anti s _ _ t9) e9 k9
end
section
variable {X : Cx} {pos : Pos} {e a b c : Expr} {es : List Expr} {f fa fb : Ev} {fs : Ea} {fc fd : Et}
theorem me_f (h : PE X e (tOfF (kw X) f)) : PE X e (tOf (kw X) f) := h.weak fun σ H Q q => by
  obtain ⟨as, O, ρ, S, d, S', R, hf, k⟩ := q
  refine ⟨as, O, ρ, S, d, S', R, hf, fun p H' n s c r => k _ H' s (c.anti ad_sub) (r.val (R.wf.nel n) ad_sub)⟩
theorem mf_lst (h : PA X es (tOfA (kw X) fs)) : PE X (.List es pos) (tOfF (kw X) (eLst fs)) := (pe_lst h).weak fun σ H Q q => by
  obtain ⟨as, O, ρ, S, d, S', R, hf, k⟩ := q
  unfold eLst at hf
  obtain ⟨⟨d1, S1⟩, h1, hf⟩ := Option.bind_eq_some_iff.mp hf
  split at hf
  · rename_i hl
    cases hf
    refine ⟨as, O, ρ, S, d1, S1, R, h1, fun vs H1 s1 c1 r1 => ?_⟩
    have R1 := R.step s1 c1
    refine ⟨by rw [Rp.length r1]; exact le_line hl, fun p hp => ?_⟩
    have sm := same_new (o := .lst vs) hp
    have hp0 : H p = none := by
      cases q : H p with
      | none => rfl
      | some u =>
        by_cases m : p ∈ as
        · have := R1.wf.trk (R1.wf.sub p m); exact absurd hp this
        · rw [s1 p u m q] at hp; cases hp
    have w2 : Wf as O (upd H1 p (.lst vs)) := R1.wf.same sm
    have kk : Kp (ad O p) H1 (upd H1 p (.lst vs)) := fun a u _ e => sm a u e
    have m1 : ∀ a, ad O p a → Nt (H1 a) := fun a o => by
      rcases o with o | o
      · exact nt_of_mut (R1.wf.mt a o)
      · rw [o, hp]; exact nt_none
    have r2 : RpL (kw X) as (ad O p) (upd H1 p (.lst vs)) vs d1 := RpL.kp m1 kk _ _ (RpL.ad hp _ _ r1)
    refine k p _ hp0 (s1.trans (Same.stp sm)) ⟨c1.len, fun i a d e1 e2 => ?_⟩ (.lst upd_same r2)
    have q := c1.ix i a d e1 e2
    have hne : a ≠ p := fun z => by
      have := q.mt
      rw [z, hp] at this
      exact this
    cases q with
    | lst h r => exact .lst ((upd_ne hne).trans h) (RpL.kp m1 kk _ _ (RpL.ad hp _ _ r))
    | dct h r t9 e9 k9 => exact .dct ((upd_ne hne).trans h) (RpL.kp m1 kk _ _ (RpL.ad hp _ _ r)) (RpL.kp m1 kk _ _ (RpL.ad hp _ _ t9)) e9 k9
  · cases hf
end
inductive Out where
  | nx (ρ : List Slot) (S : List D) | rt (d : D) (S : List D) | bk (ρ : List Slot) (S : List D) | ct (ρ : List Slot) (S : List D)
abbrev Sv := List Slot → List D → Option Out
def Ow (ρ : List Slot) (σ : L2.St) (a : Addr) : Prop := ∃ (i : Nat) (d : D), ρ[i]? = some (.own d) ∧ σ[i]? = some (some (.ref a))
def OO (O : Addr → Prop) (ρ : List Slot) (σ : L2.St) : Addr → Prop := fun a => O a ∨ Ow ρ σ a
structure Rel (K : KW) (as : List Addr) (O : Addr → Prop) (B : Addr → Prop) (G : Addr → HO → Prop) (σ : L2.St) (H : Hp) (ρ : List Slot) (S : List D) : Prop where
  sub : ∀ a ∈ as, O a
  ob : ∀ a, O a → B a
  bt : ∀ a, B a → H a ≠ none
  mt : ∀ a, O a → Mut (H a)
  nd : as.Nodup
  g : ∀ a u, G a u → H a = some u
  gas : ∀ a u, G a u → a ∉ as
  cells : Cells K as (OO O ρ σ) H S
  len : σ.length = ρ.length
  val : ∀ (i : Nat) (d : D), ρ[i]? = some (.val d) → ∃ v, σ[i]? = some (some v) ∧ Rp K as (OO O ρ σ) H v d
  own : ∀ (i : Nat) (d : D), ρ[i]? = some (.own d) → ∃ a, σ[i]? = some (some (.ref a)) ∧ ¬ B a ∧ (∀ u, ¬ G a u) ∧ CellR K as (OO O ρ σ) H a d
  dist : ∀ (i j : Nat) (d e : D) (a : Addr), i ≠ j → ρ[i]? = some (.own d) → ρ[j]? = some (.own e) → σ[i]? = some (some (.ref a)) → σ[j]? ≠ some (some (.ref a))
section
variable {K : KW} {as : List Addr} {O B : Addr → Prop} {G G' : Addr → HO → Prop} {σ : L2.St} {H H' : Hp} {ρ : List Slot} {S S' : List D}
theorem Rel.ow_own (R : Rel K as O B G σ H ρ S) {a : Addr} (h : Ow ρ σ a) : ¬ B a ∧ (∀ u, ¬ G a u) ∧ Mut (H a) := by
  obtain ⟨i, d, h1, h2⟩ := h
  obtain ⟨b, e, n, g, c⟩ := R.own i d h1
  rw [h2] at e
  cases e
  exact ⟨n, g, c.mt⟩
theorem Rel.wf (R : Rel K as O B G σ H ρ S) : Wf as (OO O ρ σ) H := by
  refine ⟨fun a m => .inl (R.sub a m), fun a o => ?_, R.nd⟩
  rcases o with o | o
  · exact R.mt a o
  · exact (R.ow_own o).2.2
theorem Rel.notas (R : Rel K as O B G σ H ρ S) {a : Addr} (h : ¬ B a) : a ∉ as := fun m => h (R.ob a (R.sub a m))
theorem Rel.e (R : Rel K as O B G σ H ρ S) : RelE K as (OO O ρ σ) σ H ρ S :=
  ⟨R.wf, R.cells, R.len, R.val, fun i d e => let ⟨a, h, n, g, c⟩ := R.own i d e; ⟨a, h, R.notas n, c⟩⟩
theorem Rel.step (R : Rel K as O B G σ H ρ S) (s : Stp as H H') (c : Cells K as (OO O ρ σ) H' S') : Rel K as O B G σ H' ρ S' := by
  have w := R.wf
  have w' := w.step s c
  have nn : ∀ a, H a ≠ none → H' a ≠ none := fun a h => by
    by_cases m : a ∈ as
    · exact w'.trk (w.sub a m)
    · cases q : H a with
      | none => exact absurd q h
      | some u => rw [s a u m q]; exact fun z => nomatch z
  refine ⟨R.sub, R.ob, fun a b => nn a (R.bt a b), fun a o => w'.mt a (.inl o), R.nd, fun a u h => s a u (R.gas a u h) (R.g a u h), R.gas, c, R.len, fun i d e => ?_, fun i d e => ?_, R.dist⟩
  · obtain ⟨v, h, r⟩ := R.val i d e
    exact ⟨v, h, r.stp w s⟩
  · obtain ⟨a, h, n, g, q⟩ := R.own i d e
    refine ⟨a, h, n, g, q.same w s ?_⟩
    cases z : H a with
    | none => have := q.mt; rw [z] at this; exact this.elim
    | some u => exact s a u (R.notas n) z
theorem get_set {α : Type} {l : List α} {i j : Nat} {x y : α} (h : (l.set i x)[j]? = some y) : (j = i ∧ x = y) ∨ (j ≠ i ∧ l[j]? = some y) := by
  by_cases e : j = i
  · subst e
    rw [List.getElem?_set_self'] at h
    cases q : l[j]? with
    | none => rw [q] at h; cases h
    | some z => rw [q] at h; exact .inl ⟨rfl, by simpa using h⟩
  · rw [List.getElem?_set_ne (Ne.symm e)] at h
    exact .inr ⟨e, h⟩
theorem ow_set {i : Nat} {x : Option V} {y : Slot} {a : Addr} (hy : ∀ d, y ≠ .own d) (h : Ow (ρ.set i y) (σ.set i x) a) : Ow ρ σ a := by
  obtain ⟨j, d, h1, h2⟩ := h
  rcases get_set h1 with ⟨rfl, e⟩ | ⟨ne, e⟩
  · exact absurd e (hy d)
  · rw [List.getElem?_set_ne (Ne.symm ne)] at h2
    exact ⟨j, d, e, h2⟩
theorem oo_set {i : Nat} {x : Option V} {y : Slot} (hy : ∀ d, y ≠ .own d) : ∀ a, OO O (ρ.set i y) (σ.set i x) a → OO O ρ σ a := fun a h => h.elim .inl fun z => .inr (ow_set hy z)
theorem Rel.set (R : Rel K as O B G σ H ρ S) (i : Nat) {v : V} {d : D} (r : Rp K as (OO O ρ σ) H v d) : Rel K as O B G (σ.set i (some v)) H (ρ.set i (.val d)) S := by
  have sb : ∀ a, OO O (ρ.set i (.val d)) (σ.set i (some v)) a → OO O ρ σ a := oo_set (fun _ z => nomatch z)
  refine ⟨R.sub, R.ob, R.bt, R.mt, R.nd, R.g, R.gas, R.cells.anti sb, by simp [R.len], fun j e h => ?_, fun j e h => ?_, fun j k e1 e2 a ne h1 h2 h3 => ?_⟩
  · rcases get_set h with ⟨rfl, q⟩ | ⟨ne, q⟩
    · cases q
      have hl : j < σ.length := by
        rw [R.len]
        obtain ⟨z, _⟩ := List.getElem?_eq_some_iff.mp h
        simpa using z
      exact ⟨v, List.getElem?_set_self hl, Rp.anti sb _ _ r⟩
    · obtain ⟨w, h2, r2⟩ := R.val j e q
      exact ⟨w, (List.getElem?_set_ne (Ne.symm ne)).trans h2, Rp.anti sb _ _ r2⟩
  · rcases get_set h with ⟨rfl, q⟩ | ⟨ne, q⟩
    · cases q
    · obtain ⟨a, h2, n, g, c⟩ := R.own j e q
      exact ⟨a, (List.getElem?_set_ne (Ne.symm ne)).trans h2, n, g, c.anti sb⟩
  · rcases get_set h1 with ⟨rfl, q⟩ | ⟨ne1, q1⟩
    · cases q
    · rcases get_set h2 with ⟨rfl, q⟩ | ⟨ne2, q2⟩
      · cases q
      · rw [List.getElem?_set_ne (Ne.symm ne1)] at h3
        rw [List.getElem?_set_ne (Ne.symm ne2)]
        exact R.dist j k e1 e2 a ne q1 q2 h3
theorem Rel.setOwn (R : Rel K as O B G σ H ρ S) (i : Nat) {a : Addr} {d : D} (hi : i < ρ.length) (n : H a = none) (s : Stp as H H') (c : Cells K as (ad (OO O ρ σ) a) H' S') (q : CellR K as (ad (OO O ρ σ) a) H' a d) :
    Rel K as O B G (σ.set i (some (.ref a))) H' (ρ.set i (.own d)) S' := by
  have R' := R.step s (c.anti ad_sub)
  have sb : ∀ b, OO O (ρ.set i (.own d)) (σ.set i (some (.ref a))) b → ad (OO O ρ σ) a b := fun b h => by
    rcases h with h | ⟨j, e, h1, h2⟩
    · exact .inl (.inl h)
    · rcases get_set h1 with ⟨rfl, z⟩ | ⟨ne, z⟩
      · rcases get_set h2 with ⟨_, y⟩ | ⟨y, _⟩
        · exact .inr (by cases y; rfl)
        · exact absurd rfl y
      · rw [List.getElem?_set_ne (Ne.symm ne)] at h2
        exact .inl (.inr ⟨j, e, z, h2⟩)
  have m1 : ∀ b, ad (OO O ρ σ) a b → Nt (H b) := fun b o => by
    rcases o with o | o
    · exact R.wf.nt b o
    · rw [o, n]; exact nt_none
  have kk : Kp (ad (OO O ρ σ) a) H H' := fun b u nb e => s b u (fun m => nb (.inl (.inl (R.sub b m)))) e
  have nb : ¬ B a := fun z => R.bt a z n
  have hl : i < σ.length := by rw [R.len]; exact hi
  refine ⟨R.sub, R.ob, R'.bt, R'.mt, R.nd, R'.g, R.gas, c.anti sb, by simp [R.len], fun j e h => ?_, fun j e h => ?_, fun j k e1 e2 b ne h1 h2 h3 => ?_⟩
  · rcases get_set h with ⟨rfl, z⟩ | ⟨ne, z⟩
    · cases z
    · obtain ⟨w, h2, r2⟩ := R.val j e z
      exact ⟨w, (List.getElem?_set_ne (Ne.symm ne)).trans h2, Rp.anti sb _ _ (Rp.kp m1 kk _ _ (Rp.ad n _ _ r2))⟩
  · rcases get_set h with ⟨rfl, z⟩ | ⟨ne, z⟩
    · cases z
      exact ⟨a, List.getElem?_set_self hl, nb, (fun u g => by
        have := R.g a u g
        rw [n] at this
        cases this), q.anti sb⟩
    · obtain ⟨b, h2, nb2, g, cb⟩ := R.own j e z
      refine ⟨b, (List.getElem?_set_ne (Ne.symm ne)).trans h2, nb2, g, ?_⟩
      cases cb with
      | lst hh r => exact .lst (s b _ (R.notas nb2) hh) (RpL.anti sb _ _ (RpL.kp m1 kk _ _ (RpL.ad n _ _ r)))
      | dct hh r t9 e9 k9 => exact .dct (s b _ (R.notas nb2) hh) (RpL.anti sb _ _ (RpL.kp m1 kk _ _ (RpL.ad n _ _ r))) (RpL.anti sb _ _ (RpL.kp m1 kk _ _ (RpL.ad n _ _ t9))) e9 k9
  · have fresh : ∀ (j : Nat) (e : D), ρ[j]? = some (.own e) → σ[j]? ≠ some (some (.ref a)) := fun j e h z => by
      obtain ⟨b, h2, _, _, cb⟩ := R.own j e h
      rw [z] at h2
      cases h2
      have := cb.mt
      rw [n] at this
      exact this
    rcases get_set h1 with ⟨rfl, q1⟩ | ⟨ne1, q1⟩
    · rcases get_set h3 with ⟨_, y⟩ | ⟨y, _⟩
      · cases y
        rcases get_set h2 with ⟨rfl, q2⟩ | ⟨ne2, q2⟩
        · exact absurd rfl ne
        · rw [List.getElem?_set_ne (Ne.symm ne2)]
          exact fresh k e2 q2
      · exact absurd rfl y
    · rw [List.getElem?_set_ne (Ne.symm ne1)] at h3
      rcases get_set h2 with ⟨rfl, q2⟩ | ⟨ne2, q2⟩
      · rw [List.getElem?_set_self hl]
        intro y
        cases y
        exact fresh j e1 q1 h3
      · rw [List.getElem?_set_ne (Ne.symm ne2)]
        exact R.dist j k e1 e2 b ne q1 q2 h3
theorem Rel.mutOwn (R : Rel K as O B G σ H ρ S) {i : Nat} {a : Addr} {d d' : D} {o : HO} (hi : ρ[i]? = some (.own d)) (ha : σ[i]? = some (some (.ref a))) (mo : Mut (some o))
    (q : CellR K as (OO O ρ σ) (upd H a o) a d') : Rel K as O B G σ (upd H a o) (ρ.set i (.own d')) S := by
  have ow : Ow ρ σ a := ⟨i, d, hi, ha⟩
  obtain ⟨nb, ng, ma⟩ := R.ow_own ow
  have na : H a ≠ none := fun z => by rw [z] at ma; exact ma
  have kk : Kp (OO O ρ σ) H (upd H a o) := fun b u n e => by
    rw [upd_ne (fun z => n (by rw [z]; exact .inr ow))]
    exact e
  have sb : ∀ b, OO O (ρ.set i (.own d')) σ b → OO O ρ σ b := fun b h => by
    rcases h with h | ⟨j, e, h1, h2⟩
    · exact .inl h
    · rcases get_set h1 with ⟨rfl, z⟩ | ⟨ne, z⟩
      · exact .inr ⟨j, d, hi, h2⟩
      · exact .inr ⟨j, e, z, h2⟩
  have w := R.wf
  refine ⟨R.sub, R.ob, fun b h => ?_, fun b h => ?_, R.nd, fun b u h => ?_, R.gas, ⟨R.cells.len, fun j b e e1 e2 => ?_⟩, by simp [R.len], fun j e h => ?_, fun j e h => ?_, fun j k e1 e2 b ne h1 h2 h3 => ?_⟩
  · rw [upd_ne (fun z => nb (by rw [← z]; exact h))]; exact R.bt b h
  · rw [upd_ne (fun z => nb (by rw [← z]; exact R.ob b h))]; exact R.mt b h
  · rw [upd_ne (fun z => ng u (by rw [← z]; exact h))]; exact R.g b u h
  · have hb : b ≠ a := fun z => R.notas nb (by rw [← z]; exact List.mem_of_getElem? e1)
    cases R.cells.ix j b e e1 e2 with
    | lst h r => exact .lst ((upd_ne hb).trans h) (RpL.anti sb _ _ (RpL.kp w.nt kk _ _ r))
    | dct h r t9 e9 k9 => exact .dct ((upd_ne hb).trans h) (RpL.anti sb _ _ (RpL.kp w.nt kk _ _ r)) (RpL.anti sb _ _ (RpL.kp w.nt kk _ _ t9)) e9 k9
  · rcases get_set h with ⟨rfl, z⟩ | ⟨ne, z⟩
    · cases z
    · obtain ⟨v, h2, r⟩ := R.val j e z
      exact ⟨v, h2, Rp.anti sb _ _ (Rp.kp w.nt kk _ _ r)⟩
  · rcases get_set h with ⟨rfl, z⟩ | ⟨ne, z⟩
    · cases z
      exact ⟨a, ha, nb, ng, q.anti sb⟩
    · obtain ⟨b, h2, n2, g2, cb⟩ := R.own j e z
      have hb : b ≠ a := fun y => by
        subst y
        exact R.dist i j d e b (Ne.symm ne) hi z ha h2
      refine ⟨b, h2, n2, g2, ?_⟩
      cases cb with
      | lst hh r => exact .lst ((upd_ne hb).trans hh) (RpL.anti sb _ _ (RpL.kp w.nt kk _ _ r))
      | dct hh r t9 e9 k9 => exact .dct ((upd_ne hb).trans hh) (RpL.anti sb _ _ (RpL.kp w.nt kk _ _ r)) (RpL.anti sb _ _ (RpL.kp w.nt kk _ _ t9)) e9 k9
  · have f : ∀ (j : Nat) (e : D), (ρ.set i (.own d'))[j]? = some (.own e) → ∃ e', ρ[j]? = some (.own e') := fun j e h => by
      rcases get_set h with ⟨rfl, z⟩ | ⟨ne, z⟩
      · exact ⟨d, hi⟩
      · exact ⟨e, z⟩
    obtain ⟨f1, g1⟩ := f j e1 h1
    obtain ⟨f2, g2⟩ := f k e2 h2
    exact R.dist j k f1 f2 b ne g1 g2 h3
theorem Rel.mutCell (R : Rel K as O B G σ H ρ S) {i : Nat} {a : Addr} {d d' : D} {o : HO} (hi : S[i]? = some d) (ha : as[i]? = some a) (mo : Mut (some o))
    (q : CellR K as (OO O ρ σ) (upd H a o) a d') : Rel K as O B G σ (upd H a o) ρ (S.set i d') := by
  have am := List.mem_of_getElem? ha
  have oa := R.sub a am
  have kk : Kp (OO O ρ σ) H (upd H a o) := fun b u n e => by
    rw [upd_ne (fun z => n (by rw [z]; exact .inl oa))]
    exact e
  have w := R.wf
  have nn : ∀ b, H b ≠ none → upd H a o b ≠ none := fun b h => by
    by_cases z : b = a
    · rw [z, upd_same]; exact fun y => nomatch y
    · rw [upd_ne z]; exact h
  refine ⟨R.sub, R.ob, fun b h => nn b (R.bt b h), fun b h => ?_, R.nd, fun b u h => ?_, R.gas, ⟨by simp [R.cells.len], fun j b e e1 e2 => ?_⟩, R.len, fun j e h => ?_, fun j e h => ?_, R.dist⟩
  · by_cases z : b = a
    · rw [z, upd_same]; exact mo
    · rw [upd_ne z]; exact R.mt b h
  · rw [upd_ne (fun z => R.gas b u h (by rw [z]; exact am))]; exact R.g b u h
  · rcases get_set e2 with ⟨rfl, z⟩ | ⟨ne, z⟩
    · cases z
      rw [ha] at e1
      cases e1
      exact q
    · have hb : b ≠ a := fun y => by
        subst y
        obtain ⟨l1, g1⟩ := List.getElem?_eq_some_iff.mp e1
        obtain ⟨l2, g2⟩ := List.getElem?_eq_some_iff.mp ha
        exact ne ((List.getElem_inj R.nd).mp (g1.trans g2.symm))
      cases R.cells.ix j b e e1 z with
      | lst h r => exact .lst ((upd_ne hb).trans h) (RpL.kp w.nt kk _ _ r)
      | dct h r t9 e9 k9 => exact .dct ((upd_ne hb).trans h) (RpL.kp w.nt kk _ _ r) (RpL.kp w.nt kk _ _ t9) e9 k9
  · obtain ⟨v, h2, r⟩ := R.val j e h
    exact ⟨v, h2, Rp.kp w.nt kk _ _ r⟩
  · obtain ⟨b, h2, n2, g2, cb⟩ := R.own j e h
    have hb : b ≠ a := fun y => R.notas n2 (by rw [y]; exact am)
    refine ⟨b, h2, n2, g2, ?_⟩
    cases cb with
    | lst hh r => exact .lst ((upd_ne hb).trans hh) (RpL.kp w.nt kk _ _ r)
    | dct hh r t9 e9 k9 => exact .dct ((upd_ne hb).trans hh) (RpL.kp w.nt kk _ _ r) (RpL.kp w.nt kk _ _ t9) e9 k9
theorem Rel.guard (R : Rel K as O B G σ H ρ S) (k : ∀ a u, G' a u → G a u) : Rel K as O B G' σ H ρ S :=
  ⟨R.sub, R.ob, R.bt, R.mt, R.nd, fun a u h => R.g a u (k a u h), fun a u h => R.gas a u (k a u h), R.cells, R.len, R.val, fun i d e => let ⟨a, h, n, g, c⟩ := R.own i d e; ⟨a, h, n, fun u z => g u (k a u z), c⟩, R.dist⟩
theorem Rel.guardNow (R : Rel K as O B G σ H ρ S) : Rel K as O B (fun a u => G a u ∨ (¬ OO O ρ σ a ∧ H a = some u)) σ H ρ S :=
  ⟨R.sub, R.ob, R.bt, R.mt, R.nd, fun a u h => h.elim (R.g a u) fun z => z.2, fun a u h => h.elim (R.gas a u) fun z m => z.1 (.inl (R.sub a m)), R.cells, R.len, R.val,
    fun i d e => let ⟨a, h, n, g, c⟩ := R.own i d e; ⟨a, h, n, fun u z => z.elim (g u) fun y => y.1 (.inr ⟨i, d, e, h⟩), c⟩, R.dist⟩
theorem Rel.freeze (R : Rel K as O B G σ H ρ S) {i : Nat} {d : D} (hi : ρ[i]? = some (.own d)) : Rel K as O B G σ H (ρ.set i (.val d)) S := by
  have sb : ∀ a, OO O (ρ.set i (.val d)) σ a → OO O ρ σ a := fun a h => by
    rcases h with h | ⟨j, e, h1, h2⟩
    · exact .inl h
    · rcases get_set h1 with ⟨rfl, z⟩ | ⟨ne, z⟩
      · cases z
      · exact .inr ⟨j, e, z, h2⟩
  refine ⟨R.sub, R.ob, R.bt, R.mt, R.nd, R.g, R.gas, R.cells.anti sb, by simp [R.len], fun j e h => ?_, fun j e h => ?_, fun j k e1 e2 b ne h1 h2 h3 => ?_⟩
  · rcases get_set h with ⟨rfl, z⟩ | ⟨ne, z⟩
    · cases z
      obtain ⟨a, h2, n, g, c⟩ := R.own j d hi
      refine ⟨.ref a, h2, c.val (fun o => ?_) sb⟩
      rcases o with o | ⟨k, e, h3, h4⟩
      · exact n (R.ob a o)
      · rcases get_set h3 with ⟨rfl, z⟩ | ⟨ne, z⟩
        · cases z
        · exact R.dist j k d e a (Ne.symm ne) hi z h2 h4
    · obtain ⟨v, h2, r⟩ := R.val j e z
      exact ⟨v, h2, Rp.anti sb _ _ r⟩
  · rcases get_set h with ⟨rfl, z⟩ | ⟨ne, z⟩
    · cases z
    · obtain ⟨a, h2, n, g, c⟩ := R.own j e z
      exact ⟨a, h2, n, g, c.anti sb⟩
  · rcases get_set h1 with ⟨rfl, q⟩ | ⟨ne1, q1⟩
    · cases q
    · rcases get_set h2 with ⟨rfl, q⟩ | ⟨ne2, q2⟩
      · cases q
      · exact R.dist j k e1 e2 b ne q1 q2 h3
end
end DL
namespace DL
open PySem PySem.Spec PyProof.Rows L2
def ResR (fr : Bool) (K : KW) (as : List Addr) (O B : Addr → Prop) (H : Hp) (S : List D) (v : V) (d : D) : Prop :=
  Cells K as O H S ∧ Rp K as O H v d ∧ (fr = true → ∃ a, v = .ref a ∧ ¬ B a ∧ CellR K as (ad O a) H a d ∧ Cells K as (ad O a) H S)
def OutOk (fr : Bool) (K : KW) (as : List Addr) (O B : Addr → Prop) (G : Addr → HO → Prop) (D : Ends) : Out → Prop
  | .nx ρ S => ∀ σ H, Rel K as O B G σ H ρ S → D.nx σ H
  | .bk ρ S => ∀ σ H, Rel K as O B G σ H ρ S → D.bk σ H
  | .ct ρ S => ∀ σ H, Rel K as O B G σ H ρ S → D.ct σ H
  | .rt d S => ∀ v H, (∀ a u, G a u → H a = some u) → ResR fr K as O B H S v d → D.rt v H
def tOfS (fr : Bool) (K : KW) (f : Sv) : TS := fun D σ H => ∃ as O B G ρ S o, Rel K as O B G σ H ρ S ∧ f ρ S = some o ∧ OutOk fr K as O B G D o
section
variable {X : Cx} {pos : Pos} {e a b c : Expr} {es : List Expr} {f fa fb : Ev} {fs : Ea} {fc fd : Et} {fr : Bool} {g1 g2 : Sv} {st : Stmt} {sts : List Stmt}
def sNil : Sv := fun ρ S => some (.nx ρ S)
def sSeq (g1 g2 : Sv) : Sv := fun ρ S => (g1 ρ S).bind fun o => match o with
  | .nx ρ' S' => g2 ρ' S'
  | o => some o
theorem mss_nil : PSs X [] (tOfS fr (kw X) sNil) := pss_nil.weak fun D σ H q => by
  obtain ⟨as, O, B, G, ρ, S, o, R, hf, k⟩ := q
  cases hf
  exact k σ H R
theorem mss_cons (h1 : PS X st (tOfS fr (kw X) g1)) (h2 : PSs X sts (tOfS fr (kw X) g2)) : PSs X (st :: sts) (tOfS fr (kw X) (sSeq g1 g2)) := (pss_cons h1 h2).weak fun D σ H q => by
  obtain ⟨as, O, B, G, ρ, S, o, R, hf, k⟩ := q
  unfold sSeq at hf
  obtain ⟨o1, h1, hf⟩ := Option.bind_eq_some_iff.mp hf
  refine ⟨as, O, B, G, ρ, S, o1, R, h1, ?_⟩
  cases o1 with
  | nx ρ' S' => exact fun σ' H' R' => ⟨as, O, B, G, ρ', S', o, R', hf, k⟩
  | rt d S' => cases hf; exact k
  | bk ρ' S' => cases hf; exact k
  | ct ρ' S' => cases hf; exact k
theorem mss_one (h1 : PS X st (tOfS fr (kw X) g1)) : PSs X [st] (tOfS fr (kw X) g1) := pss_one h1
def sIf (c : Et) (g1 g2 : Sv) : Sv := fun ρ S => (c ρ S).bind fun p => if p.1 = true then g1 ρ p.2 else g2 ρ p.2
theorem ms_if {x y : List Stmt} (hc : PT X c (tOfT (kw X) fc)) (hx : PSs X x (tOfS fr (kw X) g1)) (hy : PSs X y (tOfS fr (kw X) g2)) : PS X (.If c x y pos) (tOfS fr (kw X) (sIf fc g1 g2)) := (ps_if hc hx hy).weak fun D σ H q => by
  obtain ⟨as, O, B, G, ρ, S, o, R, hf, k⟩ := q
  unfold sIf at hf
  obtain ⟨⟨d1, S1⟩, h1, hf⟩ := Option.bind_eq_some_iff.mp hf
  refine ⟨as, _, ρ, S, d1, S1, R.e, h1, fun H1 s1 c1 => ?_⟩
  have R1 := R.step s1 c1
  cases d1 with
  | true => exact ⟨as, O, B, G, ρ, S1, o, R1, hf, k⟩
  | false => exact ⟨as, O, B, G, ρ, S1, o, R1, hf, k⟩
def sPass : Sv := fun ρ S => some (.nx ρ S)
def sBrk : Sv := fun ρ S => some (.bk ρ S)
def sCnt : Sv := fun ρ S => some (.ct ρ S)
theorem ms_pass : PS X (.Pass pos) (tOfS fr (kw X) sPass) := ps_pass.weak fun D σ H q => by
  obtain ⟨as, O, B, G, ρ, S, o, R, hf, k⟩ := q
  cases hf
  exact k σ H R
theorem ms_brk : PS X (.Break pos) (tOfS fr (kw X) sBrk) := ps_break.weak fun D σ H q => by
  obtain ⟨as, O, B, G, ρ, S, o, R, hf, k⟩ := q
  cases hf
  exact k σ H R
theorem ms_cnt : PS X (.Continue pos) (tOfS fr (kw X) sCnt) := ps_continue.weak fun D σ H q => by
  obtain ⟨as, O, B, G, ρ, S, o, R, hf, k⟩ := q
  cases hf
  exact k σ H R
def sRet (f : Ev) : Sv := fun ρ S => (f ρ S).bind fun p => some (.rt p.1 p.2)
def sRetN : Sv := fun _ S => some (.rt .non S)
def sRetO (i : Nat) : Sv := fun ρ S => match ρ[i]? with
  | some (.own d) => some (.rt d S)
  | _ => none
theorem oo_o {O : Addr → Prop} {ρ : List Slot} {σ : L2.St} : ∀ a, O a → OO O ρ σ a := fun _ h => .inl h
theorem ms_ret (h : PE X e (tOf (kw X) f)) : PS X (.Return (some e) pos) (tOfS false (kw X) (sRet f)) := (ps_ret h).weak fun D σ H q => by
  obtain ⟨as, O, B, G, ρ, S, o, R, hf, k⟩ := q
  unfold sRet at hf
  obtain ⟨⟨d1, S1⟩, h1, hf⟩ := Option.bind_eq_some_iff.mp hf
  cases hf
  refine ⟨as, _, ρ, S, d1, S1, R.e, h1, fun v H1 s1 c1 r1 => ?_⟩
  exact k v H1 (R.step s1 c1).g ⟨c1.anti oo_o, Rp.anti oo_o _ _ r1, fun z => (nomatch z)⟩
theorem ms_retN : PS X (.Return none pos) (tOfS false (kw X) sRetN) := ps_retN.weak fun D σ H q => by
  obtain ⟨as, O, B, G, ρ, S, o, R, hf, k⟩ := q
  cases hf
  exact k _ H R.g ⟨R.cells.anti oo_o, .non, fun z => (nomatch z)⟩
theorem ad_mono {O O' : Addr → Prop} {p : Addr} (s : ∀ a, O' a → O a) : ∀ a, ad O' p a → ad O p a := fun a h => h.elim (fun z => .inl (s a z)) .inr
theorem ms_retF (h : PE X e (tOfF (kw X) f)) : PS X (.Return (some e) pos) (tOfS fr (kw X) (sRet f)) := (ps_ret h).weak fun D σ H q => by
  obtain ⟨as, O, B, G, ρ, S, o, R, hf, k⟩ := q
  unfold sRet at hf
  obtain ⟨⟨d1, S1⟩, h1, hf⟩ := Option.bind_eq_some_iff.mp hf
  cases hf
  refine ⟨as, _, ρ, S, d1, S1, R.e, h1, fun p H1 n s1 c1 r1 => ?_⟩
  have nb : ¬ B p := fun z => R.bt p z n
  refine k _ H1 (R.step s1 (c1.anti ad_sub)).g ⟨(c1.anti ad_sub).anti oo_o, r1.val (fun o => nb (R.ob p o)) (fun a o => .inl (oo_o a o)), fun _ => ⟨p, rfl, nb, r1.anti (ad_mono oo_o), c1.anti (ad_mono oo_o)⟩⟩
theorem ms_retO (i : Nat) {x : Str} {p : Pos} (h : PE X (.Name x p) (tVar i)) : PS X (.Return (some (.Name x p)) pos) (tOfS fr (kw X) (sRetO i)) := (ps_ret h).weak fun D σ H q => by
  obtain ⟨as, O, B, G, ρ, S, o, R, hf, k⟩ := q
  unfold sRetO at hf
  split at hf
  · rename_i d hd
    cases hf
    obtain ⟨p, h1, nb, ng, c⟩ := R.own i d hd
    have sb : ∀ b, ad O p b → OO O ρ σ b := fun b h => h.elim .inl fun z => .inr (z ▸ ⟨i, d, hd, h1⟩)
    exact ⟨.ref p, h1, k _ H R.g ⟨R.cells.anti oo_o, c.val (fun o => nb (R.ob p o)) oo_o, fun _ => ⟨p, rfl, nb, c.anti sb, R.cells.anti sb⟩⟩⟩
  · cases hf
inductive Pat where
  | nm (i : Nat) | tup (ps : List Pat)
mutual
def binds : Pat → D → Option (List (Nat × D))
  | .nm i, d => some [(i, d)]
  | .tup ps, .tup ds => bindsL ps ds
  | .tup _, _ => none
def bindsL : List Pat → List D → Option (List (Nat × D))
  | [], [] => some []
  | p :: ps, d :: ds => (binds p d).bind fun a => (bindsL ps ds).bind fun b => some (a ++ b)
  | _, _ => none
end
def putV (σ : L2.St) : List (Nat × V) → L2.St
  | [] => σ
  | (i, v) :: r => putV (σ.set i (some v)) r
def putD (ρ : List Slot) : List (Nat × D) → List Slot
  | [] => ρ
  | (i, d) :: r => putD (ρ.set i (.val d)) r
inductive RpP (K : KW) (as : List Addr) (O : Addr → Prop) (H : Hp) : List (Nat × V) → List (Nat × D) → Prop
  | nil : RpP K as O H [] []
  | cons {i : Nat} {v : V} {d : D} {vs : List (Nat × V)} {ds : List (Nat × D)} : Rp K as O H v d → RpP K as O H vs ds → RpP K as O H ((i, v) :: vs) ((i, d) :: ds)
theorem RpP.app {K : KW} {as : List Addr} {O : Addr → Prop} {H : Hp} : ∀ {a b : List (Nat × V)} {c d : List (Nat × D)}, RpP K as O H a c → RpP K as O H b d → RpP K as O H (a ++ b) (c ++ d)
  | _, _, _, _, .nil, h => h
  | _, _, _, _, .cons r t, h => .cons r (RpP.app t h)
theorem putV_app (σ : L2.St) : ∀ (a b : List (Nat × V)), putV (putV σ a) b = putV σ (a ++ b)
  | [], _ => rfl
  | (i, v) :: r, b => putV_app (σ.set i (some v)) r b
def gOf (K : KW) (p : Pat) : TG := fun v σ H Q => ∃ as O d l, Rp K as O H v d ∧ binds p d = some l ∧ ∀ vl, RpP K as O H vl l → Q (putV σ vl) H
def gsOf (K : KW) (ps : List Pat) : TGs := fun vs σ H Q => ∃ as O ds l, RpL K as O H vs ds ∧ bindsL ps ds = some l ∧ ∀ vl, RpP K as O H vl l → Q (putV σ vl) H
theorem _root_.L2.PG.weak {X : Cx} {e : Expr} {t t' : TG} (h : PG X e t) (k : ∀ v σ H Q, t' v σ H Q → t v σ H Q) : PG X e t' := ⟨fun pins s σ H v u Q I r hw => h.run pins s σ H v u Q I r (k _ _ _ _ hw)⟩
theorem _root_.L2.PGs.weak {X : Cx} {e : List Expr} {t t' : TGs} (h : PGs X e t) (k : ∀ v σ H Q, t' v σ H Q → t v σ H Q) : PGs X e t' := ⟨fun pins s σ H v u Q I r hw => h.run pins s σ H v u Q I r (k _ _ _ _ hw)⟩
theorem mg_name {i : Nat} {x : Str} (hN : X.N.Nodup) (hi : X.N[i]? = some x) (hx : Loc X.env.scope x) (hf : X.fn x = true ∨ X.env.scope.names.lookup x = some .local := by first | exact .inl rfl | exact .inr rfl | assumption) : PG X (.Name x pos) (gOf (kw X) (.nm i)) :=
  (pg_name hN hi hx hf).weak fun v σ H Q q => by
    obtain ⟨as, O, d, l, r, hb, k⟩ := q
    unfold binds at hb
    cases hb
    exact k [(i, v)] (.cons r .nil)
theorem mgs_nil : PGs X [] (gsOf (kw X) []) := pgs_nil.weak fun v σ H Q q => by
  obtain ⟨as, O, d, l, r, hb, k⟩ := q
  cases r with
  | nil => unfold bindsL at hb; cases hb; exact ⟨rfl, k [] .nil⟩
  | cons r t => unfold bindsL at hb; cases hb
theorem mgs_cons {p : Pat} {ps : List Pat} (h1 : PG X e (gOf (kw X) p)) (h2 : PGs X es (gsOf (kw X) ps)) (hs : (assignEach (e :: es) X.env).map (·.2) = assign e X.env :: (assignEach es X.env).map (·.2) := by rfl) : PGs X (e :: es) (gsOf (kw X) (p :: ps)) :=
  (pgs_cons h1 h2 hs).weak fun v σ H Q q => by
    obtain ⟨as, O, ds, l, r, hb, k⟩ := q
    cases r with
    | nil => unfold bindsL at hb; cases hb
    | cons r t =>
      unfold bindsL at hb
      obtain ⟨a1, h1, hb⟩ := Option.bind_eq_some_iff.mp hb
      obtain ⟨a2, h2, hb⟩ := Option.bind_eq_some_iff.mp hb
      cases hb
      exact ⟨_, _, rfl, as, O, _, a1, r, h1, fun vl r1 => ⟨as, O, _, a2, t, h2, fun vl2 r2 => by rw [putV_app]; exact k _ (r1.app r2)⟩⟩
theorem bindsL_len : ∀ {ps : List Pat} {ds : List D} {l : List (Nat × D)}, bindsL ps ds = some l → ds.length = ps.length
  | [], [], _, _ => rfl
  | [], _ :: _, _, h => by unfold bindsL at h; cases h
  | _ :: _, [], _, h => by unfold bindsL at h; cases h
  | p :: ps, d :: ds, _, h => by
    unfold bindsL at h
    obtain ⟨a1, h1, h⟩ := Option.bind_eq_some_iff.mp h
    obtain ⟨a2, h2, h⟩ := Option.bind_eq_some_iff.mp h
    exact congrArg (· + 1) (bindsL_len h2)
theorem mg_tup {k : Nat} {ps : List Pat} (hc : X.calm = true) (h : PGs X es (gsOf (kw X) ps)) (hn : (assignEach es X.env).length = ps.length := by rfl) (hst : (assignEach es X.env).findIdx? (·.1) = none := by rfl) : PG X (.Tuple es k pos) (gOf (kw X) (.tup ps)) :=
  (pg_tup hc h hn hst).weak fun v σ H Q q => by
    obtain ⟨as, O, d, l, r, hb, k⟩ := q
    cases r with
    | tup h t =>
      unfold binds at hb
      exact ⟨_, _, rfl, h, (Rp.length t).trans (bindsL_len hb), as, O, _, l, t, hb, k⟩
    | _ => unfold binds at hb; cases hb
section
variable {K : KW} {as : List Addr} {O B : Addr → Prop} {G : Addr → HO → Prop} {H : Hp} {S : List D}
theorem RpP.anti {O' : Addr → Prop} (s : ∀ a, O' a → O a) : ∀ {a : List (Nat × V)} {b : List (Nat × D)}, RpP K as O H a b → RpP K as O' H a b
  | _, _, .nil => .nil
  | _, _, .cons r t => .cons (Rp.anti s _ _ r) (RpP.anti s t)
theorem Rel.put : ∀ {vl : List (Nat × V)} {l : List (Nat × D)} {σ : L2.St} {ρ : List Slot}, Rel K as O B G σ H ρ S → RpP K as (OO O ρ σ) H vl l → Rel K as O B G (putV σ vl) H (putD ρ l) S
  | _, _, _, _, R, .nil => R
  | _, _, σ, ρ, R, .cons (i := i) (v := v) (d := d) r t => Rel.put (σ := σ.set i (some v)) (ρ := ρ.set i (.val d)) (R.set i r) (t.anti (oo_set (y := .val d) fun _ z => nomatch z))
theorem RelE.set {σ : L2.St} {ρ : List Slot} (R : RelE K as O σ H ρ S) (i : Nat) {v : V} {d : D} (r : Rp K as O H v d) : RelE K as O (σ.set i (some v)) H (ρ.set i (.val d)) S := by
  refine ⟨R.wf, R.cells, by simp [R.len], fun j e h => ?_, fun j e h => ?_⟩
  · rcases get_set h with ⟨rfl, q⟩ | ⟨ne, q⟩
    · cases q
      have hl : j < σ.length := by
        rw [R.len]
        obtain ⟨z, _⟩ := List.getElem?_eq_some_iff.mp h
        simpa using z
      exact ⟨v, List.getElem?_set_self hl, r⟩
    · obtain ⟨w, h2, r2⟩ := R.val j e q
      exact ⟨w, (List.getElem?_set_ne (Ne.symm ne)).trans h2, r2⟩
  · rcases get_set h with ⟨rfl, q⟩ | ⟨ne, q⟩
    · cases q
    · obtain ⟨w, h2, r2⟩ := R.own j e q
      exact ⟨w, (List.getElem?_set_ne (Ne.symm ne)).trans h2, r2⟩
theorem RelE.put : ∀ {vl : List (Nat × V)} {l : List (Nat × D)} {σ : L2.St} {ρ : List Slot}, RelE K as O σ H ρ S → RpP K as O H vl l → RelE K as O (putV σ vl) H (putD ρ l) S
  | _, _, _, _, R, .nil => R
  | _, _, σ, ρ, R, .cons (i := i) (v := v) (d := d) r t => RelE.put (σ := σ.set i (some v)) (ρ := ρ.set i (.val d)) (R.set i r) t
end
def sAsg (p : Pat) (f : Ev) : Sv := fun ρ S => (f ρ S).bind fun q => (binds p q.1).bind fun l => some (.nx (putD ρ l) q.2)
def sSet (i : Nat) (f : Ev) : Sv := fun ρ S => (f ρ S).bind fun q => some (.nx (ρ.set i (.val q.1)) q.2)
def sSetO (i : Nat) (f : Ev) : Sv := fun ρ S => (f ρ S).bind fun q => if i < ρ.length then some (.nx (ρ.set i (.own q.1)) q.2) else none
theorem asg_weak {p : Pat} {D : Ends} {σ : L2.St} {H : Hp} (q : tOfS fr (kw X) (sAsg p f) D σ H) : tAsg (tOf (kw X) f) (gOf (kw X) p) D σ H := by
  obtain ⟨as, O, B, G, ρ, S, o, R, hf, k⟩ := q
  unfold sAsg at hf
  obtain ⟨⟨d1, S1⟩, h1, hf⟩ := Option.bind_eq_some_iff.mp hf
  obtain ⟨l, h2, hf⟩ := Option.bind_eq_some_iff.mp hf
  cases hf
  refine ⟨as, _, ρ, S, d1, S1, R.e, h1, fun v H1 s1 c1 r1 => ?_⟩
  have R1 := R.step s1 c1
  exact ⟨as, _, d1, l, r1, h2, fun vl r2 => k _ _ (R1.put r2)⟩
theorem ms_asg {tg : Expr} {p : Pat} (he : PE X e (tOf (kw X) f)) (hg : PG X tg (gOf (kw X) p)) (hs : swapsWithSole [tg] e pos.line X.env = pure false := by rfl) (hw : swappedStores [tg] e X.env = pure none := by rfl)
    (h1 : (assignEach [tg] X.env).map (·.2) = [assign tg X.env] := by rfl) : PS X (.Assign [tg] e pos) (tOfS fr (kw X) (sAsg p f)) := (ps_asg he hg hs hw h1).weak fun D σ H => asg_weak
theorem set_weak {i : Nat} {D : Ends} {σ : L2.St} {H : Hp} (q : tOfS fr (kw X) (sSet i f) D σ H) : tAsg (tOf (kw X) f) (gName i) D σ H := by
  obtain ⟨as, O, B, G, ρ, S, o, R, hf, k⟩ := q
  unfold sSet at hf
  obtain ⟨⟨d1, S1⟩, h1, hf⟩ := Option.bind_eq_some_iff.mp hf
  cases hf
  exact ⟨as, _, ρ, S, d1, S1, R.e, h1, fun v H1 s1 c1 r1 => k _ _ ((R.step s1 c1).set i r1)⟩
theorem setO_weak {i : Nat} {D : Ends} {σ : L2.St} {H : Hp} (q : tOfS fr (kw X) (sSetO i f) D σ H) : tAsg (tOfF (kw X) f) (gName i) D σ H := by
  obtain ⟨as, O, B, G, ρ, S, o, R, hf, k⟩ := q
  unfold sSetO at hf
  obtain ⟨⟨d1, S1⟩, h1, hf⟩ := Option.bind_eq_some_iff.mp hf
  split at hf
  · rename_i hi
    cases hf
    exact ⟨as, _, ρ, S, d1, S1, R.e, h1, fun p H1 n s1 c1 r1 => k _ _ (R.setOwn i hi n s1 c1 r1)⟩
  · cases hf
section
variable {i : Nat} {x : Str} {pos' : Pos}
theorem ms_set (hN : X.N.Nodup) (hi : X.N[i]? = some x) (hx : Loc X.env.scope x) (he : PE X e (tOf (kw X) f)) (hs : swapsWith e (some (.Name x pos')) pos.line X.env = pure false := by rfl) (hf : X.fn x = true ∨ X.env.scope.names.lookup x = some .local := by first | exact .inl rfl | exact .inr rfl | assumption) :
    PS X (.Assign [.Name x pos'] e pos) (tOfS fr (kw X) (sSet i f)) := (ps_set hN hi hx he hs hf).weak fun D σ H => set_weak
theorem ms_setO (hN : X.N.Nodup) (hi : X.N[i]? = some x) (hx : Loc X.env.scope x) (he : PE X e (tOfF (kw X) f)) (hs : swapsWith e (some (.Name x pos')) pos.line X.env = pure false := by rfl) (hf : X.fn x = true ∨ X.env.scope.names.lookup x = some .local := by first | exact .inl rfl | exact .inr rfl | assumption) :
    PS X (.Assign [.Name x pos'] e pos) (tOfS fr (kw X) (sSetO i f)) := (ps_set hN hi hx he hs hf).weak fun D σ H => setO_weak
end
def sPar (i j : Nat) (fa fb : Ev) : Sv := fun ρ S => (fa ρ S).bind fun p => (fb ρ p.2).bind fun q => some (.nx ((ρ.set i (.val p.1)).set j (.val q.1)) q.2)
theorem ms_par {i j : Nat} {x y : Str} {px py pt : Pos} {kt k2 pt2} (hc : X.calm = true) (hN : X.N.Nodup) (hi : X.N[i]? = some x) (hj : X.N[j]? = some y) (hij : i ≠ j)
    (hx : X.env.scope.names.lookup x = some .local) (hy : X.env.scope.names.lookup y = some .local) (ha : PE X a (tOf (kw X) fa)) (hb : PE X b (tOf (kw X) fb))
    (hw : swappedStores [.Tuple [.Name x px, .Name y py] kt pt] (.Tuple [a, b] k2 pt2) X.env = pure (some [x, y]))
    (s1 : starEach [a, b] X.env = (false, eval a X.env) :: starEach [b] X.env := by rfl) (s2 : starEach [b] X.env = (false, eval b X.env) :: starEach [] X.env := by rfl)
    (hs : swapsWithSole [.Tuple [.Name x px, .Name y py] kt pt] (.Tuple [a, b] k2 pt2) pos.line X.env = pure false := by rfl) :
    PS X (.Assign [.Tuple [.Name x px, .Name y py] kt pt] (.Tuple [a, b] k2 pt2) pos) (tOfS fr (kw X) (sPar i j fa fb)) :=
  (ps_par hc hN hi hj hij hx hy (ma_cons ha (ma_cons hb ma_nil s2) s1) hw hs).weak fun D σ H q => by
    obtain ⟨as, O, B, G, ρ, S, o, R, hf, k⟩ := q
    unfold sPar at hf
    obtain ⟨⟨d1, S1⟩, h1, hf⟩ := Option.bind_eq_some_iff.mp hf
    obtain ⟨⟨d2, S2⟩, h2, hf⟩ := Option.bind_eq_some_iff.mp hf
    cases hf
    refine ⟨as, _, ρ, S, [d1, d2], S2, R.e, ?_, fun vs H1 s1 c1 r1 => ?_⟩
    · unfold aC
      rw [h1]
      show ((fb ρ S1).bind fun p => ((aN ρ p.2).bind fun q => some (p.1 :: q.1, q.2))).bind _ = _
      rw [h2]
      rfl
    · cases r1 with
      | cons r1 t1 =>
        cases t1 with
        | cons r2 t2 =>
          cases t2 with
          | nil =>
            refine ⟨_, _, rfl, ?_⟩
            have R1 := (R.step s1 c1).set i r1
            exact k _ _ (R1.set j (Rp.anti (oo_set (y := .val _) fun _ z => nomatch z) _ _ r2))
end
end DL
namespace DL
open PySem PySem.Spec PyProof.Rows L2
def Op (O : Addr → Prop) (H : Hp) : Addr → Prop := fun a => O a ∨ H a = none
def Walk (K : KW) (as : List Addr) (O : Addr → Prop) (J : It) (H1 : Hp) (ds : List D) : Prop :=
  ∀ (i : Nat) (H2 : Hp), Kp O H1 H2 → (i = ds.length → J.stop i H2) ∧ ∀ d, ds[i]? = some d → J.go i H2 ∧ ∀ x H3, J.yld i H2 x H3 → Same H2 H3 ∧ Rp K as (Op O H1) H3 x d
def tOfI (K : KW) (it : Ea) : TI := fun σ H R => ∃ as O ρ S ds S', RelE K as O σ H ρ S ∧ it ρ S = some (ds, S') ∧
  ∀ J H', Stp as H H' → Cells K as O H' S' → Walk K as O J H' ds → R J H'
theorem _root_.L2.PI.weak {X : Cx} {tg e : Expr} {t t' : TI} (h : PI X tg e t) (k : ∀ σ H R, t' σ H R → t σ H R) : PI X tg e t' := ⟨fun pins s σ H R I hw => h.run pins s σ H R I (k _ _ _ hw)⟩
section
variable {K : KW} {as : List Addr} {O O' : Addr → Prop} {H H' H1 H2 : Hp} {S S' : List D}
mutual
theorem Rp.op' : ∀ (v : V) (d : D), Rp K as O H v d → Rp K as (Op O H) H v d
  | _, _, .non => .non
  | _, _, .bl b => .bl b
  | _, _, .int i => .int i
  | _, _, .str x => .str x
  | _, _, .obj h => .obj h
  | _, _, .tup h r => .tup h (RpL.op' _ _ r)
  | _, _, .lst n h r => .lst (fun o => by
      rcases o with o | o
      · exact n o
      · rw [o] at h; cases h) h (RpL.op' _ _ r)
  | _, _, .dct n h r t e k => .dct (fun o => by
      rcases o with o | o
      · exact n o
      · rw [o] at h; cases h) h (RpL.op' _ _ r) (RpL.op' _ _ t) e k
  | _, _, .scr h => .scr (h.elim (fun ⟨n, h⟩ => .inl ⟨fun o => by
      rcases o with o | o
      · exact n o
      · rcases h with h | ⟨_, h⟩ <;> (rw [o] at h; cases h), h⟩) .inr)
theorem RpL.op' : ∀ (vs : List V) (ds : List D), RpL K as O H vs ds → RpL K as (Op O H) H vs ds
  | _, _, .nil => .nil
  | _, _, .cons r t => .cons (Rp.op' _ _ r) (RpL.op' _ _ t)
end
theorem Rp.op {v : V} {d : D} (r : Rp K as O H v d) : Rp K as (Op O H) H v d := Rp.op' v d r
theorem RpL.op {vs : List V} {ds : List D} (r : RpL K as O H vs ds) : RpL K as (Op O H) H vs ds := RpL.op' vs ds r
theorem RpL.get : ∀ {vs : List V} {ds : List D} {i : Nat} {d : D}, RpL K as O H vs ds → ds[i]? = some d → ∃ v, vs[i]? = some v ∧ Rp K as O H v d
  | _, _, 0, _, .cons r t, h => by cases h; exact ⟨_, rfl, r⟩
  | _, _, i + 1, _, .cons r t, h => RpL.get (i := i) t h
theorem RpL.getV : ∀ {vs : List V} {ds : List D} {i : Nat} {v : V}, RpL K as O H vs ds → vs[i]? = some v → ∃ d, ds[i]? = some d ∧ Rp K as O H v d
  | _, _, 0, _, .cons r t, h => by cases h; exact ⟨_, rfl, r⟩
  | _, _, i + 1, _, .cons r t, h => RpL.getV (i := i) t h
theorem op_nt (w : Wf as O H) : ∀ a, Op O H a → Nt (H a) := fun a o => o.elim (w.nt a) fun z => z ▸ nt_none
theorem op_kp (k : Kp O H H') : Kp (Op O H) H H' := fun a u n e => k a u (fun o => n (.inl o)) e
theorem RpL.later (w : Wf as O H) (k : Kp O H H') {vs : List V} {ds : List D} (r : RpL K as O H vs ds) : RpL K as (Op O H) H' vs ds := RpL.kp (op_nt w) (op_kp k) _ _ r.op
end
def forL (p : Pat) (fb : Sv) : List D → List Slot → List D → Option Out
  | [], ρ, S => some (.nx ρ S)
  | x :: xs, ρ, S => (binds p x).bind fun l => (fb (putD ρ l) S).bind fun o => match o with
    | .nx ρ' S' => forL p fb xs ρ' S'
    | .ct ρ' S' => forL p fb xs ρ' S'
    | .bk ρ' S' => some (.nx ρ' S')
    | .rt d S' => some (.rt d S')
def sFor (p : Pat) (it : Ea) (fb : Sv) : Sv := fun ρ S => (it ρ S).bind fun q => forL p fb q.1 ρ q.2
section
variable {X : Cx} {pos : Pos} {e a b c : Expr} {es : List Expr} {f fa fb : Ev} {fs : Ea} {fc fd : Et} {fr : Bool} {g1 g2 : Sv} {st : Stmt} {sts : List Stmt} {it : Ea} {p : Pat}
theorem Rel.rp_op {as : List Addr} {O B : Addr → Prop} {G : Addr → HO → Prop} {σ σ' : L2.St} {H1 H : Hp} {ρ ρ' : List Slot} {S : List D} {K : KW}
    (R : Rel K as O B (fun a u => G a u ∨ (¬ OO O ρ σ a ∧ H1 a = some u)) σ' H ρ' S) : ∀ a, OO O ρ' σ' a → Op (OO O ρ σ) H1 a := fun a o => by
  rcases o with o | o
  · exact .inl (.inl o)
  · obtain ⟨_, ng, _⟩ := R.ow_own o
    by_cases h : OO O ρ σ a
    · exact .inl h
    · refine .inr ?_
      cases q : H1 a with
      | none => rfl
      | some u => exact absurd (.inr ⟨h, q⟩) (ng u)
theorem ms_for {tg iter : Expr} {body : List Stmt} (hp : PassesOwn (model X.prog X.w) X.A X.env X.xe) (hc : X.calm = true) (hi : PI X tg iter (tOfI (kw X) it)) (hg : PG X tg (gOf (kw X) p)) (hb : PSs X body (tOfS fr (kw X) g1))
    (hs : ∀ x, foldedSetIterable iter X.env x = pure x := by intro _; rfl) : PS X (.For tg iter body [] pos) (tOfS fr (kw X) (sFor p it g1)) := (ps_for hp hc hi hg hb hs).weak fun D σ0 H0 q => by
  obtain ⟨as, O, B, G, ρ0, S0, o, R0, hf, k⟩ := q
  unfold sFor at hf
  obtain ⟨⟨ds, S1⟩, h1, hf⟩ := Option.bind_eq_some_iff.mp hf
  refine ⟨as, _, ρ0, S0, ds, S1, R0.e, h1, fun J H1 s1 c1 wk => ?_⟩
  have R1 := (R0.step s1 c1)
  have w1 := R1.wf
  refine ⟨fun i m σ H => m = ds.length - i ∧ i ≤ ds.length ∧ ∃ ρ S, Rel (kw X) as O B (fun a u => G a u ∨ (¬ OO O ρ0 σ0 a ∧ H1 a = some u)) σ H ρ S ∧ forL p g1 (ds.drop i) ρ S = some o, ⟨ds.length, rfl, Nat.zero_le _, ρ0, S1, R1.guardNow, hf⟩, ?_⟩
  rintro i m σ H ⟨rfl, hi, ρ, S, R, hl⟩
  have kp : Kp (OO O ρ0 σ0) H1 H := fun a u n e => R.g a u (.inr ⟨n, e⟩)
  obtain ⟨wstop, wgo⟩ := wk i H kp
  by_cases hlt : i < ds.length
  · rw [List.drop_eq_getElem_cons hlt] at hl
    unfold forL at hl
    obtain ⟨l, hb, hl⟩ := Option.bind_eq_some_iff.mp hl
    obtain ⟨o1, hb2, hl⟩ := Option.bind_eq_some_iff.mp hl
    obtain ⟨go, yld⟩ := wgo ds[i] (List.getElem?_eq_getElem hlt)
    refine .inr ⟨go, fun σ' H' => ∃ ρ S, Rel (kw X) as O B (fun a u => G a u ∨ (¬ OO O ρ0 σ0 a ∧ H1 a = some u)) σ' H' ρ S ∧ forL p g1 (ds.drop (i + 1)) ρ S = some o, fun σ' H' ⟨ρ', S', R', h'⟩ => ⟨ds.length - (i + 1), by omega, rfl, hlt, ρ', S', R', h'⟩, fun x H3 y => ?_⟩
    obtain ⟨sm, rx⟩ := yld x H3 y
    have R3 := R.step (Same.stp sm) (R.cells.same R.wf sm)
    refine ⟨as, _, ds[i], l, rx, hb, fun vl rv => ?_⟩
    have R4 := R3.put (rv.anti R3.rp_op)
    refine ⟨as, O, B, _, putD ρ l, S, o1, R4, hb2, ?_⟩
    cases o1 with
    | nx ρ' S' => exact fun σ' H' R' => ⟨ρ', S', R', hl⟩
    | ct ρ' S' => exact fun σ' H' R' => ⟨ρ', S', R', hl⟩
    | bk ρ' S' =>
      cases hl
      exact fun σ' H' R' => k σ' H' (R'.guard fun a u g => .inl g)
    | rt d S' =>
      cases hl
      exact fun v H' g r => k v H' (fun a u z => g a u (.inl z)) r
  · have e : i = ds.length := by omega
    subst e
    rw [List.drop_length] at hl
    unfold forL at hl
    cases hl
    exact .inl ⟨wstop rfl, k σ H (R.guard fun a u g => .inl g)⟩
def whileN (c : Et) (fb : Sv) : Nat → List Slot → List D → Option Out
  | 0, _, _ => none
  | n + 1, ρ, S => (c ρ S).bind fun q => if q.1 = true then (fb ρ q.2).bind fun o => match o with
    | .nx ρ' S' => whileN c fb n ρ' S'
    | .ct ρ' S' => whileN c fb n ρ' S'
    | .bk ρ' S' => some (.nx ρ' S')
    | .rt d S' => some (.rt d S')
    else some (.nx ρ q.2)
def sWhile (nf : List Slot → Nat) (c : Et) (fb : Sv) : Sv := fun ρ S => whileN c fb (nf ρ) ρ S
theorem ms_while {nf : List Slot → Nat} {body : List Stmt} (hp : PassesOwn (model X.prog X.w) X.A X.env X.xe) (hc : PT X c (tOfT (kw X) fc)) (hb : PSs X body (tOfS fr (kw X) g1)) : PS X (.While c body [] pos) (tOfS fr (kw X) (sWhile nf fc g1)) := (ps_while hp hc hb).weak fun D σ0 H0 q => by
  obtain ⟨as, O, B, G, ρ0, S0, o, R0, hf, k⟩ := q
  unfold sWhile at hf
  generalize nf ρ0 = n at hf
  refine ⟨fun m σ H => ∃ ρ S, Rel (kw X) as O B G σ H ρ S ∧ whileN fc g1 m ρ S = some o, ⟨n, ρ0, S0, R0, hf⟩, ?_⟩
  rintro m σ H ⟨ρ, S, R, hw⟩
  cases m with
  | zero => unfold whileN at hw; cases hw
  | succ m =>
    unfold whileN at hw
    obtain ⟨⟨b1, S1⟩, h1, hw⟩ := Option.bind_eq_some_iff.mp hw
    refine ⟨as, _, ρ, S, b1, S1, R.e, h1, fun H1 s1 c1 => ?_⟩
    have R1 := R.step s1 c1
    cases b1 with
    | true =>
      obtain ⟨o1, h2, hw⟩ := Option.bind_eq_some_iff.mp hw
      refine ⟨fun σ' H' => ∃ ρ S, Rel (kw X) as O B G σ' H' ρ S ∧ whileN fc g1 m ρ S = some o, fun σ' H' ⟨ρ', S', R', h'⟩ => ⟨m, Nat.lt_succ_self m, ρ', S', R', h'⟩, ?_⟩
      refine ⟨as, O, B, G, ρ, S1, o1, R1, h2, ?_⟩
      cases o1 with
      | nx ρ' S' => exact fun σ' H' R' => ⟨ρ', S', R', hw⟩
      | ct ρ' S' => exact fun σ' H' R' => ⟨ρ', S', R', hw⟩
      | bk ρ' S' => cases hw; exact k
      | rt d S' => cases hw; exact k
    | false =>
      cases hw
      exact k σ H1 R1
def wipeD (ρ : List Slot) : List Nat → List Slot
  | [] => ρ
  | v :: vs => (wipeD ρ vs).set v .non
def compL (p : Pat) (c : Et) (f : Ev) (ρ : List Slot) : List D → List D → Option (List D × List D)
  | [], S => some ([], S)
  | x :: xs, S => (binds p x).bind fun l => (c (putD ρ l) S).bind fun q => if q.1 = true then (f (putD ρ l) q.2).bind fun r => (compL p c f ρ xs r.2).bind fun t => some (r.1 :: t.1, t.2)
    else compL p c f ρ xs q.2
def eComp (p : Pat) (it : Ea) (c : Et) (f : Ev) (vs : List Nat) : Ev := fun ρ S => (it ρ S).bind fun q => if q.1.length ≤ 16777216 then (compL p c f (wipeD ρ vs) q.1 q.2).bind fun t => some (.lst t.1, t.2) else none
def cYes : Et := fun _ S => some (true, S)
mutual
def Pat.ixs : Pat → List Nat
  | .nm i => [i]
  | .tup ps => Pat.ixsL ps
def Pat.ixsL : List Pat → List Nat
  | [] => []
  | p :: ps => Pat.ixs p ++ Pat.ixsL ps
end
mutual
theorem binds_ix : ∀ (p : Pat) (d : D) (l : List (Nat × D)), binds p d = some l → l.map (·.1) = p.ixs
  | .nm i, d, l, h => by unfold binds at h; cases h; rfl
  | .tup ps, .tup ds, l, h => by
    unfold binds at h
    unfold Pat.ixs
    exact bindsL_ix ps ds l h
  | .tup ps, .non, l, h => by unfold binds at h; cases h
  | .tup ps, .bl _, l, h => by unfold binds at h; cases h
  | .tup ps, .int _, l, h => by unfold binds at h; cases h
  | .tup ps, .str _, l, h => by unfold binds at h; cases h
  | .tup ps, .obj _, l, h => by unfold binds at h; cases h
  | .tup ps, .lst _, l, h => by unfold binds at h; cases h
  | .tup ps, .dct _, l, h => by unfold binds at h; cases h
  | .tup ps, .scr _, l, h => by unfold binds at h; cases h
theorem bindsL_ix : ∀ (ps : List Pat) (ds : List D) (l : List (Nat × D)), bindsL ps ds = some l → l.map (·.1) = Pat.ixsL ps
  | [], [], l, h => by unfold bindsL at h; cases h; rfl
  | [], _ :: _, l, h => by unfold bindsL at h; cases h
  | _ :: _, [], l, h => by unfold bindsL at h; cases h
  | p :: ps, d :: ds, l, h => by
    unfold bindsL at h
    obtain ⟨a1, h1, h⟩ := Option.bind_eq_some_iff.mp h
    obtain ⟨a2, h2, h⟩ := Option.bind_eq_some_iff.mp h
    cases h
    unfold Pat.ixsL
    rw [List.map_append, binds_ix p d a1 h1, bindsL_ix ps ds a2 h2]
end
theorem RpP.ix {K : KW} {as : List Addr} {O : Addr → Prop} {H : Hp} : ∀ {vl : List (Nat × V)} {l : List (Nat × D)}, RpP K as O H vl l → vl.map (·.1) = l.map (·.1)
  | _, _, .nil => rfl
  | _, _, .cons r t => by rw [List.map_cons, List.map_cons, RpP.ix t]
theorem wipe_set {σ : L2.St} {i : Nat} {x : Option V} : ∀ {vs : List Nat}, i ∈ vs → wipe (σ.set i x) vs = wipe σ vs
  | v :: vs, h => by
    unfold wipe
    by_cases m : i ∈ vs
    · rw [wipe_set m]
    · rcases List.mem_cons.mp h with rfl | z
      · have go : ∀ (vs : List Nat), i ∉ vs → wipe (σ.set i x) vs = (wipe σ vs).set i x := by
          intro vs
          induction vs with
          | nil => exact fun _ => rfl
          | cons w ws ih =>
            intro hn
            unfold wipe
            rw [ih (fun z => hn (List.mem_cons_of_mem _ z)), List.set_comm]
            exact fun z => hn (by rw [z]; exact List.mem_cons_self)
        rw [go vs m, List.set_set]
      · exact absurd z m
theorem wipe_idem {σ : L2.St} : ∀ {vs : List Nat}, wipe (wipe σ vs) vs = wipe σ vs := fun {vs} => by
  apply List.ext_getElem?
  intro i
  have ln : (wipe (wipe σ vs) vs).length = (wipe σ vs).length := by rw [wipe_length]
  by_cases m : i ∈ vs
  · have z : ∀ (τ : L2.St), (wipe τ vs)[i]? = none ∨ (wipe τ vs)[i]? = some none := fun τ => by
      cases e : (wipe τ vs)[i]? with
      | none => exact .inl rfl
      | some x =>
        cases x with
        | none => exact .inr rfl
        | some v => exact absurd m (wipe_some e).2
    by_cases hl : i < σ.length
    · rcases z (wipe σ vs) with a | a
      · rw [List.getElem?_eq_none_iff, wipe_length, wipe_length] at a; omega
      · rcases z σ with b | b
        · rw [List.getElem?_eq_none_iff, wipe_length] at b; omega
        · rw [a, b]
    · rw [List.getElem?_eq_none_iff.mpr (by rw [wipe_length, wipe_length]; omega), List.getElem?_eq_none_iff.mpr (by rw [wipe_length]; omega)]
  · rw [wipe_out m]
theorem wipe_put {vs : List Nat} : ∀ {vl : List (Nat × V)} {σ : L2.St}, (∀ i ∈ vl.map (·.1), i ∈ vs) → wipe (putV σ vl) vs = wipe σ vs
  | [], _, _ => rfl
  | (i, v) :: r, σ, h => by
    unfold putV
    rw [wipe_put (σ := σ.set i (some v)) (fun j hj => h j (List.mem_cons_of_mem _ hj)), wipe_set (h i List.mem_cons_self)]
theorem wipeD_len (ρ : List Slot) : ∀ vs : List Nat, (wipeD ρ vs).length = ρ.length
  | [] => rfl
  | v :: vs => by unfold wipeD; rw [List.length_set, wipeD_len ρ vs]
theorem wipeD_some {ρ : List Slot} {i : Nat} {x : Slot} (hx : x ≠ .non) : ∀ {vs : List Nat}, (wipeD ρ vs)[i]? = some x → ρ[i]? = some x ∧ i ∉ vs
  | [], h => ⟨h, by simp⟩
  | v :: vs, h => by
    unfold wipeD at h
    rcases get_set h with ⟨rfl, q⟩ | ⟨ne, q⟩
    · exact absurd q.symm hx
    · obtain ⟨h1, h2⟩ := wipeD_some hx q
      exact ⟨h1, by simp only [List.mem_cons, not_or]; exact ⟨ne, h2⟩⟩
theorem RelE.wipe {K : KW} {as : List Addr} {O : Addr → Prop} {σ : L2.St} {H : Hp} {ρ : List Slot} {S : List D} (R : RelE K as O σ H ρ S) (vs : List Nat) : RelE K as O (wipe σ vs) H (wipeD ρ vs) S := by
  refine ⟨R.wf, R.cells, by rw [wipe_length, wipeD_len, R.len], fun i d h => ?_, fun i d h => ?_⟩
  · obtain ⟨h1, h2⟩ := wipeD_some (x := .val d) (fun z => nomatch z) h
    obtain ⟨v, h3, r⟩ := R.val i d h1
    exact ⟨v, (wipe_out h2).trans h3, r⟩
  · obtain ⟨h1, h2⟩ := wipeD_some (x := .own d) (fun z => nomatch z) h
    obtain ⟨v, h3, n, r⟩ := R.own i d h1
    exact ⟨v, (wipe_out h2).trans h3, n, r⟩
theorem RelE.newL {K : KW} {as : List Addr} {O : Addr → Prop} {σ : L2.St} {H : Hp} {ρ : List Slot} {S : List D} {p : Addr} (R : RelE K as O σ H ρ S) (hp : H p = none) : RelE K as (ad O p) σ (upd H p (.lst [])) ρ S := by
  have sm := same_new (o := .lst []) hp
  have kk : Kp (ad O p) H (upd H p (.lst [])) := fun a u _ e => sm a u e
  have m1 : ∀ a, ad O p a → Nt (H a) := fun a o => by
    rcases o with o | o
    · exact R.wf.nt a o
    · rw [o, hp]; exact nt_none
  have rp : ∀ {v : V} {d : D}, Rp K as O H v d → Rp K as (ad O p) (upd H p (.lst [])) v d := fun r => Rp.kp m1 kk _ _ (Rp.ad hp _ _ r)
  have cr : ∀ {a : Addr} {d : D}, CellR K as O H a d → CellR K as (ad O p) (upd H p (.lst [])) a d := fun q => by
    cases q with
    | lst h r => exact .lst (sm _ _ h) (RpL.kp m1 kk _ _ (RpL.ad hp _ _ r))
    | dct h r t9 e9 k9 => exact .dct (sm _ _ h) (RpL.kp m1 kk _ _ (RpL.ad hp _ _ r)) (RpL.kp m1 kk _ _ (RpL.ad hp _ _ t9)) e9 k9
  refine ⟨⟨fun a m => .inl (R.wf.sub a m), fun a o => ?_, R.wf.nd⟩, ⟨R.cells.len, fun i a d e1 e2 => cr (R.cells.ix i a d e1 e2)⟩, R.len, fun i d h => ?_, fun i d h => ?_⟩
  · rcases o with o | o
    · rw [Same.eq sm (R.wf.trk o)]; exact R.wf.mt a o
    · rw [o, upd_same]; trivial
  · obtain ⟨v, h2, r⟩ := R.val i d h
    exact ⟨v, h2, rp r⟩
  · obtain ⟨a, h2, n, c⟩ := R.own i d h
    exact ⟨a, h2, n, cr c⟩
theorem RelE.growL {K : KW} {as : List Addr} {O : Addr → Prop} {σ : L2.St} {H : Hp} {ρ : List Slot} {S : List D} {p : Addr} {o : HO} (R : RelE K as O σ H ρ S) (hp : O p) (na : p ∉ as) (no : ∀ (i : Nat) (d : D), ρ[i]? = some (.own d) → σ[i]? ≠ some (some (.ref p))) (mo : Mut (some o)) : RelE K as O σ (upd H p o) ρ S := by
  have kk : Kp O H (upd H p o) := fun a u n e => by
    rw [upd_ne (fun z => n (by rw [z]; exact hp))]
    exact e
  have rp : ∀ {v : V} {d : D}, Rp K as O H v d → Rp K as O (upd H p o) v d := fun r => Rp.kp R.wf.nt kk _ _ r
  have cr : ∀ {a : Addr} {d : D}, a ≠ p → CellR K as O H a d → CellR K as O (upd H p o) a d := fun n q => by
    cases q with
    | lst h r => exact .lst ((upd_ne n).trans h) (RpL.kp R.wf.nt kk _ _ r)
    | dct h r t9 e9 k9 => exact .dct ((upd_ne n).trans h) (RpL.kp R.wf.nt kk _ _ r) (RpL.kp R.wf.nt kk _ _ t9) e9 k9
  refine ⟨⟨R.wf.sub, fun a z => ?_, R.wf.nd⟩, ⟨R.cells.len, fun i a d e1 e2 => cr (fun z => na (by rw [← z]; exact List.mem_of_getElem? e1)) (R.cells.ix i a d e1 e2)⟩, R.len, fun i d h => ?_, fun i d h => ?_⟩
  · by_cases e : a = p
    · rw [e, upd_same]; exact mo
    · rw [upd_ne e]; exact R.wf.mt a z
  · obtain ⟨v, h2, r⟩ := R.val i d h
    exact ⟨v, h2, rp r⟩
  · obtain ⟨a, h2, n, c⟩ := R.own i d h
    exact ⟨a, h2, n, cr (fun z => no i d h (by rw [h2, z])) c⟩
theorem RpL.append {K : KW} {as : List Addr} {O : Addr → Prop} {H : Hp} : ∀ {a b : List V} {c d : List D}, RpL K as O H a c → RpL K as O H b d → RpL K as O H (a ++ b) (c ++ d)
  | _, _, _, _, .nil, h => h
  | _, _, _, _, .cons r t, h => .cons r (RpL.append t h)
end
end DL
namespace DL
open PySem PySem.Spec PyProof.Rows L2
section
variable {X : Cx} {pos : Pos} {e a b c : Expr} {es : List Expr} {f fa fb : Ev} {fs : Ea} {fc fd : Et} {fr : Bool} {g1 g2 : Sv} {st : Stmt} {sts : List Stmt} {it : Ea} {p : Pat}
structure CompS (K : KW) (as : List Addr) (O : Addr → Prop) (σ : L2.St) (H1 : Hp) (p : Addr) (vs : List Nat) (ρ : List Slot) (H : Hp) (acc : List D) (S : List D) : Prop where
  rel : RelE K as (ad O p) (wipe σ vs) H (wipeD ρ vs) S
  lst : ∃ xs, H p = some (.lst xs) ∧ RpL K as (ad O p) H xs acc
  kept : ∀ a u, a ∉ as → a ≠ p → H1 a = some u → H a = some u
section
variable {K : KW} {as : List Addr} {O : Addr → Prop} {σ : L2.St} {H0 H1 H H' : Hp} {q : Addr} {vs : List Nat} {ρ : List Slot} {acc S S' : List D}
theorem CompS.start (R : RelE K as O σ H1 ρ S) (hp : H1 q = none) : CompS K as O σ H1 q vs ρ (upd H1 q (.lst [])) [] S :=
  ⟨(R.newL hp).wipe vs, ⟨[], upd_same, .nil⟩, fun a u _ n h => (upd_ne n).trans h⟩
theorem CompS.step (C : CompS K as O σ H1 q vs ρ H acc S) (hq : q ∉ as) (s : Stp as H H') (c : Cells K as (ad O q) H' S') : CompS K as O σ H1 q vs ρ H' acc S' := by
  obtain ⟨xs, h, r⟩ := C.lst
  exact ⟨C.rel.step s c, ⟨xs, s q _ hq h, r.stp C.rel.wf s⟩, fun a u n m e => s a u n (C.kept a u n m e)⟩
theorem own_ne (R : RelE K as O σ H1 ρ S) (hp : H1 q = none) : ∀ (i : Nat) (d : D), ρ[i]? = some (.own d) → σ[i]? ≠ some (some (.ref q)) := fun i d h e => by
  obtain ⟨a, h2, _, c⟩ := R.own i d h
  rw [e] at h2
  cases h2
  have := c.mt
  rw [hp] at this
  exact this
theorem CompS.push (C : CompS K as O σ H1 q vs ρ H acc S) (R : RelE K as O σ H1 ρ S') (hp : H1 q = none) {xs : List V} {y : V} {d : D} (h : H q = some (.lst xs)) (r : RpL K as (ad O q) H xs acc) (ry : Rp K as (ad O q) H y d) :
    CompS K as O σ H1 q vs ρ (upd H q (.lst (xs ++ [y]))) (acc ++ [d]) S := by
  have hq : q ∉ as := fun m => R.wf.trk (R.wf.sub q m) hp
  have kk : Kp (ad O q) H (upd H q (.lst (xs ++ [y]))) := fun a u n e => by
    rw [upd_ne (fun z => n (by rw [z]; exact .inr rfl))]
    exact e
  refine ⟨C.rel.growL (.inr rfl) hq (fun i d h e => ?_) trivial, ⟨_, upd_same, RpL.kp C.rel.wf.nt kk _ _ (r.append (.cons ry .nil))⟩, fun a u n m e => (upd_ne m).trans (C.kept a u n m e)⟩
  obtain ⟨h1, h2⟩ := wipeD_some (x := .own d) (fun z => nomatch z) h
  rw [wipe_out h2] at e
  exact own_ne R hp i d h1 e
end
theorem mts_nil : PTs X [] (tOfT (kw X) cYes) := ⟨fun pins s σ H Q I h => pts_nil.run pins s σ H Q I (by
  obtain ⟨as, O, ρ, S, d, S', R, hf, k⟩ := h
  cases hf
  exact k H Stp.refl R.cells)⟩
theorem mts_one (h : PT X c (tOfT (kw X) fc)) : PTs X [c] (tOfT (kw X) fc) := pts_one h
theorem comp_weak {σ : L2.St} {H0 : Hp} {Q : VK} {vs : List Nat} (hv : p.ixs.all (fun i => decide (i ∈ vs)) = true) (h : tOfF (kw X) (eComp p it fc f vs) σ H0 Q) : tLc (tOfI (kw X) it) (gOf (kw X) p) (tOfT (kw X) fc) (tOf (kw X) f) vs σ H0 Q := by
  obtain ⟨as, O, ρ, S, d, S', R, hf, k⟩ := h
  unfold eComp at hf
  obtain ⟨⟨ds, S1⟩, h1, hf⟩ := Option.bind_eq_some_iff.mp hf
  split at hf
  case isFalse => cases hf
  case isTrue hl =>
  obtain ⟨⟨ys, S2⟩, h2, hf⟩ := Option.bind_eq_some_iff.mp hf
  cases hf
  refine ⟨as, O, ρ, S, ds, S1, R, h1, fun J H1 s1 c1 wk D hD => ?_⟩
  have R1 := R.step s1 c1
  have hDas : D ∉ as := fun m => R1.wf.trk (R1.wf.sub D m) hD
  have hD0 : H0 D = none := by
    cases z : H0 D with
    | none => rfl
    | some u => rw [s1 D u hDas z] at hD; cases hD
  refine ⟨fun i m H => m = ds.length - i ∧ i ≤ ds.length ∧ ∃ acc S rest, acc.length ≤ i ∧ CompS (kw X) as O σ H1 D vs ρ H acc S ∧ compL p fc f (wipeD ρ vs) (ds.drop i) S = some (rest, S2) ∧ acc ++ rest = ys, ⟨ds.length, rfl, Nat.zero_le _, [], S1, ys, Nat.zero_le _, CompS.start R1 hD, h2, rfl⟩, ?_⟩
  rintro i m H ⟨rfl, hi, acc, Sx, rest, ha, C, hc, hr⟩
  have kp : Kp O H1 H := fun a u n e => C.kept a u (fun m => n (R1.wf.sub a m)) (fun z => by rw [z, hD] at e; cases e) e
  obtain ⟨wstop, wgo⟩ := wk i H kp
  by_cases hlt : i < ds.length
  · rw [List.drop_eq_getElem_cons hlt] at hc
    unfold compL at hc
    obtain ⟨l, hb, hc⟩ := Option.bind_eq_some_iff.mp hc
    obtain ⟨⟨b, S3⟩, hb2, hc⟩ := Option.bind_eq_some_iff.mp hc
    obtain ⟨go, yld⟩ := wgo ds[i] (List.getElem?_eq_getElem hlt)
    refine .inr ⟨go, fun H' => ∃ acc S rest, acc.length ≤ i + 1 ∧ CompS (kw X) as O σ H1 D vs ρ H' acc S ∧ compL p fc f (wipeD ρ vs) (ds.drop (i + 1)) S = some (rest, S2) ∧ acc ++ rest = ys, fun H' h' => ⟨ds.length - (i + 1), by omega, rfl, hlt, h'⟩, fun x H2 y => ?_⟩
    obtain ⟨sm, rx⟩ := yld x H2 y
    have C2 := C.step hDas (Same.stp sm) (C.rel.cells.same C.rel.wf sm)
    have rx2 : Rp (kw X) as (ad O D) H2 x ds[i] := Rp.anti (fun a o => o.elim .inl fun z => .inr (z ▸ hD)) _ _ rx
    refine ⟨as, _, ds[i], l, rx2, hb, fun vl rv => ⟨?_, ?_⟩⟩
    · rw [wipe_put, wipe_idem]
      rw [rv.ix, binds_ix _ _ _ hb]
      intro j hj
      exact of_decide_eq_true (List.all_eq_true.mp hv j hj)
    · have R2 := C2.rel.put rv
      refine ⟨as, _, putD (wipeD ρ vs) l, Sx, b, S3, R2, hb2, fun H3 s3 c3 => ?_⟩
      have C3 := C2.step hDas s3 c3
      cases b with
      | false => exact ⟨acc, S3, rest, Nat.le_succ_of_le ha, C3, hc, hr⟩
      | true =>
        obtain ⟨⟨d, S4⟩, h4, hc⟩ := Option.bind_eq_some_iff.mp hc
        obtain ⟨⟨t, S5⟩, h5, hc⟩ := Option.bind_eq_some_iff.mp hc
        cases hc
        refine ⟨as, _, putD (wipeD ρ vs) l, S3, d, S4, R2.step s3 c3, h4, fun y H4 s4 c4 ry => ?_⟩
        have C4 := C3.step hDas s4 c4
        obtain ⟨xs, hx, rx⟩ := C4.lst
        have hlen : xs.length = acc.length := Rp.length rx
        refine ⟨xs, hx, ?_, acc ++ [d], S4, t, ?_, C4.push R1 hD hx rx ry, h5, ?_⟩
        · have q : ds.length ≤ 16777216 := hl
          rw [hlen, sizeLine_16]
          omega
        · rw [List.length_append]
          show acc.length + 1 ≤ i + 1
          omega
        · rw [← hr, List.append_assoc]
          rfl
  · have e : i = ds.length := by omega
    subst e
    rw [List.drop_length] at hc
    unfold compL at hc
    cases hc
    obtain ⟨xs, hx, rx⟩ := C.lst
    refine .inl ⟨wstop rfl, k D H hD0 (s1.trans fun a u n e => ?_) C.rel.cells (.lst hx (by rw [← hr, List.append_nil]; exact rx))⟩
    exact C.kept a u n (fun z => by rw [z, hD] at e; cases e) e
section
variable {tg iter elt : Expr} {ifs : List Expr} {scope : Scope} {own : List (Str × Nat)} {vs : List Nat}
theorem mf_comp (hc : X.calm = true) (hN : X.N.Nodup) (hi : PI X tg iter (tOfI (kw X) it)) (ok : BlkOk X.N X.env.scope scope own)
    (hg : ∀ (s : Shared) (H : Hp) (C : Addr) (cl : List (Str × Addr)) (fp : List Addr), PG (X.blk s H scope (compEnvC scope cl C X.env) fp) tg (gOf (kw X) p))
    (ht : ∀ (s : Shared) (H : Hp) (C : Addr) (cl : List (Str × Addr)) (fp : List Addr), PTs (X.blk s H scope (compEnvC scope cl C X.env) fp) ifs (tOfT (kw X) fc))
    (he : ∀ (s : Shared) (H : Hp) (C : Addr) (cl : List (Str × Addr)) (fp : List Addr), PE (X.blk s H scope (compEnvC scope cl C X.env) fp) elt (tOf (kw X) f))
    (ev : own.map (·.2) = vs := by rfl) (hv : p.ixs.all (fun i => decide (i ∈ vs)) = true := by rfl) (hs : ∀ x, foldedSetIterable iter X.env x = pure x := by intro _; rfl) :
    PE X (.ListComp elt [⟨tg, iter, ifs, 0⟩] scope pos) (tOfF (kw X) (eComp p it fc f vs)) :=
  (pe_lc hc hN hi ok hg ht he hs).weak fun σ H Q h => by
    rw [ev]
    exact comp_weak hv h
theorem ms_setC {i : Nat} {y : Str} {py spos : Pos} (hc : X.calm = true) (hN : X.N.Nodup) (hy : X.N[i]? = some y) (hyl : X.env.scope.names.lookup y = some .local)
    (hsw : swapsWith (.ListComp elt [⟨tg, iter, ifs, 0⟩] scope pos) (some (.Name y py)) spos.line X.env = pure true) (hi : PI X tg iter (tOfI (kw X) it)) (ok : BlkOk X.N X.env.scope scope own)
    (hg : ∀ (s : Shared) (H : Hp) (C : Addr) (cl : List (Str × Addr)) (fp : List Addr), PG (X.blk s H scope (compEnvC scope cl C X.env) fp) tg (gOf (kw X) p))
    (ht : ∀ (s : Shared) (H : Hp) (C : Addr) (cl : List (Str × Addr)) (fp : List Addr), PTs (X.blk s H scope (compEnvC scope cl C X.env) fp) ifs (tOfT (kw X) fc))
    (he : ∀ (s : Shared) (H : Hp) (C : Addr) (cl : List (Str × Addr)) (fp : List Addr), PE (X.blk s H scope (compEnvC scope cl C X.env) fp) elt (tOf (kw X) f))
    (ev : own.map (·.2) = vs := by rfl) (hv : p.ixs.all (fun i => decide (i ∈ vs)) = true := by rfl) (hs : ∀ x, foldedSetIterable iter X.env x = pure x := by intro _; rfl) :
    PS X (.Assign [.Name y py] (.ListComp elt [⟨tg, iter, ifs, 0⟩] scope pos) spos) (tOfS fr (kw X) (sSet i (eComp p it fc f vs))) :=
  (ps_setLc hc hN hy hyl hsw hi ok hg ht he hs).weak fun D σ H h => by
    rw [ev]
    obtain ⟨as, O, B, G, ρ, S, o, R, hf, k⟩ := h
    unfold sSet at hf
    obtain ⟨⟨d1, S1⟩, h1, hf⟩ := Option.bind_eq_some_iff.mp hf
    cases hf
    refine comp_weak hv ⟨as, _, ρ, S, d1, S1, R.e, h1, fun q H1 n s1 c1 r1 => ?_⟩
    exact k _ _ ((R.step s1 (c1.anti ad_sub)).set i (r1.val (R.wf.nel n) ad_sub))
theorem ms_setCO {i : Nat} {y : Str} {py spos : Pos} (hc : X.calm = true) (hN : X.N.Nodup) (hy : X.N[i]? = some y) (hyl : X.env.scope.names.lookup y = some .local)
    (hsw : swapsWith (.ListComp elt [⟨tg, iter, ifs, 0⟩] scope pos) (some (.Name y py)) spos.line X.env = pure true) (hi : PI X tg iter (tOfI (kw X) it)) (ok : BlkOk X.N X.env.scope scope own)
    (hg : ∀ (s : Shared) (H : Hp) (C : Addr) (cl : List (Str × Addr)) (fp : List Addr), PG (X.blk s H scope (compEnvC scope cl C X.env) fp) tg (gOf (kw X) p))
    (ht : ∀ (s : Shared) (H : Hp) (C : Addr) (cl : List (Str × Addr)) (fp : List Addr), PTs (X.blk s H scope (compEnvC scope cl C X.env) fp) ifs (tOfT (kw X) fc))
    (he : ∀ (s : Shared) (H : Hp) (C : Addr) (cl : List (Str × Addr)) (fp : List Addr), PE (X.blk s H scope (compEnvC scope cl C X.env) fp) elt (tOf (kw X) f))
    (ev : own.map (·.2) = vs := by rfl) (hv : p.ixs.all (fun i => decide (i ∈ vs)) = true := by rfl) (hs : ∀ x, foldedSetIterable iter X.env x = pure x := by intro _; rfl) :
    PS X (.Assign [.Name y py] (.ListComp elt [⟨tg, iter, ifs, 0⟩] scope pos) spos) (tOfS fr (kw X) (sSetO i (eComp p it fc f vs))) :=
  (ps_setLc hc hN hy hyl hsw hi ok hg ht he hs).weak fun D σ H h => by
    rw [ev]
    obtain ⟨as, O, B, G, ρ, S, o, R, hf, k⟩ := h
    unfold sSetO at hf
    obtain ⟨⟨d1, S1⟩, h1, hf⟩ := Option.bind_eq_some_iff.mp hf
    split at hf
    · rename_i hi
      cases hf
      refine comp_weak hv ⟨as, _, ρ, S, d1, S1, R.e, h1, fun q H1 n s1 c1 r1 => ?_⟩
      exact k _ _ (R.setOwn i hi n s1 c1 r1)
    · cases hf
end
def spM (fr : Bool) (K : KW) (n : Nat) (m : List D → List D → Option (D × List D)) : Sp := fun vs H Q _ => vs.length = n ∧ ∃ as O ds S r S', Wf as O H ∧ Cells K as O H S ∧ RpL K as O H vs ds ∧ m ds S = some (r, S') ∧
  ∀ v H', Stp as H H' → Cells K as O H' S' → Rp K as O H' v r → (fr = true → ∃ a, v = .ref a ∧ H a = none ∧ CellR K as (ad O a) H' a r ∧ Cells K as (ad O a) H' S') → Q v H'
structure FnM (P : Program) (w : World) (K : PySem.W.Frag) (mg : Str → Option Value) (base : Heap) (k : Nat) (x : Str) (f : Addr) (fd : FuncData) (ps : List Str) (fr : Bool) (m : List D → List D → Option (D × List D)) : Prop where
  ok : FnOk P w K mg base CX0 k f fd ps (spM fr ⟨K, w⟩ ps.length m)
  mg : mg x = some (.ref f)
  kp : PySem.W.keepIn K (.ref f) = true
  bd : Binds K fd ps []
def eCall (n : Nat) (m : List D → List D → Option (D × List D)) (fs : Ea) : Ev := fun ρ S => (fs ρ S).bind fun q => if q.1.length = n then m q.1 q.2 else none
section
variable {k : Nat} {x : Str} {fa : Addr} {fd : FuncData} {ps : List Str} {m : List D → List D → Option (D × List D)} {pp : Pos}
theorem me_call (F : FnM X.prog X.w X.K X.mg X.base k x fa fd ps fr m) (hr : Room k X.A) (hg : Gl X x) (ha : PA X (e :: es) (tOfA (kw X) fs))
    (hdb : (x == ("__debug__" : Str)) = false := by decide) (he : starEach (e :: es) X.env = (false, eval e X.env) :: starEach es X.env := by rfl) (hpl : (backTo pos (starEach es X.env)).any (·.1) = false := by rfl) {n : Nat} (hn : ps.length = n := by rfl) :
    PE X (.Call (.Name x pp) (e :: es) [] pos) (tOf (kw X) (eCall n m fs)) :=
  (pe_call F.ok hr hg F.mg F.kp F.bd .nil pass0 ha hdb he hpl).weak fun σ H Q q => by
    subst hn
    obtain ⟨as, O, ρ, S, d, S', R, hf, kk⟩ := q
    unfold eCall at hf
    obtain ⟨⟨ds, S1⟩, h1, hf⟩ := Option.bind_eq_some_iff.mp hf
    split at hf
    · rename_i hl
      refine ⟨as, O, ρ, S, ds, S1, R, h1, fun vs H1 s1 c1 r1 => ?_⟩
      have R1 := R.step s1 c1
      show spM _ (kw X) ps.length m (vs ++ []) H1 Q E0
      rw [List.append_nil]
      exact ⟨(Rp.length r1).trans hl, as, O, ds, S1, d, S', R1.wf, c1, r1, hf, fun v H' s c r _ => kk v H' (s1.trans s) c r⟩
    · cases hf
theorem mf_call (F : FnM X.prog X.w X.K X.mg X.base k x fa fd ps true m) (hr : Room k X.A) (hg : Gl X x) (ha : PA X (e :: es) (tOfA (kw X) fs))
    (hdb : (x == ("__debug__" : Str)) = false := by decide) (he : starEach (e :: es) X.env = (false, eval e X.env) :: starEach es X.env := by rfl) (hpl : (backTo pos (starEach es X.env)).any (·.1) = false := by rfl) {n : Nat} (hn : ps.length = n := by rfl) :
    PE X (.Call (.Name x pp) (e :: es) [] pos) (tOfF (kw X) (eCall n m fs)) :=
  (pe_call F.ok hr hg F.mg F.kp F.bd .nil pass0 ha hdb he hpl).weak fun σ H Q q => by
    subst hn
    obtain ⟨as, O, ρ, S, d, S', R, hf, kk⟩ := q
    unfold eCall at hf
    obtain ⟨⟨ds, S1⟩, h1, hf⟩ := Option.bind_eq_some_iff.mp hf
    split at hf
    · rename_i hl
      refine ⟨as, O, ρ, S, ds, S1, R, h1, fun vs H1 s1 c1 r1 => ?_⟩
      have R1 := R.step s1 c1
      show spM _ (kw X) ps.length m (vs ++ []) H1 Q E0
      rw [List.append_nil]
      refine ⟨(Rp.length r1).trans hl, as, O, ds, S1, d, S', R1.wf, c1, r1, hf, fun v H' s c r g => ?_⟩
      obtain ⟨a, rfl, n, cr, cc⟩ := g rfl
      have n0 : H a = none := by
        cases z : H a with
        | none => rfl
        | some u =>
          by_cases ma : a ∈ as
          · exact absurd n (R1.wf.trk (R1.wf.sub a ma))
          · rw [s1 a u ma z] at n; cases n
      exact kk a H' n0 (s1.trans s) cc cr
    · cases hf
end
def runB (fr : Bool) (N : Nat) (f : Sv) : List D → List D → Option (D × List D) := fun ds S => (f (ds.map .val ++ List.replicate (N - ds.length) .non) S).bind fun o => match o with
  | .rt d S' => some (d, S')
  | .nx _ S' => if fr = true then none else some (.non, S')
  | _ => none
end
section
variable {P : Program} {w : World} {K : PySem.W.Frag} {mg : Str → Option Value} {base : Heap}
theorem rel_start {K : KW} {as : List Addr} {O : Addr → Prop} {H : Hp} {S ds : List D} {vs : List V} {N : List Str} (wf : Wf as O H) (c : Cells K as O H S) (r : RpL K as O H vs ds) :
    Rel K as O (fun a => H a ≠ none) (fun a u => a ∉ as ∧ H a = some u) (start N vs) H (ds.map .val ++ List.replicate (N.length - ds.length) .non) S := by
  have len : vs.length = ds.length := Rp.length r
  have get : ∀ (i : Nat) (x : Slot), x ≠ .non → (ds.map Slot.val ++ List.replicate (N.length - ds.length) .non)[i]? = some x → ∃ d, x = .val d ∧ ds[i]? = some d := fun i x nx h => by
    by_cases hi : i < ds.length
    · rw [List.getElem?_append_left (by simpa using hi), List.getElem?_map] at h
      cases q : ds[i]? with
      | none => rw [q] at h; cases h
      | some d => rw [q] at h; cases h; exact ⟨d, rfl, rfl⟩
    · rw [List.getElem?_append_right (by simpa using hi), List.getElem?_replicate] at h
      split at h
      · cases h; exact absurd rfl nx
      · cases h
  have no : ∀ (i : Nat) (d : D), (ds.map Slot.val ++ List.replicate (N.length - ds.length) .non)[i]? ≠ some (.own d) := fun i d h => by
    obtain ⟨_, e, _⟩ := get i (.own d) (fun z => nomatch z) h
    cases e
  have sb : ∀ a, OO O (ds.map Slot.val ++ List.replicate (N.length - ds.length) .non) (start N vs) a → O a := fun a h => h.elim id fun ⟨i, d, h1, _⟩ => absurd h1 (no i d)
  refine ⟨wf.sub, fun a o => wf.trk o, fun a h => h, wf.mt, wf.nd, fun a u h => h.2, fun a u h => h.1, c.anti sb, ?_, fun i d h => ?_, fun i d h => absurd h (no i d), fun i j d e a _ h => absurd h (no i d)⟩
  · unfold L2.start
    rw [List.length_append, List.length_append, List.length_map, List.length_map, List.length_replicate, List.length_replicate, len]
  · obtain ⟨d', e, h1⟩ := get i (.val d) (fun z => nomatch z) h
    cases e
    obtain ⟨v, h2, r2⟩ := r.get h1
    refine ⟨v, ?_, Rp.anti sb _ _ r2⟩
    unfold L2.start
    have hi : i < vs.length := (List.getElem?_eq_some_iff.mp h2).1
    rw [List.getElem?_append_left (by simpa using hi), List.getElem?_map, h2]
    rfl
abbrev FnP (K : PySem.W.Frag) (x : Str) (st : Stmt) (f : Addr) (fd : FuncData) : Prop := FunD K x x (defArgs st) (defBody st) (defScope st) [] [] f fd
theorem def_ok {x : Str} {st : Stmt} {f : Addr} {fd : FuncData} {N ps : List Str} {k : Nat} {fr : Bool} {g : Sv} {m : List D → List D → Option (D × List D)} (F : FnP K x st f fd) (Sc : FnScope N ps (defScope st)) (hg : mg x = some (.ref f)) (hb : Binds K fd ps [])
    (em : ∀ ds S, ds.length = ps.length → m ds S = runB fr N.length g ds S)
    (body : ∀ (cdv : Value) (A : Around) (outer : List Env) (s : Shared) (H : Hp) (E : XK), Room k (A.deeper (envOfC x (defScope st) s.heap.objs.size f cdv)) →
      PSs (cxOf CX0 P w K mg base N x (defScope st) f cdv A outer s H E).nox (defBody st) (tOfS fr ⟨K, w⟩ g)) : FnM P w K mg base (k + 1) x f fd ps fr m := by
  refine ⟨F.ok Sc (fun vs H Q E h => h.1) (fun cdv A outer s H vs Q E hr h => ⟨_, PSs.nox (body cdv A outer s H E hr), ?_⟩), hg, F.kp, hb⟩
  obtain ⟨hl, as, O, ds, S, r, S', wf, c, rv, hm, q⟩ := h
  rw [em ds S ((Rp.length rv).symm.trans hl)] at hm
  unfold runB at hm
  obtain ⟨o, ho, hm⟩ := Option.bind_eq_some_iff.mp hm
  refine ⟨as, O, _, _, _, S, o, rel_start (N := N) wf c rv, ho, ?_⟩
  cases o with
  | rt d S1 =>
    cases hm
    intro v H' g' rr
    refine q v H' (fun a u n e => g' a u ⟨n, e⟩) rr.1 rr.2.1 fun z => ?_
    obtain ⟨a, e, nb, c1, c2⟩ := rr.2.2 z
    refine ⟨a, e, ?_, c1, c2⟩
    cases y : H a with
    | none => rfl
    | some u => exact absurd (fun e => by rw [y] at e; cases e) nb
  | nx ρ1 S1 =>
    cases fr with
    | true => cases hm
    | false =>
    cases hm
    intro σ' H' R
    have sb : ∀ a, O a → OO O ρ1 σ' a := fun a o => .inl o
    refine q .non H' (fun a u n e => R.g a u ⟨n, e⟩) (R.cells.anti sb) .non fun z => (nomatch z)
  | bk ρ1 S1 => cases hm
  | ct ρ1 S1 => cases hm
end
end DL
namespace DL
open PySem PySem.Spec PyProof.Rows L2
inductive Src where
  | lst (a : Addr) | tup (a : Addr) | str (x : Str) (t : Tok)
def Src.val : Src → Value
  | .lst a => .ref a
  | .tup a => .ref a
  | .str x t => .str x t
def Src.at (K : PySem.W.Frag) (H : Hp) : Src → List V → Prop
  | .lst a, xs => SqL K H a xs
  | .tup a, xs => SqT K H a xs
  | .str x _, xs => xs = x.cps.toList.map fun c => V.str ⟨#[c]⟩
def Src.it (h : Heap) (p : Addr) (i : Nat) : Src → Prop
  | .lst a => h.IsListIter p a i
  | .tup a => h.IsTupleIter p a i
  | .str x t => h.IsStrIter p (strIterType x) x t i
def Src.adr : Src → List Addr
  | .lst a => [a]
  | .tup a => [a]
  | .str _ _ => []
theorem Src.it_keep {s : Src} {h h' : Heap} {p : Addr} {i : Nat} (x : s.it h p i) (k : ∀ o, h.get? p = some o → h'.get? p = some o) : s.it h' p i := by
  cases s with
  | lst a => exact Heap.IsListIter.at x k
  | tup a => exact Heap.IsTupleIter.at x k
  | str y t => obtain ⟨o, ho, q⟩ := x; exact ⟨o, k o ho, q⟩
theorem Src.it_obj {s : Src} {h : Heap} {p : Addr} {i : Nat} (x : s.it h p i) : ∃ o, h.get? p = some o ∧ ∀ v, o.data ≠ .cell v := by
  cases s with
  | lst a => obtain ⟨o, ho, _, d⟩ := x; exact ⟨o, ho, fun v q => by rw [d] at q; cases q⟩
  | tup a => obtain ⟨o, ho, _, d⟩ := x; exact ⟨o, ho, fun v q => by rw [d] at q; cases q⟩
  | str y t => obtain ⟨o, ho, _, d⟩ := x; exact ⟨o, ho, fun v q => by rw [d] at q; cases q⟩
section
variable {X : Cx} {pins : List (Addr × Obj)} {σ : L2.St} {H : Hp} {s : Shared}
theorem Src.at_inj (I : Inv X pins σ H s) {r : Src} {xs ys : List V} (h1 : r.at (kw X) H xs) (h2 : r.at (kw X) H ys) : xs = ys := by
  cases r with
  | lst a => exact I.list_inj h1 h2
  | tup a => exact I.tuple_inj h1 h2
  | str y t => exact h1.trans h2.symm
theorem Src.draws (I : Inv X pins σ H s) (hc : X.calm = true) {r : Src} {xs : List V} (h : r.at (kw X) H xs) {p : Addr} {i : Nat} (hit : r.it s.heap p i) (ne : ∀ a ∈ r.adr, a ≠ p) :
    ∃ P St, Draws X.prog X.w X.A.in1 p (p :: r.adr) xs.length P St ∧ St i s.heap ∧ (∀ j v, P j v → ∃ x, xs[j]? = some x ∧ RelV x v) ∧ ∀ j h', St j h' → r.it h' p j := by
  have hh : X.A.in1.handled = none := I.ok.hd hc
  cases r with
  | lst a =>
    obtain ⟨its, rv, pl, _⟩ := I.list h
    refine ⟨fun j v => its.toArray[j]? = some v, fun j h => h.IsListIter p a j ∧ h.IsList a its.toArray, ?_, ⟨hit, pl.isList⟩, fun j v e => ?_, fun j h' st => st.1⟩
    · have q := Draws.list (prog := X.prog) (w := X.w) hh p a (ne a (by simp [Src.adr])) its.toArray
      rw [show its.toArray.size = xs.length by simp [rv.length]] at q
      exact q
    have e' : its[j]? = some v := by simpa using e
    obtain ⟨x, hx⟩ : ∃ x, xs[j]? = some x := by
      have : j < its.length := (List.getElem?_eq_some_iff.mp e').1
      exact ⟨xs[j]'(by rw [rv.length]; exact this), List.getElem?_eq_getElem _⟩
    obtain ⟨u, hu, ru⟩ := rv.get hx
    rw [e'] at hu
    cases hu
    exact ⟨x, hx, ru⟩
  | tup a =>
    obtain ⟨its, rv, pl, _⟩ := I.tuple h
    obtain ⟨o, ho, c, n, hd⟩ := pl
    refine ⟨fun j v => its.toArray[j]? = some v, fun j h => h.IsTupleIter p a j ∧ h.IsTuple a its.toArray, ?_, ⟨hit, ⟨o, ho, c, n, hd⟩⟩, fun j v e => ?_, fun j h' st => st.1⟩
    · have q := Draws.tuple (prog := X.prog) (w := X.w) hh p a (ne a (by simp [Src.adr])) its.toArray
      rw [show its.toArray.size = xs.length by simp [rv.length]] at q
      exact q
    have e' : its[j]? = some v := by simpa using e
    obtain ⟨x, hx⟩ : ∃ x, xs[j]? = some x := by
      have : j < its.length := (List.getElem?_eq_some_iff.mp e').1
      exact ⟨xs[j]'(by rw [rv.length]; exact this), List.getElem?_eq_getElem _⟩
    obtain ⟨u, hu, ru⟩ := rv.get hx
    rw [e'] at hu
    cases hu
    exact ⟨x, hx, ru⟩
  | str y t =>
    have hx : xs = y.cps.toList.map fun c => V.str ⟨#[c]⟩ := h
    subst hx
    refine ⟨fun j v => ∃ c u, y.cps[j]? = some c ∧ v = .str ⟨#[c]⟩ u, fun j h => h.IsStrIter p (strIterType y) y t j, ?_, hit, fun j v e => ?_, fun j h' st => st⟩
    · have q := Draws.text (prog := X.prog) (w := X.w) hh p y t
      rw [show y.cps.size = (y.cps.toList.map fun c => V.str ⟨#[c]⟩).length by simp] at q
      exact q
    obtain ⟨c, u, e1, e2⟩ := e
    refine ⟨.str ⟨#[c]⟩, ?_, u, e2⟩
    rw [List.getElem?_map]
    have : y.cps.toList[j]? = some c := by simpa using e1
    rw [this]
    rfl
theorem Src.begins (I : Inv X pins σ H s) {r : Src} {xs : List V} (h : r.at (kw X) H xs) : ∃ o Hh, Begins r.val o Hh ∧ Hh s.heap ∧ (∀ h' p, h'.get? p = some o → r.it h' p 0) ∧ (∀ a ∈ r.adr, a < s.heap.objs.size) := by
  cases r with
  | lst a =>
    obtain ⟨its, rv, pl, _⟩ := I.list h
    refine ⟨_, _, begins_list a its.toArray, pl.isList, fun h' p e => ⟨_, e, rfl, rfl⟩, fun b hb => ?_⟩
    have : b = a := by simpa [Src.adr] using hb
    rw [this]
    exact pl.lt
  | tup a =>
    obtain ⟨its, rv, pl, _⟩ := I.tuple h
    have pl' := pl
    obtain ⟨o, ho, c, n, hd⟩ := pl'
    refine ⟨_, _, begins_tuple a its.toArray, ⟨o, ho, c, n, hd⟩, fun h' p e => ⟨_, e, rfl, rfl⟩, fun b hb => ?_⟩
    have : b = a := by simpa [Src.adr] using hb
    rw [this]
    exact pl.lt
  | str y t => exact ⟨_, _, begins_text y t, trivial, fun h' p e => ⟨_, e, rfl, rfl⟩, fun b hb => by simp [Src.adr] at hb⟩
end
structure Ap5 (z TI TO i1 i2 : Addr) (r1 r2 : Src) : Prop where
  TIz : TI ≠ z
  TOz : TO ≠ z
  TITO : TI ≠ TO
  TIi1 : TI ≠ i1
  TIi2 : TI ≠ i2
  TOi1 : TO ≠ i1
  TOi2 : TO ≠ i2
  zi1 : z ≠ i1
  zi2 : z ≠ i2
  i12 : i1 ≠ i2
  a1 : ∀ a ∈ r1.adr, a ≠ z ∧ a ≠ TO ∧ a ≠ i1 ∧ a ≠ i2
  a2 : ∀ a ∈ r2.adr, a ≠ z ∧ a ≠ TO ∧ a ≠ i1 ∧ a ≠ i2
theorem Ap5.sep {z TI TO i1 i2 : Addr} {r1 r2 : Src} (A : Ap5 z TI TO i1 i2 r1 r2) : ZipSep2 z TI TO i1 i2 (i1 :: r1.adr) (i2 :: r2.adr) where
  TIz := A.TIz
  TOz := A.TOz
  TITO := A.TITO
  TIi1 := A.TIi1
  mem1 := List.mem_cons_self
  zf1 := fun h => (List.mem_cons.mp h).elim A.zi1 fun q => (A.a1 _ q).1 rfl
  Tf1 := fun h => (List.mem_cons.mp h).elim A.TOi1 fun q => (A.a1 _ q).2.1 rfl
  TIi2 := A.TIi2
  mem2 := List.mem_cons_self
  zf2 := fun h => (List.mem_cons.mp h).elim A.zi2 fun q => (A.a2 _ q).1 rfl
  Tf2 := fun h => (List.mem_cons.mp h).elim A.TOi2 fun q => (A.a2 _ q).2.1 rfl
  sep1_2 := fun h => (List.mem_cons.mp h).elim A.i12 fun q => (A.a2 _ q).2.2.1 rfl
  sep2_1 := fun h => (List.mem_cons.mp h).elim (fun e => A.i12 e.symm) fun q => (A.a1 _ q).2.2.2 rfl
def ItzM (K : PySem.W.Frag) (r1 r2 : Src) : It :=
  ⟨fun i H => ∃ (xs ys : List V) (x y : V), r1.at K H xs ∧ r2.at K H ys ∧ xs[i]? = some x ∧ ys[i]? = some y,
    fun i H v H' => ∃ T x y, v = .ref T ∧ H T = none ∧ H' = upd H T (.tup [x, y]) ∧ (∀ xs, r1.at K H xs → xs[i]? = some x) ∧ ∀ ys, r2.at K H ys → ys[i]? = some y,
    fun i H => ∃ xs ys : List V, r1.at K H xs ∧ r2.at K H ys ∧ (xs.length ≤ i ∨ ys.length ≤ i) ∧ i ≤ xs.length ∧ i ≤ ys.length⟩
theorem turn_zipM {P : Program} {w : World} {K : PySem.W.Frag} {elts : List Expr} {kk : Nat} {tpos : Pos} {r1 r2 : Src} {z TI TO i1 i2 : Addr} (A : Ap5 z TI TO i1 i2 r1 r2) :
    Turn P w K (.Tuple elts kk tpos) (ItzM K r1 r2) [z, TI, TO, i1, i2] z (fun i h => IsZip h z TI TO .none ∧ IsTupOf2 h TI (.ref i1) (.ref i2) ∧ (∃ x y, IsTupOf2 h TO x y) ∧ r1.it h i1 i ∧ r2.it h i2 i) where
  mem := by simp
  obj := fun i h st c hc => by
    obtain ⟨hz, hTI, ⟨x, y, hTO⟩, h1, h2⟩ := st
    have e' : c = z ∨ c = TI ∨ c = TO ∨ c = i1 ∨ c = i2 := by simpa using hc
    rcases e' with q | q | q | q | q
    · rw [q]; exact ⟨_, hz, fun v q => nomatch q⟩
    · rw [q]; exact ⟨_, hTI, fun v q => nomatch q⟩
    · rw [q]; exact ⟨_, hTO, fun v q => nomatch q⟩
    · rw [q]; exact Src.it_obj h1
    · rw [q]; exact Src.it_obj h2
  keep := fun i h h' st k => by
    obtain ⟨hz, hTI, ⟨x, y, hTO⟩, h1, h2⟩ := st
    exact ⟨k z (by simp) _ hz, k TI (by simp) _ hTI, ⟨x, y, k TO (by simp) _ hTO⟩, Src.it_keep h1 fun o q => k i1 (by simp) o q, Src.it_keep h2 fun o q => k i2 (by simp) o q⟩
  item := by
    intro X hP hw hK hc i pins s σ H E I hf st hg
    subst hP hw hK
    obtain ⟨hz, hTI, ⟨x0, y0, hTO⟩, h1, h2⟩ := st
    obtain ⟨xs, ys, x, y, hqx, hqy, hx, hy⟩ := hg
    obtain ⟨P1, St1, D1, st1, p1, g1⟩ := Src.draws I hc hqx h1 (fun a ha => (A.a1 a ha).2.2.1)
    obtain ⟨P2, St2, D2, st2, p2, g2⟩ := Src.draws I hc hqy h2 (fun a ha => (A.a2 a ha).2.2.2)
    have hzl : z < s.heap.objs.size := Heap.lt_size hz
    have l1 : i < xs.length := (List.getElem?_eq_some_iff.mp hx).1
    have l2 : i < ys.length := (List.getElem?_eq_some_iff.mp hy).1
    refine wpAny_pyNext_zipD2_item A.sep D1 D2 hz hTI hTO st1 st2 l1 l2 fun u u2 h' tk y1 y2 z' TO' h1' h2' hT hsz hk => ?_
    obtain ⟨x', ex, ru⟩ := p1 i u y1
    obtain ⟨y', ey, ru2⟩ := p2 i u2 y2
    rw [hx] at ex
    rw [hy] at ey
    cases ex
    cases ey
    refine ⟨_, rfl, wpAny_letOwnedTupleGo_zip (s := { s with heap := h', toks := tk }) z' fun h'' z'' sb => ?_⟩
    have hT2 : h''.get? s.heap.objs.size = some { cls := .type "tuple", data := .seq #[u, u2] } := (sb.2 _ (Nat.ne_of_gt hzl)).trans hT
    have new : ObjOk X.prog X.w (upd H s.heap.objs.size (.tup [x, y])) h'' s.heap.objs.size (.tup [x, y]) :=
      ⟨by show 2 ≤ sizeLine; decide, [u, u2], .cons ru (.cons ru2 .nil), ⟨_, hT2, rfl, _, rfl⟩⟩
    have I1 : Inv X pins σ (upd H s.heap.objs.size (.tup [x, y])) { s with heap := h'', toks := tk } :=
      I.turnedNew (t' := tk) (ch := [z, TI, TO, i1, i2]) (fun c o hb q => (sb.2 c (fun q' => hb (by simp [q']))).trans (hk c o (fun q' => hb (by simp [q'])) (fun q' => hb (by simp [q'])) (fun q' => hb (by simp [q'])) (fun q' => hb (by simp [q'])) q)) hf (Nat.le_refl _) new
    refine ⟨.ref s.heap.objs.size, _, I1, rfl, ⟨_, x, y, rfl, I.hok.fresh (Nat.le_refl _), rfl, fun l hl => by rw [Src.at_inj I hl hqx]; exact hx, fun l hl => by rw [Src.at_inj I hl hqy]; exact hy⟩, ⟨z'', ?_, ⟨u, u2, ?_⟩, ?_, ?_⟩, fun c hcm => ?_⟩
    · exact (sb.2 _ A.TIz).trans (hk _ _ A.TIz A.TITO A.TIi1 A.TIi2 hTI)
    · exact (sb.2 _ A.TOz).trans TO'
    · exact Src.it_keep (g1 _ _ h1') fun o q => (sb.2 _ A.zi1.symm).trans q
    · exact Src.it_keep (g2 _ _ h2') fun o q => (sb.2 _ A.zi2.symm).trans q
    · have hlt : c < s.heap.objs.size := by
        have e' : c = z ∨ c = TI ∨ c = TO ∨ c = i1 ∨ c = i2 := by simpa using hcm
        rcases e' with q | q | q | q | q
        · rw [q]; exact hzl
        · rw [q]; exact Heap.lt_size hTI
        · rw [q]; exact Heap.lt_size hTO
        · rw [q]; obtain ⟨_, e1, _⟩ := Src.it_obj h1; exact Heap.lt_size e1
        · rw [q]; obtain ⟨_, e2, _⟩ := Src.it_obj h2; exact Heap.lt_size e2
      rw [upd_ne (Nat.ne_of_lt hlt)]
      exact (hf c hcm).1
  done := by
    intro X hP hw hK hc i pins s σ H E I hf st hg
    subst hP hw hK
    obtain ⟨hz, hTI, ⟨x0, y0, hTO⟩, h1, h2⟩ := st
    obtain ⟨xs, ys, hqx, hqy, hend, le1, le2⟩ := hg
    obtain ⟨P1, St1, D1, st1, p1, g1⟩ := Src.draws I hc hqx h1 (fun a ha => (A.a1 a ha).2.2.1)
    obtain ⟨P2, St2, D2, st2, p2, g2⟩ := Src.draws I hc hqy h2 (fun a ha => (A.a2 a ha).2.2.2)
    exact wpAny_pyNext_zipD2_end A.sep D1 D2 hz hTI hTO st1 st2 le1 le2 (by omega) fun h' tk hk => ⟨rfl, I.turnedL (t' := tk) (ch := [z, TI, TO, i1, i2]) (fun c o hb q =>
      hk c o (fun q' => hb (by simp [q'])) (fun q' => hb (by simp [q'])) (fun q' => hb (by simp [q'])) (fun q' => hb (by simp [q'])) q) hf⟩
  self := fun A i s Q E st h => wpAny_pyIter_zip st.1 h
def seqOf : D → Option (List D)
  | .lst xs => some xs
  | .tup xs => some xs
  | .str x => some (x.cps.toList.map fun c => .str ⟨#[c]⟩)
  | _ => none
section
variable {K : KW} {as : List Addr} {O : Addr → Prop} {H H1 H2 H3 : Hp}
theorem rp_signs : ∀ (l : List Nat), RpL K as O H (l.map fun c => V.str ⟨#[c]⟩) (l.map fun c => D.str ⟨#[c]⟩)
  | [] => .nil
  | c :: l => .cons (.str _) (rp_signs l)
theorem src_of {v : V} {u : Value} {d : D} {ds : List D} (w : Wf as O H) (r : Rp K as O H v d) (rv : RelV v u) (hs : seqOf d = some ds) :
    ∃ (q : Src) (vs : List V), u = q.val ∧ RpL K as O H vs ds ∧ ∀ H2, Kp O H H2 → q.at K H2 vs := by
  cases r with
  | lst n h t =>
    cases hs
    cases rv
    exact ⟨.lst _, _, rfl, t, fun H2 k => .inl (.inl (k _ _ n h))⟩
  | tup h t =>
    cases hs
    cases rv
    exact ⟨.tup _, _, rfl, t, fun H2 k => k.sqT w.nt h⟩
  | str x =>
    cases hs
    obtain ⟨t, rfl⟩ := rv
    exact ⟨.str x t, _, rfl, rp_signs _, fun H2 k => rfl⟩
  | _ => cases hs
theorem Kp.refl : Kp O H H := fun _ _ _ h => h
end
def zipD : List D → List D → List D
  | x :: xs, y :: ys => .tup [x, y] :: zipD xs ys
  | _, _ => []
theorem zipD_len : ∀ (xs ys : List D), (zipD xs ys).length = min xs.length ys.length
  | [], _ => by simp [zipD]
  | _ :: _, [] => by simp [zipD]
  | x :: xs, y :: ys => by
    show (zipD xs ys).length + 1 = _
    rw [zipD_len xs ys]
    simp only [List.length_cons]
    omega
theorem zipD_get : ∀ (xs ys : List D) (i : Nat) (d : D), (zipD xs ys)[i]? = some d → ∃ x y, xs[i]? = some x ∧ ys[i]? = some y ∧ d = .tup [x, y]
  | [], _, _, _, h => by simp [zipD] at h
  | _ :: _, [], _, _, h => by simp [zipD] at h
  | x :: xs, y :: ys, 0, d, h => by cases h; exact ⟨x, y, rfl, rfl, rfl⟩
  | x :: xs, y :: ys, i + 1, d, h => zipD_get xs ys i d h
def iZip (fs : Ea) : Ea := fun ρ S => (fs ρ S).bind fun q => match q.1 with
  | [d1, d2] => (seqOf d1).bind fun xs => (seqOf d2).bind fun ys => some (zipD xs ys, q.2)
  | _ => none
theorem mi_zip {X : Cx} {e e2 : Expr} {fs : Ea} {p pos tpos : Pos} {elts : List Expr} {kk : Nat} (hg : Gl X "zip") (hm : X.mg "zip" = none) (ha : PA X [e, e2] (tOfA (kw X) fs))
    (hs : starEach [e, e2] X.env = (false, eval e X.env) :: starEach [e2] X.env := by rfl) (hpl : (backTo pos (starEach [e2] X.env)).any (·.1) = false := by rfl) :
    PI X (.Tuple elts kk tpos) (.Call (.Name "zip" p) [e, e2] [] pos) (tOfI (kw X) (iZip fs)) := by
  refine ⟨fun pins s σ H R I h => ?_⟩
  obtain ⟨as, O, ρ, S, ds, S', R0, hf, k⟩ := h
  unfold iZip at hf
  obtain ⟨⟨dd, S1⟩, h1, hf⟩ := Option.bind_eq_some_iff.mp hf
  refine Call_ (ld_blt I hg hm PyProof.Rows.boot_zip (PyProof.Rows.callWith_type1 (thn (ha.run pos pins s σ H (fun vs H1 => Stp as H H1 ∧ Cells (kw X) as O H1 S1 ∧ RpL (kw X) as O H1 vs dd) I ⟨as, O, ρ, S, dd, S1, R0, h1, fun vs H' s c r => ⟨s, c, r⟩⟩) fun us s1 ⟨vs, H1, I1, rv, s1', c1, rr⟩ => ?_) hs hpl))
  have w1 := R0.wf.step s1' c1
  split at hf
  case h_2 => cases hf
  case h_1 d1 d2 e =>
  obtain ⟨xs, hx, hf⟩ := Option.bind_eq_some_iff.mp hf
  obtain ⟨ys, hy, hf⟩ := Option.bind_eq_some_iff.mp hf
  cases hf
  have e : dd = [d1, d2] := e
  subst e
  cases rr with
  | cons ra rr =>
    cases rr with
    | cons rb rr =>
      cases rr
      cases rv with
      | cons va rv =>
        cases rv with
        | cons vb rv =>
          cases rv
          obtain ⟨r1, v1, rfl, t1, a1⟩ := src_of w1 ra va hx
          obtain ⟨r2, v2, rfl, t2, a2⟩ := src_of w1 rb vb hy
          have q1 := a1 H1 Kp.refl
          have q2 := a2 H1 Kp.refl
          obtain ⟨o1, Hh1, B1, b1, g1, l1⟩ := Src.begins I1 q1
          obtain ⟨o2, Hh2, B2, b2, g2, l2⟩ := Src.begins I1 q2
          refine zip_begins2 B1 B2 b1 b2 fun h' hz hTI hTO ho1 ho2 hsz hk => wpAny_pyIter_zip hz ?_
          have I2 : Inv X pins σ H1 { s1 with heap := h' } := I1.kept (t' := s1.toks) hk
          refine ⟨s1.heap.objs.size + 4, [s1.heap.objs.size + 4, s1.heap.objs.size + 2, s1.heap.objs.size + 3, s1.heap.objs.size, s1.heap.objs.size + 1], _, _, H1, rfl, I2, turn_zipM (r1 := r1) (r2 := r2) (i1 := s1.heap.objs.size) (i2 := s1.heap.objs.size + 1) (TI := s1.heap.objs.size + 2) (TO := s1.heap.objs.size + 3) ?_, ⟨hz, hTI, ⟨_, _, hTO⟩, g1 _ _ ho1, g2 _ _ ho2⟩, fun c hcm => ?_, ?_⟩
          · have nn : ∀ (a n m : Nat), a < n → a ≠ n + m := fun a n m h => by omega
            have n2 : ∀ (n a b : Nat), a ≠ b → n + a ≠ n + b := fun n a b h => by omega
            have n3 : ∀ (n b : Nat), b ≠ 0 → n + b ≠ n := fun n b h => by omega
            have n4 : ∀ (n b : Nat), b ≠ 0 → n ≠ n + b := fun n b h => by omega
            have n5 : ∀ (a n : Nat), a < n → a ≠ n := fun a n h => by omega
            exact ⟨n2 _ _ _ (by decide), n2 _ _ _ (by decide), n2 _ _ _ (by decide), n3 _ _ (by decide), n2 _ _ _ (by decide), n3 _ _ (by decide), n2 _ _ _ (by decide), n3 _ _ (by decide), n2 _ _ _ (by decide), n4 _ _ (by decide),
              fun a ha => ⟨nn _ _ _ (l1 a ha), nn _ _ _ (l1 a ha), n5 _ _ (l1 a ha), nn _ _ _ (l1 a ha)⟩, fun a ha => ⟨nn _ _ _ (l2 a ha), nn _ _ _ (l2 a ha), n5 _ _ (l2 a ha), nn _ _ _ (l2 a ha)⟩⟩
          · have e' : c = s1.heap.objs.size + 4 ∨ c = s1.heap.objs.size + 2 ∨ c = s1.heap.objs.size + 3 ∨ c = s1.heap.objs.size ∨ c = s1.heap.objs.size + 1 := by simpa using hcm
            have hle : s1.heap.objs.size ≤ c := by
              rcases e' with z | z | z | z | z
              · rw [z]; exact Nat.le_add_right _ _
              · rw [z]; exact Nat.le_add_right _ _
              · rw [z]; exact Nat.le_add_right _ _
              · rw [z]; exact Nat.le_refl _
              · rw [z]; exact Nat.le_add_right _ _
            exact I1.fpOk hle (I1.hok.fresh hle)
          · refine k _ H1 s1' c1 fun i H2 kp => ?_
            have b1 := a1 H2 kp
            have b2 := a2 H2 kp
            have n1 := Rp.length t1
            have n2 := Rp.length t2
            refine ⟨fun hl => ?_, fun d hd => ?_⟩
            · have z := zipD_len xs ys
              rw [← hl] at z
              refine ⟨_, _, b1, b2, ?_, ?_, ?_⟩ <;> omega
            · obtain ⟨x, y, hx, hy, rfl⟩ := zipD_get _ _ _ _ hd
              obtain ⟨x', ex, rx⟩ := t1.get hx
              obtain ⟨y', ey, ry⟩ := t2.get hy
              refine ⟨⟨_, _, x', y', b1, b2, ex, ey⟩, fun v H3 yl => ?_⟩
              obtain ⟨T, x2, y2, rfl, nT, rfl, f1, f2⟩ := yl
              have := f1 _ b1
              rw [ex] at this
              cases this
              have := f2 _ b2
              rw [ey] at this
              cases this
              have sm := same_new (o := .tup [x', y']) nT
              have kk : Kp O H1 (upd H2 T (.tup [x', y'])) := fun a u n e => sm a u (kp a u n e)
              exact ⟨sm, .tup (.inl (.inl upd_same)) (RpL.later w1 kk (.cons rx (.cons ry .nil)))⟩
end DL
namespace DL
open PySem PySem.Spec PyProof.Rows L2
set_option maxHeartbeats 1000000 in
theorem meets_enum1 {v : Value} {o : Obj} {H : Heap → Prop} (B : Begins v o H) :
    Meets (Builtin.«enumerate.__new__» ⟨[.type "enumerate", v], []⟩) (fun _ R s => H s.heap ∧
      R (.ok (.ret (.ref (s.heap.push o).objs.size))) { s with heap := (s.heap.push o).push { cls := .type "enumerate", data := .fields #[.none, .bool false, .ref s.heap.objs.size, rawInt 0, .none, .none] } }) :=
  .of_wp fun prog w A R s h => by
    obtain ⟨hp, g, d, tk, os⟩ := s; obtain ⟨h1, h⟩ := h
    have hsub := sub_enumerate
    have q1 : ∀ {A' : Around} {E : Value → Shared → Prop} {Q : Value → Shared → Prop}, Q (.ref hp.objs.size) ⟨hp.push o, g, d, tk, os⟩ → wpAny (model prog w) A' (pyIter v) Q E ⟨hp, g, d, tk, os⟩ :=
      fun q => B.iter prog w _ _ ⟨hp, g, d, tk, os⟩ _ h1 q
    wp_walk using q1
    refine wpAny_stack_any fun st => wpAny_pure ?_
    split
    · rename_i c _ _ _ _ _
      cases (c == Value.type "enumerate")
      · wp_walk using q1
        exact ⟨_, rfl, h⟩
      · wp_walk using q1
        exact ⟨_, rfl, h⟩
    · wp_walk using q1
      exact ⟨_, rfl, h⟩
section
variable {prog : Program} {w : World} {A : Around} {E : Value → Shared → Prop} {s : Shared}
theorem enum_begins1 {v : Value} {o : Obj} {H : Heap → Prop} {Q : Value → Shared → Prop} (B : Begins v o H) (h1 : H s.heap)
    (h : ∀ h', IsEnum h' (s.heap.objs.size + 1) s.heap.objs.size 0 .none → h'.get? s.heap.objs.size = some o → h'.objs.size = s.heap.objs.size + 2 →
      (∀ b o, s.heap.get? b = some o → h'.get? b = some o) → Q (.ref (s.heap.objs.size + 1)) { s with heap := h' }) :
    wpAny (model prog w) A (call (.type "enumerate") [v]) Q E s := by
  refine callType_new F.called_enumerate (by decide) (F.typeCall_enumerate_1 _) (F.newCall_enumerate_1 _) (fun obj => F.args_object_init_2 obj _) F.entry_enumerate_new
    (meets_enum1 B) ⟨h1, ?_⟩
  have hz : (s.heap.push o).objs.size = s.heap.objs.size + 1 := Heap.size_push ..
  show _ ∧ _
  rw [hz]
  have he : IsEnum ((s.heap.push o).push { cls := .type "enumerate", data := .fields #[.none, .bool false, .ref s.heap.objs.size, rawInt 0, .none, .none] }) (s.heap.objs.size + 1) s.heap.objs.size 0 .none := by
    have := Heap.get?_push_size (s.heap.push o) (o := { cls := .type "enumerate", data := .fields #[.none, .bool false, .ref s.heap.objs.size, rawInt 0, .none, .none] }) rfl
    rw [hz] at this; exact this
  refine ⟨⟨_, he, rfl⟩, h _ he (Heap.get?_push_of_some _ (Heap.get?_push_size _ B.free)) (by rw [Heap.size_push, hz]) fun b o x => Heap.get?_push_of_some _ (Heap.get?_push_of_some _ x)⟩
end
def IteM (K : PySem.W.Frag) (r : Src) : It :=
  ⟨fun i H => ∃ (xs : List V) (x : V), r.at K H xs ∧ xs[i]? = some x, fun i H v H' => ∃ T x, v = .ref T ∧ H T = none ∧ H' = upd H T (.tup [.int (i : Nat), x]) ∧ ∀ xs, r.at K H xs → xs[i]? = some x, fun i H => ∃ xs : List V, r.at K H xs ∧ xs.length = i⟩
theorem turn_enumM {P : Program} {w : World} {K : PySem.W.Frag} {elts : List Expr} {kk : Nat} {tpos : Pos} {r : Src} {e it : Addr} (hne : e ≠ it) (ha : ∀ a ∈ r.adr, a ≠ e ∧ a ≠ it) :
    Turn P w K (.Tuple elts kk tpos) (IteM K r) [e, it] e (fun i h => (∃ old, IsEnum h e it ((i : Nat) : Int) old) ∧ r.it h it i) where
  mem := by simp
  obj := fun i h st b hb => by
    obtain ⟨⟨old, he⟩, hi⟩ := st
    have e' : b = e ∨ b = it := by simpa using hb
    rcases e' with z | z
    · rw [z]; exact ⟨_, he, fun v q => nomatch q⟩
    · rw [z]; exact Src.it_obj hi
  keep := fun i h h' st k => let ⟨⟨old, he⟩, hi⟩ := st; ⟨⟨old, k e (by simp) _ he⟩, Src.it_keep hi fun o q => k it (by simp) o q⟩
  item := by
    intro X hP hw hK hc i pins s σ H E I hf st hg
    subst hP hw hK
    obtain ⟨⟨old, he⟩, hit⟩ := st
    obtain ⟨xs, x, hq, hx⟩ := hg
    obtain ⟨P1, St1, D1, st1, p1, g1⟩ := Src.draws I hc hq hit (fun a h => (ha a h).2)
    have hel : e < s.heap.objs.size := Heap.lt_size he
    have hil : it < s.heap.objs.size := by obtain ⟨_, q, _⟩ := Src.it_obj hit; exact Heap.lt_size q
    have l1 : i < xs.length := (List.getElem?_eq_some_iff.mp hx).1
    have hef : e ∉ (it :: r.adr) := fun h => (List.mem_cons.mp h).elim hne fun q => (ha _ q).1 rfl
    refine wpAny_pyNext_enum_itemD D1 he st1 l1 hne hef fun u h' tk y1 ho hit' hT hsz hk => ?_
    obtain ⟨x', ex, ru⟩ := p1 i u y1
    rw [hx] at ex
    cases ex
    refine ⟨_, rfl, wpAny_letOwnedTupleGo_enum (s := { s with heap := h', toks := tk + 1 }) ho fun h'' he' sb => ?_⟩
    have hT2 : h''.get? s.heap.objs.size = some { cls := .type "tuple", data := .seq #[.int i tk, u] } := (sb.2 _ (Nat.ne_of_gt hel)).trans hT
    have new : ObjOk X.prog X.w (upd H s.heap.objs.size (.tup [.int (i : Nat), x])) h'' s.heap.objs.size (.tup [.int (i : Nat), x]) :=
      ⟨by show 2 ≤ sizeLine; decide, [.int i tk, u], .cons ⟨_, rfl⟩ (.cons ru .nil), ⟨_, hT2, rfl, _, rfl⟩⟩
    have I1 : Inv X pins σ (upd H s.heap.objs.size (.tup [.int (i : Nat), x])) { s with heap := h'', toks := tk + 1 } :=
      I.turnedNew (ch := [e, it]) (fun b ob hb q => (sb.2 b (fun z => hb (by simp [z]))).trans (hk b ob (fun z => hb (by simp [z])) (fun z => hb (by simp [z])) q)) hf (Nat.le_refl _) new
    refine ⟨.ref s.heap.objs.size, _, I1, rfl, ⟨_, x, rfl, I.hok.fresh (Nat.le_refl _), rfl, fun ys hy => by rw [Src.at_inj I hy hq]; exact hx⟩, ⟨⟨u, ?_⟩, Src.it_keep (g1 _ _ hit') fun o q => (sb.2 it (Ne.symm hne)).trans q⟩, fun b hb => ?_⟩
    · have e1 : ((i + 1 : Nat) : Int) = (i : Int) + 1 := by omega
      rw [e1]; exact he'
    · have hb' : b < s.heap.objs.size := by
        have e' : b = e ∨ b = it := by simpa using hb
        rcases e' with z | z
        · rw [z]; exact hel
        · rw [z]; exact hil
      rw [upd_ne (Nat.ne_of_lt hb')]
      exact (hf b hb).1
  done := by
    intro X hP hw hK hc i pins s σ H E I hf st hg
    subst hP hw hK
    obtain ⟨⟨old, he⟩, hit⟩ := st
    obtain ⟨xs, hq, hx⟩ := hg
    obtain ⟨P1, St1, D1, st1, p1, g1⟩ := Src.draws I hc hq hit (fun a h => (ha a h).2)
    obtain ⟨f0, f1, f2, f3, f4, f5⟩ := hf it (by simp)
    rw [← hx] at st1
    exact wpAny_pyNext_enum_endD D1 he st1 fun h' eb => ⟨rfl, I.turned (t' := s.toks) (fun b o hb q => eb b o hb q) f0 f1 f3 f4 f5⟩
  self := fun A i s Q E st h => let ⟨⟨_, he⟩, _⟩ := st; wpAny_pyIter_enum he h
def enumD : Nat → List D → List D
  | _, [] => []
  | n, x :: xs => .tup [.int n, x] :: enumD (n + 1) xs
theorem enumD_len : ∀ (n : Nat) (xs : List D), (enumD n xs).length = xs.length
  | _, [] => rfl
  | n, x :: xs => congrArg (· + 1) (enumD_len (n + 1) xs)
theorem enumD_get : ∀ (n : Nat) (xs : List D) (i : Nat) (d : D), (enumD n xs)[i]? = some d → ∃ x, xs[i]? = some x ∧ d = .tup [.int ((n + i : Nat) : Int), x]
  | _, [], _, _, h => by simp [enumD] at h
  | n, x :: xs, 0, d, h => by cases h; exact ⟨x, rfl, rfl⟩
  | n, x :: xs, i + 1, d, h => by
    obtain ⟨y, h1, h2⟩ := enumD_get (n + 1) xs i d h
    exact ⟨y, h1, by rw [h2, show n + 1 + i = n + (i + 1) by omega]⟩
def iEnum (fs : Ea) : Ea := fun ρ S => (fs ρ S).bind fun q => match q.1 with
  | [d1] => (seqOf d1).bind fun xs => some (enumD 0 xs, q.2)
  | _ => none
theorem mi_enum {X : Cx} {e : Expr} {fs : Ea} {p pos tpos : Pos} {elts : List Expr} {kk : Nat} (hg : Gl X "enumerate") (hm : X.mg "enumerate" = none) (ha : PA X [e] (tOfA (kw X) fs))
    (hs : starEach [e] X.env = [(false, eval e X.env)] := by rfl) :
    PI X (.Tuple elts kk tpos) (.Call (.Name "enumerate" p) [e] [] pos) (tOfI (kw X) (iEnum fs)) := by
  refine ⟨fun pins s σ H R I h => ?_⟩
  obtain ⟨as, O, ρ, S, ds, S', R0, hf, k⟩ := h
  unfold iEnum at hf
  obtain ⟨⟨dd, S1⟩, h1, hf⟩ := Option.bind_eq_some_iff.mp hf
  refine Call_ (ld_blt I hg hm boot_enumerate (PyProof.Rows.callWith_type1 (thn (ha.run pos pins s σ H (fun vs H1 => Stp as H H1 ∧ Cells (kw X) as O H1 S1 ∧ RpL (kw X) as O H1 vs dd) I ⟨as, O, ρ, S, dd, S1, R0, h1, fun vs H' s c r => ⟨s, c, r⟩⟩) fun us s1 ⟨vs, H1, I1, rv, s1', c1, rr⟩ => ?_) hs rfl))
  have w1 := R0.wf.step s1' c1
  split at hf
  case h_2 => cases hf
  case h_1 d1 e =>
  obtain ⟨xs, hx, hf⟩ := Option.bind_eq_some_iff.mp hf
  cases hf
  have e : dd = [d1] := e
  subst e
  cases rr with
  | cons ra rr =>
    cases rr
    cases rv with
    | cons va rv =>
      cases rv
      obtain ⟨r1, v1, rfl, t1, a1⟩ := src_of w1 ra va hx
      have q1 := a1 H1 Kp.refl
      obtain ⟨o1, Hh1, B1, b1, g1, l1⟩ := Src.begins I1 q1
      refine enum_begins1 B1 b1 fun h' he ho hsz hk => wpAny_pyIter_enum he ?_
      have I2 : Inv X pins σ H1 { s1 with heap := h' } := I1.kept (t' := s1.toks) hk
      refine ⟨s1.heap.objs.size + 1, [s1.heap.objs.size + 1, s1.heap.objs.size], _, _, H1, rfl, I2, turn_enumM (r := r1) (it := s1.heap.objs.size) (e := s1.heap.objs.size + 1) (Nat.succ_ne_self _) (fun a ha => ⟨?_, ?_⟩), ⟨⟨.none, he⟩, g1 _ _ ho⟩, fun b hb => ?_, ?_⟩
      · exact Nat.ne_of_lt (Nat.lt_succ_of_lt (l1 a ha))
      · exact Nat.ne_of_lt (l1 a ha)
      · have e' : b = s1.heap.objs.size + 1 ∨ b = s1.heap.objs.size := by simpa using hb
        have hle : s1.heap.objs.size ≤ b := by
          rcases e' with z | z
          · rw [z]; exact Nat.le_add_right _ _
          · rw [z]; exact Nat.le_refl _
        exact I1.fpOk hle (I1.hok.fresh hle)
      · refine k _ H1 s1' c1 fun i H2 kp => ?_
        have b1 := a1 H2 kp
        have n1 := Rp.length t1
        refine ⟨fun hl => ?_, fun d hd => ?_⟩
        · have z := enumD_len 0 xs
          rw [← hl] at z
          exact ⟨_, b1, by omega⟩
        · obtain ⟨x, hx, rfl⟩ := enumD_get _ _ _ _ hd
          obtain ⟨x', ex, rx⟩ := t1.get hx
          refine ⟨⟨_, x', b1, ex⟩, fun v H3 yl => ?_⟩
          obtain ⟨T, x2, rfl, nT, rfl, f1⟩ := yl
          have := f1 _ b1
          rw [ex] at this
          cases this
          have sm := same_new (o := .tup [.int (i : Nat), x']) nT
          have kk : Kp O H1 (upd H2 T (.tup [.int (i : Nat), x'])) := fun a u n e => sm a u (kp a u n e)
          rw [Nat.zero_add]
          exact ⟨sm, .tup (.inl (.inl upd_same)) (RpL.later w1 kk (.cons (.int _) (.cons rx .nil)))⟩
def iAny (f : Ev) : Ea := fun ρ S => (f ρ S).bind fun q => (seqOf q.1).bind fun xs => some (xs, q.2)
theorem mi_any {X : Cx} {tg e : Expr} {f : Ev} (he : PE X e (tOf (kw X) f)) : PI X tg e (tOfI (kw X) (iAny f)) := by
  refine ⟨fun pins s σ H R I h => ?_⟩
  obtain ⟨as, O, ρ, S, ds, S', R0, hf, k⟩ := h
  unfold iAny at hf
  obtain ⟨⟨d, S1⟩, h1, hf⟩ := Option.bind_eq_some_iff.mp hf
  obtain ⟨xs, hx, hf⟩ := Option.bind_eq_some_iff.mp hf
  cases hf
  cases d with
  | lst ys =>
    cases hx
    refine (pi_list he).run pins s σ H R I ⟨as, O, ρ, S, _, S1, R0, h1, fun v H1 s1 c1 r1 => ?_⟩
    have w1 := R0.wf.step s1 c1
    cases r1 with
    | lst n hr t =>
      refine ⟨_, rfl, ⟨_, .inl (.inl hr)⟩, k _ H1 s1 c1 fun i H2 kp => ?_⟩
      have q : SqL (kw X) H2 _ _ := .inl (.inl (kp _ _ n hr))
      refine ⟨fun e => ⟨_, q, by rw [e, Rp.length t]; exact Nat.le_refl _⟩, fun d hd => ?_⟩
      obtain ⟨v, ev, rv⟩ := t.get hd
      refine ⟨⟨_, v, q, ev⟩, fun x H3 y => ?_⟩
      obtain ⟨rfl, f⟩ := y
      have := f _ q
      rw [ev] at this
      cases this
      exact ⟨Same.refl _, Rp.kp (op_nt w1) (op_kp kp) _ _ rv.op⟩
  | tup ys =>
    cases hx
    refine (pi_tup he).run pins s σ H R I ⟨as, O, ρ, S, _, S1, R0, h1, fun v H1 s1 c1 r1 => ?_⟩
    have w1 := R0.wf.step s1 c1
    cases r1 with
    | tup hr t =>
      refine ⟨_, rfl, ⟨_, hr⟩, k _ H1 s1 c1 fun i H2 kp => ?_⟩
      have q : SqT (kw X) H2 _ _ := kp.sqT w1.nt hr
      refine ⟨fun e => ⟨_, q, by rw [e, Rp.length t]; exact Nat.le_refl _⟩, fun d hd => ?_⟩
      obtain ⟨v, ev, rv⟩ := t.get hd
      refine ⟨⟨_, v, q, ev⟩, fun x H3 y => ?_⟩
      obtain ⟨rfl, f⟩ := y
      have := f _ q
      rw [ev] at this
      cases this
      exact ⟨Same.refl _, Rp.kp (op_nt w1) (op_kp kp) _ _ rv.op⟩
  | str x =>
    cases hx
    refine (pi_str he).run pins s σ H R I ⟨as, O, ρ, S, _, S1, R0, h1, fun v H1 s1 c1 r1 => ?_⟩
    cases r1
    refine ⟨x, rfl, k _ H1 s1 c1 fun i H2 kp => ⟨fun e => ?_, fun d hd => ?_⟩⟩
    · show x.cps.size ≤ i
      rw [e]
      simp
    · rw [List.getElem?_map] at hd
      cases q : x.cps.toList[i]? with
      | none => rw [q] at hd; cases hd
      | some c =>
        rw [q] at hd
        cases hd
        have hlt : i < x.cps.size := by simpa using (List.getElem?_eq_some_iff.mp q).1
        refine ⟨hlt, fun v H3 y => ?_⟩
        obtain ⟨rfl, c', e1, rfl⟩ := y
        have : x.cps.toList[i]? = some c' := by simpa using e1
        rw [q] at this
        cases this
        exact ⟨Same.refl _, .str _⟩
  | _ => cases hx
def inWord (i : Int) : Bool := decide (-4611686018427387904 ≤ i) && decide (i < 4611686018427387904)
def rangeD (lo hi : Int) : List D := (List.range (hi - lo).toNat).map fun k => .int (lo + (k : Nat))
def iRange1 (fs : Ea) : Ea := fun ρ S => (fs ρ S).bind fun q => match q.1 with
  | [.int j] => if inWord j = true then some (rangeD 0 j, q.2) else none
  | _ => none
def iRange2 (fs : Ea) : Ea := fun ρ S => (fs ρ S).bind fun q => match q.1 with
  | [.int i, .int j] => if (inWord i && inWord j) = true then some (rangeD i j, q.2) else none
  | _ => none
theorem rangeD_len (lo hi : Int) : (rangeD lo hi).length = (hi - lo).toNat := by simp [rangeD]
theorem rangeD_get {lo hi : Int} {i : Nat} {d : D} (h : (rangeD lo hi)[i]? = some d) : i < (hi - lo).toNat ∧ d = .int (lo + (i : Nat)) := by
  unfold rangeD at h
  rw [List.getElem?_map] at h
  by_cases hi' : i < (hi - lo).toNat
  · rw [List.getElem?_range hi'] at h
    cases h
    exact ⟨hi', rfl⟩
  · rw [List.getElem?_eq_none (by simpa using hi')] at h
    cases h
theorem walk_range {K : KW} {as : List Addr} {O : Addr → Prop} {lo hi : Int} {H1 : Hp} : Walk K as O (Itr lo (hi - lo).toNat) H1 (rangeD lo hi) := fun i H2 kp => by
  refine ⟨fun e => ?_, fun d hd => ?_⟩
  · show (hi - lo).toNat ≤ i
    rw [e, rangeD_len]
    exact Nat.le_refl _
  · obtain ⟨h, rfl⟩ := rangeD_get hd
    refine ⟨h, fun x H3 y => ?_⟩
    obtain ⟨rfl, rfl⟩ := y
    exact ⟨Same.refl _, .int _⟩
theorem mi_range1 {X : Cx} {tg a : Expr} {fs : Ea} {p pos : Pos} (hg : Gl X "range") (hm : X.mg "range" = none) (ha : PA X [a] (tOfA (kw X) fs)) (hs : starEach [a] X.env = [(false, eval a X.env)] := by rfl) :
    PI X tg (.Call (.Name "range" p) [a] [] pos) (tOfI (kw X) (iRange1 fs)) := by
  refine ⟨fun pins s σ H R I h => ?_⟩
  obtain ⟨as, O, ρ, S, ds, S', R0, hf, k⟩ := h
  unfold iRange1 at hf
  obtain ⟨⟨dd, S1⟩, h1, hf⟩ := Option.bind_eq_some_iff.mp hf
  refine (pi_range1 hg hm ha hs).run pins s σ H R I ⟨as, O, ρ, S, dd, S1, R0, h1, fun vs H1 s1 c1 r1 => ?_⟩
  split at hf
  · rename_i j e
    have e : dd = [.int j] := e
    subst e
    split at hf
    · rename_i hw
      cases hf
      cases r1 with
      | cons ra rr =>
        cases rr
        cases ra
        unfold inWord at hw
        simp only [Bool.and_eq_true, decide_eq_true_eq] at hw
        refine ⟨j, rfl, by omega, by omega, ?_⟩
        have q := k (Itr 0 (j - 0).toNat) H1 s1 c1 walk_range
        rw [Int.sub_zero] at q
        exact q
    · cases hf
  · cases hf
theorem mi_range2 {X : Cx} {tg a b : Expr} {fs : Ea} {p pos : Pos} (hg : Gl X "range") (hm : X.mg "range" = none) (ha : PA X [a, b] (tOfA (kw X) fs)) (hs : starEach [a, b] X.env = [(false, eval a X.env), (false, eval b X.env)] := by rfl) (hs2 : starEach [b] X.env = [(false, eval b X.env)] := by rfl) :
    PI X tg (.Call (.Name "range" p) [a, b] [] pos) (tOfI (kw X) (iRange2 fs)) := by
  refine ⟨fun pins s σ H R I h => ?_⟩
  obtain ⟨as, O, ρ, S, ds, S', R0, hf, k⟩ := h
  unfold iRange2 at hf
  obtain ⟨⟨dd, S1⟩, h1, hf⟩ := Option.bind_eq_some_iff.mp hf
  refine (pi_range2 hg hm ha hs hs2).run pins s σ H R I ⟨as, O, ρ, S, dd, S1, R0, h1, fun vs H1 s1 c1 r1 => ?_⟩
  split at hf
  · rename_i i j e
    have e : dd = [.int i, .int j] := e
    subst e
    split at hf
    · rename_i hw
      cases hf
      cases r1 with
      | cons ra rr =>
        cases rr with
        | cons rb rr =>
          cases rr
          cases ra
          cases rb
          unfold inWord at hw
          simp only [Bool.and_eq_true, decide_eq_true_eq] at hw
          exact ⟨i, j, rfl, ⟨by omega, by omega, by omega, by omega⟩, k (Itr i (j - i).toNat) H1 s1 c1 walk_range⟩
    · cases hf
  · cases hf
end DL
namespace DL
open PySem PySem.Spec PyProof.Rows L2
section
variable {K : KW} {as : List Addr} {O : Addr → Prop} {H : Hp} {v : V}
theorem RpB.int {i : Int} (r : RpB K as O H v (.int i)) : v = .int i := by
  rcases r with r | ⟨a, _, _, c⟩
  · cases r; rfl
  · cases c
theorem RpB.bl {i : Bool} (r : RpB K as O H v (.bl i)) : v = .bl i := by
  rcases r with r | ⟨a, _, _, c⟩
  · cases r; rfl
  · cases c
theorem RpB.non (r : RpB K as O H v .non) : v = .non := by
  rcases r with r | ⟨a, _, _, c⟩
  · cases r; rfl
  · cases c
theorem RpB.str {x : Str} (r : RpB K as O H v (.str x)) : v = .str x := by
  rcases r with r | ⟨a, _, _, c⟩
  · cases r; rfl
  · cases c
theorem RpB.tup {xs : List D} (r : RpB K as O H v (.tup xs)) : ∃ a vs, v = .ref a ∧ SqT K H a vs ∧ RpL K as O H vs xs := by
  rcases r with r | ⟨a, _, _, c⟩
  · cases r with
    | tup h t => exact ⟨_, _, rfl, h, t⟩
  · cases c
theorem RpB.lst {xs : List D} (r : RpB K as O H v (.lst xs)) : ∃ a vs, v = .ref a ∧ H a = some (.lst vs) ∧ RpL K as O H vs xs := by
  rcases r with r | ⟨a, e, _, c⟩
  · cases r with
    | lst _ h t => exact ⟨_, _, rfl, h, t⟩
  · cases c with
    | lst h t => exact ⟨a, _, e, h, t⟩
end
def Big : Nat := 2 ^ 8000
def wide (i : Int) : Bool := decide (i.natAbs < Big)
def dAdd : D → D → Option D
  | .int i, .int j => some (.int (i + j))
  | .str x, .str y => if x.length + y.length ≤ 16777216 then some (.str (x ++ y)) else none
  | .tup xs, .tup ys => if xs.length + ys.length ≤ 16777216 then some (.tup (xs ++ ys)) else none
  | .lst xs, .lst ys => if xs.length + ys.length ≤ 16777216 then some (.lst (xs ++ ys)) else none
  | _, _ => none
def dSub : D → D → Option D
  | .int i, .int j => some (.int (i - j))
  | _, _ => none
def small (i : Int) : Bool := decide (i.natAbs < 18446744073709551616)
def dMul : D → D → Option D
  | .int i, .int j => if (small i || small j || (wide i && wide j)) = true then some (.int (i * j)) else none
  | _, _ => none
def dDiv : D → D → Option D
  | .int i, .int j => if (decide (0 < j) && wide j) = true then some (.int (i / j)) else if (decide (j ≠ 0) && decide (j.natAbs < 1073741824)) = true then some (.int (i.fdiv j)) else none
  | _, _ => none
def dMod : D → D → Option D
  | .int i, .int j => if j = 0 then none else some (.int (i.fmod j))
  | _, _ => none
def dPow : D → D → Option D
  | .int i, .int j => if (decide (0 ≤ j) && decide (j ≤ 1000) && decide (i.natAbs < 18446744073709551616)) = true then some (.int (i ^ j.toNat)) else none
  | _, _ => none
def dNeg : D → Option D
  | .int i => some (.int (-i))
  | _ => none
theorem wide_ok {i : Int} (h : wide i = true) : i.natAbs < 2 ^ 8000 := of_decide_eq_true h
section
variable {X : Cx}
theorem rpL_nil_iff {K : KW} {as : List Addr} {O : Addr → Prop} {H : Hp} {vs : List V} {ds : List D} (r : RpL K as O H vs ds) : vs = [] ↔ ds = [] := by
  cases r with
  | nil => exact ⟨fun _ => rfl, fun _ => rfl⟩
  | cons _ _ => exact ⟨fun h => (nomatch h), fun h => (nomatch h)⟩
theorem od_add : OpR X (binaryOp .Add) (r2D (kw X) dAdd) := by
  intro pins s σ H x y v u Q I rx ry h
  obtain ⟨as, O, d, e, r, w, rd, re, hg, k⟩ := h
  unfold dAdd at hg
  split at hg
  · cases hg
    rw [rd.int] at rx
    rw [re.int] at ry
    exact op_add pins s σ H _ _ v u Q I rx ry ⟨_, _, rfl, rfl, k _ H (Same.refl H) (.int _)⟩
  · split at hg
    · rename_i hl
      cases hg
      rw [rd.str] at rx
      rw [re.str] at ry
      exact op_add_str pins s σ H _ _ v u Q I rx ry ⟨_, _, rfl, rfl, by rw [sizeLine_16]; exact hl, k _ H (Same.refl H) (.str _)⟩
    · cases hg
  · split at hg
    · rename_i hl
      cases hg
      obtain ⟨a, vs, rfl, h1, t1⟩ := rd.tup
      obtain ⟨b, ws, rfl, h2, t2⟩ := re.tup
      refine op_catA pins s σ H _ _ v u Q I rx ry ⟨a, b, vs, ws, rfl, rfl, h1, h2, by rw [sizeLine_16, Rp.length t1, Rp.length t2]; exact hl, fun e => ?_, fun ne e => ?_, fun ne ne2 p hp => ?_⟩
      · have e' := (rpL_nil_iff t1).mp e
        subst e'
        exact k _ H (Same.refl H) (.tup h2 t2)
      · have e' := (rpL_nil_iff t2).mp e
        subst e'
        exact k _ H (Same.refl H) (.tup h1 (by rw [List.append_nil]; exact t1))
      · have sm := same_new (o := .tup (vs ++ ws)) hp
        exact k _ _ sm (.tup (.inl (.inl upd_same)) ((t1.append t2).stp w (Same.stp sm)))
    · cases hg
  · split at hg
    · rename_i hl
      cases hg
      obtain ⟨a, vs, rfl, h1, t1⟩ := rd.lst
      obtain ⟨b, ws, rfl, h2, t2⟩ := re.lst
      refine op_cat pins s σ H _ _ v u Q I rx ry ⟨a, b, vs, ws, rfl, rfl, h1, h2, by rw [sizeLine_16, Rp.length t1, Rp.length t2]; exact hl, fun p hp => ?_⟩
      have sm := same_new (o := .lst (vs ++ ws)) hp
      exact k _ _ sm (.lst (w.nel hp) upd_same ((t1.append t2).stp w (Same.stp sm)))
    · cases hg
  · cases hg
theorem od_int {f : Value → Value → Sem Value} {g : D → D → Option D} {C : Int → Int → Prop} {h : Int → Int → V} (ho : OpR X f (rI C h)) (hd : ∀ d e r, g d e = some r → ∃ i j, d = .int i ∧ e = .int j ∧ C i j ∧ (∀ as O H, Rp (kw X) as O H (h i j) r)) : OpR X f (r2D (kw X) g) := by
  intro pins s σ H x y v u Q I rx ry q
  obtain ⟨as, O, d, e, r, w, rd, re, hg, k⟩ := q
  obtain ⟨i, j, rfl, rfl, c, rr⟩ := hd d e r hg
  rw [rd.int] at rx
  rw [re.int] at ry
  exact ho pins s σ H _ _ v u Q I rx ry ⟨i, j, rfl, rfl, c, k _ H (Same.refl H) (rr _ _ _)⟩
theorem od_int0 {f : Value → Value → Sem Value} {g : D → D → Option D} {h : Int → Int → V} (ho : OpR X f (rI0 h)) (hd : ∀ d e r, g d e = some r → ∃ i j, d = .int i ∧ e = .int j ∧ (∀ as O H, Rp (kw X) as O H (h i j) r)) : OpR X f (r2D (kw X) g) := by
  intro pins s σ H x y v u Q I rx ry q
  obtain ⟨as, O, d, e, r, w, rd, re, hg, k⟩ := q
  obtain ⟨i, j, rfl, rfl, rr⟩ := hd d e r hg
  rw [rd.int] at rx
  rw [re.int] at ry
  exact ho pins s σ H _ _ v u Q I rx ry ⟨i, j, rfl, rfl, k _ H (Same.refl H) (rr _ _ _)⟩
theorem od_sub : OpR X (binaryOp .Sub) (r2D (kw X) dSub) := od_int0 op_sub fun d e r h => by
  unfold dSub at h
  split at h
  · cases h; exact ⟨_, _, rfl, rfl, fun _ _ _ => .int _⟩
  · cases h
theorem od_mul : OpR X (binaryOp .Mult) (r2D (kw X) dMul) := by
  have ho : OpR X (binaryOp .Mult) (rI (fun i j => IntMulOk i j) fun i j => .int (i * j)) := opI fun _ _ _ _ _ _ _ hc q => mul_int q hc
  refine od_int ho fun d e r h => ?_
  unfold dMul at h
  split at h
  · split at h
    · rename_i i j hw
      cases h
      refine ⟨_, _, rfl, rfl, ?_, fun _ _ _ => .int _⟩
      rw [Bool.or_eq_true, Bool.or_eq_true, Bool.and_eq_true] at hw
      rcases hw with (hw | hw) | hw
      · have := of_decide_eq_true hw
        exact .of_left (intBits_le_64 (by omega) (by omega))
      · have := of_decide_eq_true hw
        exact .of_right (intBits_le_64 (by omega) (by omega))
      · exact CMulW.ok (wide_mul (wide_ok hw.1) (wide_ok hw.2) (by decide) (by decide) (by decide))
    · cases h
  · cases h
theorem od_div : OpR X (binaryOp .FloorDiv) (r2D (kw X) dDiv) := by
  intro pins s σ H x y v u Q I rx ry q
  obtain ⟨as, O, d, e, r, w, rd, re, hg, k⟩ := q
  unfold dDiv at hg
  split at hg
  · rename_i i j
    rw [rd.int] at rx
    rw [re.int] at ry
    split at hg
    · rename_i hw
      cases hg
      rw [Bool.and_eq_true] at hw
      exact op_fdivW pins s σ H _ _ v u Q I rx ry ⟨_, _, rfl, rfl, wide_div (of_decide_eq_true hw.1) (wide_ok hw.2) (by decide) (by decide), k _ H (Same.refl H) (.int _)⟩
    · split at hg
      · rename_i hw
        cases hg
        rw [Bool.and_eq_true] at hw
        exact op_fdivN pins s σ H _ _ v u Q I rx ry ⟨_, _, rfl, rfl, ⟨of_decide_eq_true hw.1, of_decide_eq_true hw.2⟩, k _ H (Same.refl H) (.int _)⟩
      · cases hg
  · cases hg
theorem od_mod : OpR X (binaryOp .Mod) (r2D (kw X) dMod) := od_int op_modN fun d e r h => by
  unfold dMod at h
  split at h
  · split at h
    · cases h
    · rename_i hj
      cases h
      exact ⟨_, _, rfl, rfl, hj, fun _ _ _ => .int _⟩
  · cases h
theorem od_pow : OpR X (binaryOp .Pow) (r2D (kw X) dPow) := od_int op_pow fun d e r h => by
  unfold dPow at h
  split at h
  · split at h
    · rename_i i j hw
      cases h
      simp only [Bool.and_eq_true, decide_eq_true_eq] at hw
      exact ⟨_, _, rfl, rfl, ⟨hw.1.1, by omega, hw.2⟩, fun _ _ _ => .int _⟩
    · cases h
  · cases h
theorem ud_neg : UnR X (unaryOp .USub) (r1D (kw X) dNeg) := by
  intro pins s σ H x v Q I rx q
  obtain ⟨as, O, d, r, w, rd, hg, k⟩ := q
  unfold dNeg at hg
  split at hg
  · cases hg
    rw [rd.int] at rx
    exact un_neg pins s σ H _ v Q I rx ⟨_, rfl, k _ H (Same.refl H) (.int _)⟩
  · cases hg
def dCmp (p : Int → Int → Bool) : D → D → Option D
  | .int i, .int j => some (.bl (p i j))
  | _, _ => none
theorem dCmp_int {p : Int → Int → Bool} {d e r : D} (h : dCmp p d e = some r) : ∃ i j, d = .int i ∧ e = .int j ∧ r = .bl (p i j) := by
  unfold dCmp at h
  split at h
  · cases h; exact ⟨_, _, rfl, rfl, rfl⟩
  · cases h
abbrev dLt := dCmp fun i j => decide (i < j)
abbrev dLe := dCmp fun i j => decide (i ≤ j)
abbrev dGt := dCmp fun i j => decide (j < i)
abbrev dGe := dCmp fun i j => decide (j ≤ i)
theorem od_lt : OpR X (compareOp .Lt) (r2D (kw X) dLt) := od_int0 op_lt fun d e r h => by
  obtain ⟨i, j, rfl, rfl, rfl⟩ := dCmp_int h
  exact ⟨i, j, rfl, rfl, fun _ _ _ => .bl _⟩
theorem od_le : OpR X (compareOp .LtE) (r2D (kw X) dLe) := od_int0 op_le fun d e r h => by
  obtain ⟨i, j, rfl, rfl, rfl⟩ := dCmp_int h
  exact ⟨i, j, rfl, rfl, fun _ _ _ => .bl _⟩
theorem od_gt : OpR X (compareOp .Gt) (r2D (kw X) dGt) := od_int0 op_gt fun d e r h => by
  obtain ⟨i, j, rfl, rfl, rfl⟩ := dCmp_int h
  exact ⟨i, j, rfl, rfl, fun _ _ _ => .bl _⟩
theorem od_ge : OpR X (compareOp .GtE) (r2D (kw X) dGe) := od_int0 op_ge fun d e r h => by
  obtain ⟨i, j, rfl, rfl, rfl⟩ := dCmp_int h
  exact ⟨i, j, rfl, rfl, fun _ _ _ => .bl _⟩
def isNonD : D → Bool
  | .non => true
  | _ => false
def dIsN : D → D → Option D
  | d, .non => some (.bl (isNonD d))
  | _, _ => none
def dNotN : D → D → Option D
  | d, .non => some (.bl (!isNonD d))
  | _, _ => none
theorem rp_non {K : KW} {as : List Addr} {O : Addr → Prop} {H : Hp} {x : V} {d : D} (r : RpB K as O H x d) : decide (x = .non) = isNonD d := by
  rcases r with r | ⟨a, e, _, c⟩
  · cases r <;> rfl
  · subst e
    cases c <;> rfl
theorem od_isN : OpR X (compareOp .Is) (r2D (kw X) dIsN) := by
  intro pins s σ H x y v u Q I rx ry q
  obtain ⟨as, O, d, e, r, w, rd, re, hg, k⟩ := q
  unfold dIsN at hg
  split at hg
  · cases hg
    rw [re.non] at ry
    exact op_isN pins s σ H _ _ v u Q I rx ry ⟨rfl, by rw [rp_non rd]; exact k _ H (Same.refl H) (.bl _)⟩
  · cases hg
theorem od_notN : OpR X (compareOp .IsNot) (r2D (kw X) dNotN) := by
  intro pins s σ H x y v u Q I rx ry q
  obtain ⟨as, O, d, e, r, w, rd, re, hg, k⟩ := q
  unfold dNotN at hg
  split at hg
  · rename_i d
    cases hg
    rw [re.non] at ry
    refine op_notN pins s σ H _ _ v u Q I rx ry ⟨rfl, ?_⟩
    rw [rp_non rd]
    exact k _ H (Same.refl H) (.bl _)
  · cases hg
mutual
def py : D → PyData
  | .non => .none
  | .bl b => .bool b
  | .int i => .int i
  | .str x => .str x
  | .tup xs => .tuple (pyL xs)
  | .lst xs => .list (pyL xs)
  | .obj _ => .none
  | .dct _ => .none
  | .scr _ => .none
def pyL : List D → List PyData
  | [] => []
  | x :: xs => py x :: pyL xs
end
mutual
def okD : Nat → D → Bool
  | _, .non => true
  | _, .bl _ => true
  | _, .int _ => true
  | _, .str x => PyData.strOk x
  | n + 1, .tup xs => okL n xs
  | n + 1, .lst xs => okL n xs
  | _, _ => false
def okL : Nat → List D → Bool
  | _, [] => true
  | n, x :: xs => okD n x && okL n xs
end
mutual
def eqD : D → D → Bool
  | .non, .non => true
  | .bl a, .bl b => a == b
  | .bl a, .int j => (if a then 1 else 0) == j
  | .int i, .bl b => i == (if b then 1 else 0)
  | .int i, .int j => i == j
  | .str x, .str y => x == y
  | .lst xs, .lst ys => eqL xs ys
  | .tup xs, .tup ys => eqL xs ys
  | _, _ => false
def eqL : List D → List D → Bool
  | [], [] => true
  | x :: xs, y :: ys => eqD x y && eqL xs ys
  | _, _ => false
end
mutual
theorem ok_lay : ∀ (n : Nat) (d : D), okD n d = true → (py d).canLay0 = true ∧ (py d).depth ≤ n
  | _, .non, _ => ⟨by simp [py, PyData.canLay0], by simp [py, PyData.depth]⟩
  | _, .bl _, _ => ⟨by simp [py, PyData.canLay0], by simp [py, PyData.depth]⟩
  | _, .int _, _ => ⟨by simp [py, PyData.canLay0], by simp [py, PyData.depth]⟩
  | _, .str x, h => ⟨by simpa [py, PyData.canLay0, okD] using h, by simp [py, PyData.depth]⟩
  | n + 1, .tup xs, h => by
    have q := ok_layL n xs (by simpa [okD] using h)
    refine ⟨by simpa [py, PyData.canLay0] using q.1, ?_⟩
    have := q.2
    simp only [py, PyData.depth]
    omega
  | n + 1, .lst xs, h => by
    have q := ok_layL n xs (by simpa [okD] using h)
    refine ⟨by simpa [py, PyData.canLay0] using q.1, ?_⟩
    have := q.2
    simp only [py, PyData.depth]
    omega
  | 0, .tup _, h => by simp [okD] at h
  | 0, .lst _, h => by simp [okD] at h
  | _, .obj _, h => by simp [okD] at h
  | _, .dct _, h => by simp [okD] at h
  | _, .scr _, h => by simp [okD] at h
theorem ok_layL : ∀ (n : Nat) (ds : List D), okL n ds = true → PyData.canLayAll0 (pyL ds) = true ∧ PyData.depthAll (pyL ds) ≤ n
  | _, [], _ => ⟨by simp [pyL, PyData.canLayAll0], by simp [pyL, PyData.depthAll]⟩
  | n, x :: xs, h => by
    have h' : okD n x = true ∧ okL n xs = true := by simpa [okL] using h
    have a := ok_lay n x h'.1
    have b := ok_layL n xs h'.2
    refine ⟨by simp [pyL, PyData.canLayAll0, a.1, b.1], ?_⟩
    simp only [pyL, PyData.depthAll]
    have := a.2
    have := b.2
    omega
end
mutual
theorem eq_py : ∀ (n : Nat) (d e : D), okD n d = true → okD n e = true → PyData.eqv (py d) (py e) = eqD d e
  | _, .non, .non, _, _ | _, .non, .bl _, _, _ | _, .non, .int _, _, _ | _, .non, .str _, _, _ | _, .non, .tup _, _, _ | _, .non, .lst _, _, _ => by simp [py, PyData.eqv, eqD]
  | _, .bl _, .non, _, _ | _, .bl _, .bl _, _, _ | _, .bl _, .int _, _, _ | _, .bl _, .str _, _, _ | _, .bl _, .tup _, _, _ | _, .bl _, .lst _, _, _ => by simp [py, PyData.eqv, eqD]
  | _, .int _, .non, _, _ | _, .int _, .bl _, _, _ | _, .int _, .int _, _, _ | _, .int _, .str _, _, _ | _, .int _, .tup _, _, _ | _, .int _, .lst _, _, _ => by simp [py, PyData.eqv, eqD]
  | _, .str _, .non, _, _ | _, .str _, .bl _, _, _ | _, .str _, .int _, _, _ | _, .str _, .str _, _, _ | _, .str _, .tup _, _, _ | _, .str _, .lst _, _, _ => by simp [py, PyData.eqv, eqD]
  | _, .tup _, .non, _, _ | _, .tup _, .bl _, _, _ | _, .tup _, .int _, _, _ | _, .tup _, .str _, _, _ | _, .tup _, .lst _, _, _ => by simp [py, PyData.eqv, eqD]
  | _, .lst _, .non, _, _ | _, .lst _, .bl _, _, _ | _, .lst _, .int _, _, _ | _, .lst _, .str _, _, _ | _, .lst _, .tup _, _, _ => by simp [py, PyData.eqv, eqD]
  | n + 1, .tup xs, .tup ys, h, h' => by
    simp only [py, PyData.eqv, eqD]
    exact eq_pyL n xs ys (by simpa [okD] using h) (by simpa [okD] using h')
  | n + 1, .lst xs, .lst ys, h, h' => by
    simp only [py, PyData.eqv, eqD]
    exact eq_pyL n xs ys (by simpa [okD] using h) (by simpa [okD] using h')
  | 0, .tup _, _, h, _ | 0, .lst _, _, h, _ => by simp [okD] at h
  | _, .obj _, _, h, _ | _, .dct _, _, h, _ | _, .scr _, _, h, _ => by simp [okD] at h
  | _, _, .obj _, _, h | _, _, .dct _, _, h | _, _, .scr _, _, h => by simp [okD] at h
theorem eq_pyL : ∀ (n : Nat) (d e : List D), okL n d = true → okL n e = true → PyData.eqvAll (pyL d) (pyL e) = eqL d e
  | _, [], [], _, _ | _, [], _ :: _, _, _ | _, _ :: _, [], _, _ => by simp [pyL, PyData.eqvAll, eqL]
  | n, x :: xs, y :: ys, h, h' => by
    have a : okD n x = true ∧ okL n xs = true := by simpa [okL] using h
    have b : okD n y = true ∧ okL n ys = true := by simpa [okL] using h'
    simp only [pyL, PyData.eqvAll, eqL]
    rw [eq_py n x y a.1 b.1, eq_pyL n xs ys a.2 b.2]
end
theorem ok_shaped {n : Nat} (hn : n ≤ 64) {d : D} (h : okD n d = true) : SeqAt.shaped (py d) = true := by
  have q := ok_lay n d h
  unfold SeqAt.shaped
  rw [q.1, Bool.true_and, decide_eq_true_eq]
  omega
section
variable {K : KW} {as : List Addr} {O : Addr → Prop} {H : Hp}
mutual
theorem Rp.dp : ∀ (n : Nat) (v : V) (d : D), okD n d = true → Rp K as O H v d → Dp K H v (py d)
  | _, _, .non, _, .non => by simpa [py] using Dp.non
  | _, _, .bl b, _, .bl _ => by simpa [py] using Dp.bl b
  | _, _, .int b, _, .int _ => by simpa [py] using Dp.int b
  | _, _, .str b, _, .str _ => by simpa [py] using Dp.str b
  | n + 1, _, .tup xs, h, .tup q t => by
    simp only [py]
    exact .tup q (RpL.dp n _ _ (by simpa [okD] using h) t)
  | n + 1, _, .lst xs, h, .lst _ q t => by
    simp only [py]
    exact .lst (.inl (.inl q)) (RpL.dp n _ _ (by simpa [okD] using h) t)
  | 0, _, .tup _, h, _ => by simp [okD] at h
  | 0, _, .lst _, h, _ => by simp [okD] at h
  | _, _, .obj _, h, _ => by simp [okD] at h
  | _, _, .dct _, h, _ => by simp [okD] at h
  | _, _, .scr _, h, _ => by simp [okD] at h
theorem RpL.dp : ∀ (n : Nat) (v : List V) (d : List D), okL n d = true → RpL K as O H v d → DpAll K H v (pyL d)
  | _, _, [], _, .nil => by simpa [pyL] using DpAll.nil
  | n, _, x :: xs, h, .cons r t => by
    have a : okD n x = true ∧ okL n xs = true := by simpa [okL] using h
    simp only [pyL]
    exact .cons (Rp.dp n _ _ a.1 r) (RpL.dp n _ _ a.2 t)
end
theorem RpB.dp {n : Nat} {v : V} {d : D} (h : okD n d = true) (r : RpB K as O H v d) : Dp K H v (py d) := by
  rcases r with r | ⟨a, e, _, c⟩
  · exact r.dp n _ _ h
  · subst e
    cases c with
    | lst q t =>
      cases n with
      | zero => simp [okD] at h
      | succ n =>
        simp only [py]
        exact .lst (.inl (.inl q)) (RpL.dp n _ _ (by simpa [okD] using h) t)
    | dct _ _ _ _ _ => simp [okD] at h
end
def dEq : D → D → Option D := fun d e => if (okD 60 d && okD 60 e) = true then some (.bl (eqD d e)) else none
def dNe : D → D → Option D := fun d e => if (okD 60 d && okD 60 e) = true then some (.bl (!eqD d e)) else none
theorem od_eq (hu : X.A.units + 64 < cLine) : OpR X (compareOp .Eq) (r2D (kw X) dEq) := by
  intro pins s σ H x y v u Q I rx ry q
  obtain ⟨as, O, d, e, r, w, rd, re, hg, k⟩ := q
  unfold dEq at hg
  split at hg
  · rename_i hk
    cases hg
    rw [Bool.and_eq_true] at hk
    exact op_eqD hu pins s σ H _ _ v u Q I rx ry ⟨_, _, rd.dp hk.1, re.dp hk.2, ok_shaped (by decide) hk.1, ok_shaped (by decide) hk.2, by rw [eq_py 60 _ _ hk.1 hk.2]; exact k _ H (Same.refl H) (.bl _)⟩
  · cases hg
theorem od_ne (hu : X.A.units + 64 < cLine) : OpR X (compareOp .NotEq) (r2D (kw X) dNe) := by
  intro pins s σ H x y v u Q I rx ry q
  obtain ⟨as, O, d, e, r, w, rd, re, hg, k⟩ := q
  unfold dNe at hg
  split at hg
  · rename_i hk
    cases hg
    rw [Bool.and_eq_true] at hk
    exact op_neD hu pins s σ H _ _ v u Q I rx ry ⟨_, _, rd.dp hk.1, re.dp hk.2, ok_shaped (by decide) hk.1, ok_shaped (by decide) hk.2, by rw [eq_py 60 _ _ hk.1 hk.2]; exact k _ H (Same.refl H) (.bl _)⟩
  · cases hg
def allInt : List D → Bool
  | [] => true
  | .int _ :: xs => allInt xs
  | _ => false
def inI (i : Int) : List D → Bool
  | [] => false
  | .int j :: xs => (j == i) || inI i xs
  | _ :: xs => inI i xs
def inL (d : D) : List D → Bool
  | [] => false
  | x :: xs => eqD x d || inL d xs
def inB : D → D → Option Bool
  | d, .lst xs => if (okD 60 d && okL 60 xs) = true then some (inL d xs) else none
  | .int i, .tup xs => if allInt xs = true then some (inI i xs) else none
  | .str x, .str y => match x.cps.toList with
    | [c] => some (decide (c ∈ y.cps.toList))
    | _ => none
  | _, _ => none
def dIn : D → D → Option D := fun d e => (inB d e).bind fun b => some (.bl b)
def dNi : D → D → Option D := fun d e => (inB d e).bind fun b => some (.bl (!b))
theorem inL_py {n : Nat} {d : D} (h : okD n d = true) : ∀ (xs : List D), okL n xs = true → ((pyL xs).any fun z => PyData.eqv z (py d)) = inL d xs
  | [], _ => by simp [pyL, inL]
  | x :: xs, h' => by
    have a : okD n x = true ∧ okL n xs = true := by simpa [okL] using h'
    simp only [pyL, List.any_cons, inL]
    rw [eq_py n x d a.1 h, inL_py h xs a.2]
theorem inI_v {K : KW} {as : List Addr} {O : Addr → Prop} {H : Hp} {i : Int} : ∀ {vs : List V} {xs : List D}, allInt xs = true → RpL K as O H vs xs → inV (.int i) vs = inI i xs ∧ vs.all flatV = true
  | _, [], _, .nil => ⟨rfl, rfl⟩
  | _, .int j :: xs, h, .cons r t => by
    have q := inI_v (i := i) (xs := xs) (by simpa [allInt] using h) t
    cases r
    refine ⟨?_, ?_⟩
    · have q1 := q.1
      unfold inV at q1 ⊢
      rw [List.any_cons, q1, inI]
      rfl
    · rw [List.all_cons, q.2]; rfl
  | _, .non :: _, h, _ | _, .bl _ :: _, h, _ | _, .str _ :: _, h, _ | _, .tup _ :: _, h, _ | _, .lst _ :: _, h, _ | _, .obj _ :: _, h, _ | _, .dct _ :: _, h, _ | _, .scr _ :: _, h, _ => by simp [allInt] at h
theorem str_eq1 {x : Str} {c : Nat} (h : x.cps.toList = [c]) : x = ⟨#[c]⟩ := by
  obtain ⟨a⟩ := x
  have : a = #[c] := by rw [← Array.toArray_toList (xs := a)]; simp only at h; rw [h]
  rw [this]
theorem od_in (hu : X.A.units + 65 < cLine) : OpR X (compareOp .In) (r2D (kw X) dIn) := by
  intro pins s σ H x y v u Q I rx ry q
  obtain ⟨as, O, d, e, r, w, rd, re, hg, k⟩ := q
  unfold dIn at hg
  obtain ⟨b, hb, hg⟩ := Option.bind_eq_some_iff.mp hg
  cases hg
  have kk := k _ H (Same.refl H) (.bl b)
  unfold inB at hb
  split at hb
  · split at hb
    · rename_i d' xs hk
      cases hb
      rw [Bool.and_eq_true] at hk
      have ho : okD 61 (.lst xs) = true := by simpa [okD] using hk.2
      have dl := re.dp ho
      simp only [py] at dl
      refine op_inD hu pins s σ H _ _ v u Q I rx ry ⟨_, _, rd.dp hk.1, dl, ok_shaped (by decide) hk.1, ?_, by rw [inL_py hk.1 _ hk.2]; exact kk⟩
      have := ok_shaped (n := 61) (by decide) ho
      simpa [py] using this
    · cases hb
  · split at hb
    · rename_i i' xs hk
      cases hb
      obtain ⟨a, vs, rfl, h1, t1⟩ := re.tup
      have z := inI_v (i := i') hk t1
      have e := rd.int
      subst e
      exact op_in_seq pins s σ H _ _ v u Q I rx ry ⟨a, vs, rfl, .inr h1, rfl, z.2, by rw [if_neg (by decide), z.1]; exact kk⟩
    · cases hb
  · split at hb
    · rename_i c hc
      cases hb
      have e := rd.str
      subst e
      have e := re.str
      subst e
      exact op_in_sign pins s σ H _ _ v u Q I rx ry ⟨_, _, by rw [str_eq1 hc], rfl, kk⟩
    · cases hb
  · cases hb
theorem od_ni (hu : X.A.units + 65 < cLine) : OpR X (compareOp .NotIn) (r2D (kw X) dNi) := by
  intro pins s σ H x y v u Q I rx ry q
  obtain ⟨as, O, d, e, r, w, rd, re, hg, k⟩ := q
  unfold dNi at hg
  obtain ⟨b, hb, hg⟩ := Option.bind_eq_some_iff.mp hg
  cases hg
  have kk := k _ H (Same.refl H) (.bl (!b))
  unfold inB at hb
  split at hb
  · split at hb
    · rename_i d' xs hk
      cases hb
      rw [Bool.and_eq_true] at hk
      have ho : okD 61 (.lst xs) = true := by simpa [okD] using hk.2
      have dl := re.dp ho
      simp only [py] at dl
      refine op_notInD hu pins s σ H _ _ v u Q I rx ry ⟨_, _, rd.dp hk.1, dl, ok_shaped (by decide) hk.1, ?_, by rw [inL_py hk.1 _ hk.2]; exact kk⟩
      have := ok_shaped (n := 61) (by decide) ho
      simpa [py] using this
    · cases hb
  · split at hb
    · rename_i i' xs hk
      cases hb
      obtain ⟨a, vs, rfl, h1, t1⟩ := re.tup
      have z := inI_v (i := i') hk t1
      have e := rd.int
      subst e
      exact op_notIn_seq pins s σ H _ _ v u Q I rx ry ⟨a, vs, rfl, .inr h1, rfl, z.2, by rw [if_pos rfl, z.1]; exact kk⟩
    · cases hb
  · split at hb
    · rename_i c hc
      cases hb
      have e := rd.str
      subst e
      have e := re.str
      subst e
      exact op_notIn_sign pins s σ H _ _ v u Q I rx ry ⟨_, _, by rw [str_eq1 hc], rfl, kk⟩
    · cases hb
  · cases hb
end
end DL
namespace DL
open PySem PySem.Spec PyProof.Rows L2
section
variable {X : Cx} {pos : Pos} {e a b c : Expr} {es : List Expr} {f fa fb : Ev} {fs : Ea} {fc fd : Et} {fr : Bool} {g1 g2 : Sv} {st : Stmt} {sts : List Stmt}
def aS (f : Ev) (fs : Ea) : Ea := fun ρ S => (f ρ S).bind fun p => (match p.1 with
  | .lst xs => some xs
  | .tup xs => some xs
  | _ => none).bind fun xs => (fs ρ p.2).bind fun q => some (xs ++ q.1, q.2)
theorem ma_star {p : Pos} (he : PE X e (tOfB (kw X) f)) (hr : PA X es (tOfA (kw X) fs)) (hs : starEach (.Starred e p :: es) X.env = (true, eval e X.env) :: starEach es X.env := by rfl) : PA X (.Starred e p :: es) (tOfA (kw X) (aS f fs)) :=
  (StX.pa_star he hr hs).weak fun σ H Q q => by
    obtain ⟨as, O, ρ, S, d, S', R, hf, k⟩ := q
    unfold aS at hf
    obtain ⟨⟨d1, S1⟩, h1, hf⟩ := Option.bind_eq_some_iff.mp hf
    obtain ⟨xs, hx, hf⟩ := Option.bind_eq_some_iff.mp hf
    obtain ⟨⟨d2, S2⟩, h2, hf⟩ := Option.bind_eq_some_iff.mp hf
    cases hf
    refine ⟨as, O, ρ, S, d1, S1, R, h1, fun v H1 s1 c1 r1 => ?_⟩
    have R1 := R.step s1 c1
    have fin : ∀ vs, RpL (kw X) as O H1 vs xs → tOfA (kw X) fs σ H1 fun ys H2 => Q (vs ++ ys) H2 := fun vs r => ⟨as, O, ρ, S1, d2, S2, R1, h2, fun ys H2 s2 c2 r2 => k _ H2 (s1.trans s2) c2 ((r.stp R1.wf s2).append r2)⟩
    cases d1 with
    | lst ys =>
      cases hx
      obtain ⟨a, vs, rfl, h, t⟩ := r1.lst
      exact ⟨a, vs, rfl, .inr (.inl (.inl h)), fin vs t⟩
    | tup ys =>
      cases hx
      obtain ⟨a, vs, rfl, h, t⟩ := r1.tup
      exact ⟨a, vs, rfl, .inl h, fin vs t⟩
    | _ => cases hx
def ixD (S : List D) : D → D → Option D
  | .lst xs, .int i => atI xs i
  | .tup xs, .int i => atI xs i
  | .str x, .int i => if x.length ≤ 16777216 then (atI x.cps.toList i).bind fun c => some (.str ⟨#[c]⟩) else none
  | .obj k, .int i => match S[k]? with
    | some (.lst xs) => atI xs i
    | _ => none
  | _, _ => none
def rIxD (K : KW) : R2 := fun x y H Q => ∃ as O d e r S, Wf as O H ∧ Cells K as O H S ∧ RpB K as O H x d ∧ RpB K as O H y e ∧ ixD S d e = some r ∧ ∀ v, Rp K as O H v r → Q v H
theorem RpL.at {K : KW} {as : List Addr} {O : Addr → Prop} {H : Hp} {vs : List V} {ds : List D} {i : Int} {d : D} (r : RpL K as O H vs ds) (h : atI ds i = some d) : ∃ v, atI vs i = some v ∧ Rp K as O H v d := by
  unfold atI at h ⊢
  rw [Rp.length r]
  obtain ⟨j, h1, h2⟩ := Option.bind_eq_some_iff.mp h
  obtain ⟨v, h3, r3⟩ := r.get h2
  exact ⟨v, by rw [h1]; exact h3, r3⟩
theorem ix_D : IxR X (rIxD (kw X)) := by
  intro value slice pins s σ H x y v u Q I rx ry q hs
  obtain ⟨as, O, d, e, r, S, w, cc, rd, re, hg, k⟩ := q
  unfold ixD at hg
  split at hg
  · rw [re.int] at ry
    obtain ⟨a, vs, rfl, h, t⟩ := rd.lst
    obtain ⟨z, h1, r1⟩ := t.at hg
    exact ix_list value slice pins s σ H _ _ v u Q I rx ry ⟨a, vs, _, z, rfl, rfl, .inl (.inl h), h1, k z r1⟩ hs
  · rw [re.int] at ry
    obtain ⟨a, vs, rfl, h, t⟩ := rd.tup
    obtain ⟨z, h1, r1⟩ := t.at hg
    exact ix_tup value slice pins s σ H _ _ v u Q I rx ry ⟨a, vs, _, z, rfl, rfl, h, h1, k z r1⟩ hs
  · rw [re.int] at ry
    rw [rd.str] at rx
    split at hg
    · rename_i hl
      obtain ⟨c, h1, hg⟩ := Option.bind_eq_some_iff.mp hg
      cases hg
      exact ix_str value slice pins s σ H _ _ v u Q I rx ry ⟨_, _, c, rfl, rfl, by rw [sizeLine_16]; exact hl, h1, k _ (.str _)⟩ hs
    · cases hg
  · rename_i k' i
    rw [re.int] at ry
    split at hg
    · rename_i xs hx
      rcases rd with rd | ⟨a, _, _, c⟩
      · cases rd with
        | obj ha =>
          cases cc.ix _ _ _ ha hx with
          | lst h t =>
            obtain ⟨z, h1, r1⟩ := t.at hg
            exact ix_list value slice pins s σ H _ _ v u Q I rx ry ⟨_, _, _, z, rfl, rfl, .inl (.inl h), h1, k z r1⟩ hs
      · cases c
    · cases hg
  · cases hg
def eIx (fa fb : Ev) : Ev := fun ρ S => (fa ρ S).bind fun p => (fb ρ p.2).bind fun q => (ixD q.2 p.1 q.1).bind fun r => some (r, q.2)
theorem me_ix (ha : PE X a (tOfB (kw X) fa)) (hb : PE X b (tOfB (kw X) fb)) (hs : PlainIx b := by intro _ _; rfl) : PE X (.Subscript a b pos) (tOf (kw X) (eIx fa fb)) := (pe_ix ix_D ha hb hs).weak fun σ H Q q => by
  obtain ⟨as, O, ρ, S, d, S', R, hf, k⟩ := q
  unfold eIx at hf
  obtain ⟨⟨d1, S1⟩, h1, hf⟩ := Option.bind_eq_some_iff.mp hf
  obtain ⟨⟨d2, S2⟩, h2, hf⟩ := Option.bind_eq_some_iff.mp hf
  obtain ⟨r, h3, hf⟩ := Option.bind_eq_some_iff.mp hf
  cases hf
  refine ⟨as, O, ρ, S, d1, S1, R, h1, fun v H1 s1 c1 r1 => ?_⟩
  have R1 := R.step s1 c1
  refine ⟨as, O, ρ, S1, d2, S2, R1, h2, fun w H2 s2 c2 r2 => ?_⟩
  have R2 := R1.step s2 c2
  exact ⟨as, O, d1, d2, _, S2, R2.wf, c2, r1.stp R1.wf s2, r2, h3, fun v r => k v H2 (s1.trans s2) c2 r⟩
abbrev Eo := List Slot → List D → Option (Option Int × List D)
def tOfO (K : KW) (f : Eo) : TO := fun σ H Q => ∃ as O ρ S d S', RelE K as O σ H ρ S ∧ f ρ S = some (d, S') ∧ ∀ H', Stp as H H' → Cells K as O H' S' → Q d H'
theorem _root_.L2.PO.weak {X : Cx} {e : Option Expr} {t t' : TO} (h : PO X e t) (k : ∀ σ H Q, t' σ H Q → t σ H Q) : PO X e t' := ⟨fun pins s σ H Q I hw => h.run pins s σ H Q I (k _ _ _ hw)⟩
def oN : Eo := fun _ S => some (none, S)
def oE (f : Ev) : Eo := fun ρ S => (f ρ S).bind fun p => match p.1 with
  | .int i => some (some i, p.2)
  | _ => none
theorem mo_none : PO X none (tOfO (kw X) oN) := po_none.weak fun σ H Q q => by
  obtain ⟨as, O, ρ, S, d, S', R, hf, k⟩ := q
  cases hf
  exact k H Stp.refl R.cells
theorem mo_some (h : PE X e (tOf (kw X) f)) : PO X (some e) (tOfO (kw X) (oE f)) := (po_some h).weak fun σ H Q q => by
  obtain ⟨as, O, ρ, S, d, S', R, hf, k⟩ := q
  unfold oE at hf
  obtain ⟨⟨d1, S1⟩, h1, hf⟩ := Option.bind_eq_some_iff.mp hf
  refine ⟨as, O, ρ, S, d1, S1, R, h1, fun v H1 s1 c1 r1 => ?_⟩
  split at hf
  · rename_i i e
    cases hf
    have e : d1 = .int i := e
    subst e
    cases r1
    exact ⟨i, rfl, k H1 s1 c1⟩
  · cases hf
def cutD (xs : List D) (lo hi : Option Int) : List D := (xs.drop (HT.sIx xs.length 0 lo)).take (HT.sIx xs.length xs.length hi - HT.sIx xs.length 0 lo)
def slD (lo hi : Option Int) : D → Option D
  | .lst xs => some (.lst (cutD xs lo hi))
  | .tup xs => some (.tup (cutD xs lo hi))
  | .str x => if x.length ≤ 16777216 then some (.str (cutS x lo hi)) else none
  | _ => none
theorem RpL.take {K : KW} {as : List Addr} {O : Addr → Prop} {H : Hp} : ∀ (n : Nat) {a : List V} {c : List D}, RpL K as O H a c → RpL K as O H (a.take n) (c.take n)
  | 0, _, _, _ => by simpa using RpL.nil
  | n + 1, _, _, .nil => by simpa using RpL.nil
  | n + 1, _, _, .cons r t => .cons r (RpL.take n t)
theorem RpL.drop {K : KW} {as : List Addr} {O : Addr → Prop} {H : Hp} : ∀ (n : Nat) {a : List V} {c : List D}, RpL K as O H a c → RpL K as O H (a.drop n) (c.drop n)
  | 0, _, _, h => h
  | n + 1, _, _, .nil => by simpa using RpL.nil
  | n + 1, _, _, .cons r t => RpL.drop n t
theorem RpL.cut {K : KW} {as : List Addr} {O : Addr → Prop} {H : Hp} {a : List V} {c : List D} (r : RpL K as O H a c) (lo hi : Option Int) : RpL K as O H (cutV a lo hi) (cutD c lo hi) := by
  unfold cutV cutD
  rw [Rp.length r]
  exact (r.drop _).take _
def rSlD (K : KW) : V → Option Int → Option Int → Hp → VK → Prop := fun x lo hi H Q => ∃ as O d r, Wf as O H ∧ RpB K as O H x d ∧ slD lo hi d = some r ∧ ∀ v H', Same H H' → Rp K as O H' v r → Q v H'
theorem sl_D : SlR X (rSlD (kw X)) := by
  intro pins s σ H x v vl vu lo hi sl Q I rx hs pl pu q
  obtain ⟨as, O, d, r, w, rd, hg, k⟩ := q
  unfold slD at hg
  split at hg
  · cases hg
    obtain ⟨a, vs, rfl, h, t⟩ := rd.lst
    refine sl_list pins s σ H _ v vl vu lo hi sl Q I rx hs pl pu ⟨a, vs, rfl, .inl (.inl h), fun p hp => ?_⟩
    have sm := same_new (o := .lst (cutV vs lo hi)) hp
    exact k _ _ sm (.lst (w.nel hp) upd_same ((t.cut lo hi).stp w (Same.stp sm)))
  · cases hg
    obtain ⟨a, vs, rfl, h, t⟩ := rd.tup
    have tc := t.cut lo hi
    refine sl_tupA pins s σ H _ v vl vu lo hi sl Q I rx hs pl pu ⟨a, vs, rfl, h, fun ⟨e1, e2⟩ => ?_, fun _ p hp => ?_⟩
    · have e : cutV vs lo hi = vs := by unfold cutV; rw [e1, e2]; simp
      rw [e] at tc
      exact k _ H (Same.refl H) (.tup h tc)
    · have sm := same_new (o := .tup (cutV vs lo hi)) hp
      exact k _ _ sm (.tup (.inl (.inl upd_same)) (tc.stp w (Same.stp sm)))
  · split at hg
    · rename_i hl
      cases hg
      have e := rd.str
      subst e
      exact sl_str pins s σ H _ v vl vu lo hi sl Q I rx hs pl pu ⟨_, rfl, by rw [sizeLine_16]; exact hl, k _ H (Same.refl H) (.str _)⟩
    · cases hg
  · cases hg
def eSl (fa : Ev) (lo hi : Eo) : Ev := fun ρ S => (fa ρ S).bind fun p => (lo ρ p.2).bind fun q => (hi ρ q.2).bind fun t => (slD q.1 t.1 p.1).bind fun r => some (r, t.2)
theorem me_sl {lo hi : Option Expr} {p2 : Pos} {fl fh : Eo} (ha : PE X a (tOfB (kw X) fa)) (hl : PO X lo (tOfO (kw X) fl)) (hh : PO X hi (tOfO (kw X) fh)) : PE X (.Subscript a (.Slice lo hi none p2) pos) (tOf (kw X) (eSl fa fl fh)) := (pe_slice sl_D ha hl hh).weak fun σ H Q q => by
  obtain ⟨as, O, ρ, S, d, S', R, hf, k⟩ := q
  unfold eSl at hf
  obtain ⟨⟨d1, S1⟩, h1, hf⟩ := Option.bind_eq_some_iff.mp hf
  obtain ⟨⟨d2, S2⟩, h2, hf⟩ := Option.bind_eq_some_iff.mp hf
  obtain ⟨⟨d3, S3⟩, h3, hf⟩ := Option.bind_eq_some_iff.mp hf
  obtain ⟨r, h4, hf⟩ := Option.bind_eq_some_iff.mp hf
  cases hf
  refine ⟨as, O, ρ, S, d1, S1, R, h1, fun v H1 s1 c1 r1 => ?_⟩
  have R1 := R.step s1 c1
  refine ⟨as, O, ρ, S1, d2, S2, R1, h2, fun H2 s2 c2 => ?_⟩
  have R2 := R1.step s2 c2
  refine ⟨as, O, ρ, S2, d3, S3, R2, h3, fun H3 s3 c3 => ?_⟩
  have R3 := R2.step s3 c3
  exact ⟨as, O, d1, _, R3.wf, (r1.stp R1.wf s2).stp R2.wf s3, h4, fun v H' sm r => k v H' (((s1.trans s2).trans s3).trans (Same.stp sm)) (c3.same R3.wf sm) r⟩
def rC1 (K : KW) (g : D → Option D) : List V → Hp → VK → Prop := fun xs H Q => ∃ as O d r x, xs = [x] ∧ Wf as O H ∧ RpB K as O H x d ∧ g d = some r ∧ ∀ v H', Same H H' → Rp K as O H' v r → Q v H'
def rC2 (K : KW) (g : D → D → Option D) : List V → Hp → VK → Prop := fun xs H Q => ∃ as O d e r x y, xs = [x, y] ∧ Wf as O H ∧ RpB K as O H x d ∧ RpB K as O H y e ∧ g d e = some r ∧ ∀ v H', Same H H' → Rp K as O H' v r → Q v H'
def rF1 (K : KW) (g : D → Option (List D)) : List V → Hp → VK → Prop := fun xs H Q => ∃ as O d r x, xs = [x] ∧ Wf as O H ∧ RpB K as O H x d ∧ g d = some r ∧ ∀ vs p, RpL K as O H vs r → H p = none → Q (.ref p) (upd H p (.lst vs))
theorem c1_weak {K : KW} {g : D → Option D} {σ : L2.St} {H : Hp} {Q : VK} (q : tOf K (eUn g fa) σ H Q) : tCB (rC1 K g) (tCons (tOfB K fa) tNil) σ H Q := by
  obtain ⟨as, O, ρ, S, d, S', R, hf, k⟩ := q
  unfold eUn at hf
  obtain ⟨⟨d1, S1⟩, h1, hf⟩ := Option.bind_eq_some_iff.mp hf
  obtain ⟨r, h3, hf⟩ := Option.bind_eq_some_iff.mp hf
  cases hf
  refine ⟨as, O, ρ, S, d1, S1, R, h1, fun v H1 s1 c1 r1 => ?_⟩
  have R1 := R.step s1 c1
  exact ⟨as, O, d1, _, v, rfl, R1.wf, r1, h3, fun v H' sm r => k v H' (s1.trans (Same.stp sm)) (c1.same R1.wf sm) r⟩
theorem c2_weak {K : KW} {g : D → D → Option D} {σ : L2.St} {H : Hp} {Q : VK} (q : tOf K (eBin g fa fb) σ H Q) : tCB (rC2 K g) (tCons (tOfB K fa) (tCons (tOfB K fb) tNil)) σ H Q := by
  obtain ⟨as, O, ρ, S, d, S', R, hf, k⟩ := q
  unfold eBin at hf
  obtain ⟨⟨d1, S1⟩, h1, hf⟩ := Option.bind_eq_some_iff.mp hf
  obtain ⟨⟨d2, S2⟩, h2, hf⟩ := Option.bind_eq_some_iff.mp hf
  obtain ⟨r, h3, hf⟩ := Option.bind_eq_some_iff.mp hf
  cases hf
  refine ⟨as, O, ρ, S, d1, S1, R, h1, fun v H1 s1 c1 r1 => ?_⟩
  have R1 := R.step s1 c1
  refine ⟨as, O, ρ, S1, d2, S2, R1, h2, fun w H2 s2 c2 r2 => ?_⟩
  have R2 := R1.step s2 c2
  exact ⟨as, O, d1, d2, _, v, w, rfl, R2.wf, r1.stp R1.wf s2, r2, h3, fun v H' sm r => k v H' ((s1.trans s2).trans (Same.stp sm)) (c2.same R2.wf sm) r⟩
theorem new_cells {K : KW} {as : List Addr} {O : Addr → Prop} {H : Hp} {S : List D} {p : Addr} {o : HO} (w : Wf as O H) (cc : Cells K as O H S) (hp : H p = none) : Cells K as (ad O p) (upd H p o) S ∧ ∀ vs ds, RpL K as O H vs ds → RpL K as (ad O p) (upd H p o) vs ds := by
  have sm := same_new (o := o) hp
  have kk : Kp (ad O p) H (upd H p o) := fun a u _ e => sm a u e
  have m1 : ∀ a, ad O p a → Nt (H a) := fun a o => by
    rcases o with o | o
    · exact nt_of_mut (w.mt a o)
    · rw [o, hp]; exact nt_none
  have f : ∀ vs ds, RpL K as O H vs ds → RpL K as (ad O p) (upd H p o) vs ds := fun vs ds r => RpL.kp m1 kk _ _ (RpL.ad hp _ _ r)
  refine ⟨⟨cc.len, fun i a d e1 e2 => ?_⟩, f⟩
  cases cc.ix i a d e1 e2 with
  | lst h r => exact .lst (sm _ _ h) (f _ _ r)
  | dct h r t9 e9 k9 => exact .dct (sm _ _ h) (f _ _ r) (f _ _ t9) e9 k9
def eUnF (g : D → Option (List D)) (fa : Ev) : Ev := fun ρ S => (fa ρ S).bind fun p => (g p.1).bind fun r => some (.lst r, p.2)
theorem RelE.free {K : KW} {as : List Addr} {O : Addr → Prop} {σ : L2.St} {H H1 : Hp} {ρ : List Slot} {S S1 : List D} (R : RelE K as O σ H ρ S) (s1 : Stp as H H1) (c1 : Cells K as O H1 S1) {p : Addr} (hp : H1 p = none) : H p = none := by
  have R1 := R.step s1 c1
  cases q : H p with
  | none => rfl
  | some u =>
    by_cases m : p ∈ as
    · exact absurd hp (R1.wf.trk (R1.wf.sub p m))
    · rw [s1 p u m q] at hp; cases hp
theorem f1_weak {K : KW} {g : D → Option (List D)} {σ : L2.St} {H : Hp} {Q : VK} (q : tOfF K (eUnF g fa) σ H Q) : tCB (rF1 K g) (tCons (tOfB K fa) tNil) σ H Q := by
  obtain ⟨as, O, ρ, S, d, S', R, hf, k⟩ := q
  unfold eUnF at hf
  obtain ⟨⟨d1, S1⟩, h1, hf⟩ := Option.bind_eq_some_iff.mp hf
  obtain ⟨r, h3, hf⟩ := Option.bind_eq_some_iff.mp hf
  cases hf
  refine ⟨as, O, ρ, S, d1, S1, R, h1, fun v H1 s1 c1 r1 => ?_⟩
  have R1 := R.step s1 c1
  refine ⟨as, O, d1, _, v, rfl, R1.wf, r1, h3, fun vs p rv hp => ?_⟩
  have q := new_cells (o := .lst vs) R1.wf c1 hp
  exact k p _ (R.free s1 c1 hp) (s1.trans (Same.stp (same_new hp))) q.1 (.lst upd_same (q.2 _ _ rv))
section
variable {id T : String} {x : Str} {p : Pos}
theorem me_b1 {g : D → Option D} (hc : CallR X (.builtin id) (rC1 (kw X) g)) (hg : Gl X x) (hm : X.mg x = none) (hv : bootBuiltins x = some (.builtin id)) (ha : PE X a (tOfB (kw X) fa)) (hn : x ≠ "__name__" := by decide) (hdb : (x == ("__debug__" : Str)) = false := by decide)
    (he : starEach [a] X.env = (false, eval a X.env) :: starEach [] X.env := by rfl) : PE X (.Call (.Name x p) [a] [] pos) (tOf (kw X) (eUn g fa)) := (pe_callB hc hg hm hv (pa_cons ha pa_nil he) hn hdb he rfl).weak fun _ _ _ => c1_weak
theorem me_t1 {g : D → Option D} (hc : CallR X (.type T) (rC1 (kw X) g)) (hg : Gl X x) (hm : X.mg x = none) (hv : bootBuiltins x = some (.type T)) (ha : PE X a (tOfB (kw X) fa)) (hn : x ≠ "__name__" := by decide) (hdb : (x == ("__debug__" : Str)) = false := by decide)
    (he : starEach [a] X.env = (false, eval a X.env) :: starEach [] X.env := by rfl) : PE X (.Call (.Name x p) [a] [] pos) (tOf (kw X) (eUn g fa)) := (pe_callTy hc hg hm hv (pa_cons ha pa_nil he) hn hdb he rfl).weak fun _ _ _ => c1_weak
theorem me_b2 {g : D → D → Option D} (hc : CallR X (.builtin id) (rC2 (kw X) g)) (hg : Gl X x) (hm : X.mg x = none) (hv : bootBuiltins x = some (.builtin id)) (ha : PE X a (tOfB (kw X) fa)) (hb : PE X b (tOfB (kw X) fb)) (hn : x ≠ "__name__" := by decide) (hdb : (x == ("__debug__" : Str)) = false := by decide)
    (he : starEach [a, b] X.env = (false, eval a X.env) :: starEach [b] X.env := by rfl) (he2 : starEach [b] X.env = (false, eval b X.env) :: starEach [] X.env := by rfl) (hpl : (backTo pos (starEach [b] X.env)).any (·.1) = false := by rfl) : PE X (.Call (.Name x p) [a, b] [] pos) (tOf (kw X) (eBin g fa fb)) :=
  (pe_callB hc hg hm hv (pa_cons ha (pa_cons hb pa_nil he2) he) hn hdb he hpl).weak fun _ _ _ => c2_weak
theorem mf_b1 {g : D → Option (List D)} (hc : CallR X (.builtin id) (rF1 (kw X) g)) (hg : Gl X x) (hm : X.mg x = none) (hv : bootBuiltins x = some (.builtin id)) (ha : PE X a (tOfB (kw X) fa)) (hn : x ≠ "__name__" := by decide) (hdb : (x == ("__debug__" : Str)) = false := by decide)
    (he : starEach [a] X.env = (false, eval a X.env) :: starEach [] X.env := by rfl) : PE X (.Call (.Name x p) [a] [] pos) (tOfF (kw X) (eUnF g fa)) := (pe_callB hc hg hm hv (pa_cons ha pa_nil he) hn hdb he rfl).weak fun _ _ _ => f1_weak
theorem mf_t1 {g : D → Option (List D)} (hc : CallR X (.type T) (rF1 (kw X) g)) (hg : Gl X x) (hm : X.mg x = none) (hv : bootBuiltins x = some (.type T)) (ha : PE X a (tOfB (kw X) fa)) (hn : x ≠ "__name__" := by decide) (hdb : (x == ("__debug__" : Str)) = false := by decide)
    (he : starEach [a] X.env = (false, eval a X.env) :: starEach [] X.env := by rfl) : PE X (.Call (.Name x p) [a] [] pos) (tOfF (kw X) (eUnF g fa)) := (pe_callTy hc hg hm hv (pa_cons ha pa_nil he) hn hdb he rfl).weak fun _ _ _ => f1_weak
end
def dLen : D → Option D
  | .lst xs => some (.int xs.length)
  | .tup xs => some (.int xs.length)
  | .str x => if x.length ≤ 16777216 then some (.int x.length) else none
  | _ => none
theorem cd_len : CallR X (.builtin "len") (rC1 (kw X) dLen) := by
  intro pins s σ H xs us Q I r q
  obtain ⟨as, O, d, rr, x, rfl, w, rd, hg, k⟩ := q
  unfold dLen at hg
  split at hg
  · cases hg
    obtain ⟨a, vs, rfl, h, t⟩ := rd.lst
    refine call_len pins s σ H _ us Q I r ⟨_, vs.length, rfl, .inl ⟨vs, .inl (.inl h), rfl⟩, ?_⟩
    rw [Rp.length t]
    exact k _ H (Same.refl H) (.int _)
  · cases hg
    obtain ⟨a, vs, rfl, h, t⟩ := rd.tup
    refine call_len pins s σ H _ us Q I r ⟨_, vs.length, rfl, .inr ⟨vs, h, rfl⟩, ?_⟩
    rw [Rp.length t]
    exact k _ H (Same.refl H) (.int _)
  · split at hg
    · rename_i hl
      cases hg
      have e := rd.str
      subst e
      exact call_len pins s σ H _ us Q I r ⟨_, _, rfl, ⟨by rw [sizeLine_16]; exact hl, rfl⟩, k _ H (Same.refl H) (.int _)⟩
    · cases hg
  · cases hg
def dAbs : D → Option D
  | .int i => some (.int (if i < 0 then -i else i))
  | _ => none
theorem cd_abs : CallR X (.builtin "abs") (rC1 (kw X) dAbs) := by
  intro pins s σ H xs us Q I r q
  obtain ⟨as, O, d, rr, x, rfl, w, rd, hg, k⟩ := q
  unfold dAbs at hg
  split at hg
  · cases hg
    have e := rd.int
    subst e
    exact call_abs pins s σ H _ us Q I r ⟨_, rfl, k _ H (Same.refl H) (.int _)⟩
  · cases hg
def dInt : D → Option D
  | .int i => some (.int i)
  | .bl k => some (.int (if k then 1 else 0))
  | _ => none
theorem cd_int : CallR X (.type "int") (rC1 (kw X) dInt) := by
  intro pins s σ H xs us Q I r q
  obtain ⟨as, O, d, rr, x, rfl, w, rd, hg, k⟩ := q
  unfold dInt at hg
  split at hg
  · cases hg
    have e := rd.int
    subst e
    exact call_int1 pins s σ H _ us Q I r (.inl ⟨_, rfl, k _ H (Same.refl H) (.int _)⟩)
  · cases hg
    have e := rd.bl
    subst e
    exact call_int1 pins s σ H _ us Q I r (.inr ⟨_, rfl, k _ H (Same.refl H) (.int _)⟩)
  · cases hg
def dMax2 : D → D → Option D
  | .int i, .int j => some (.int (if j > i then j else i))
  | _, _ => none
def dMin2 : D → D → Option D
  | .int i, .int j => some (.int (if j < i then j else i))
  | _, _ => none
theorem cd_max2 (hc : X.calm = true) : CallR X (.builtin "max") (rC2 (kw X) dMax2) := by
  intro pins s σ H xs us Q I r q
  obtain ⟨as, O, d, e, rr, x, y, rfl, w, rd, re, hg, k⟩ := q
  unfold dMax2 at hg
  split at hg
  · cases hg
    have e := rd.int
    subst e
    have e := re.int
    subst e
    exact call_max2 hc pins s σ H _ us Q I r ⟨_, _, rfl, k _ H (Same.refl H) (.int _)⟩
  · cases hg
theorem cd_min2 (hc : X.calm = true) : CallR X (.builtin "min") (rC2 (kw X) dMin2) := by
  intro pins s σ H xs us Q I r q
  obtain ⟨as, O, d, e, rr, x, y, rfl, w, rd, re, hg, k⟩ := q
  unfold dMin2 at hg
  split at hg
  · cases hg
    have e := rd.int
    subst e
    have e := re.int
    subst e
    exact call_min2 hc pins s σ H _ us Q I r ⟨_, _, rfl, k _ H (Same.refl H) (.int _)⟩
  · cases hg
def lOf : D → Option (List D)
  | .lst xs => some xs
  | .tup xs => some xs
  | .scr ns => some (ns.map .int)
  | _ => none
theorem rp_ints {K : KW} {as : List Addr} {O : Addr → Prop} {H : Hp} : ∀ ns : List Int, RpL K as O H (ns.map V.int) (ns.map D.int)
  | [] => .nil
  | n :: ns => .cons (.int n) (rp_ints ns)
theorem cd_list : CallR X (.type "list") (rF1 (kw X) lOf) := by
  intro pins s σ H xs us Q I r q
  obtain ⟨as, O, d, rr, x, rfl, w, rd, hg, k⟩ := q
  unfold lOf at hg
  split at hg
  · cases hg
    obtain ⟨a, vs, rfl, h, t⟩ := rd.lst
    exact call_list_of pins s σ H _ us Q I r ⟨a, vs, rfl, .inl (.inl (.inl h)), fun l hl => k vs l t hl⟩
  · cases hg
    obtain ⟨a, vs, rfl, h, t⟩ := rd.tup
    exact call_list_of pins s σ H _ us Q I r ⟨a, vs, rfl, .inr h, fun l hl => k vs l t hl⟩
  · rename_i ns
    cases hg
    rcases rd with rd | ⟨a, _, _, c⟩
    · cases rd with
      | scr h =>
        refine call_list_of pins s σ H _ us Q I r ⟨_, ns.map V.int, rfl, .inl ?_, fun l hl => k _ l (rp_ints ns) hl⟩
        rcases h with h | h
        · exact .inl h.2
        · exact h H
    · cases c
  · cases hg
def dTup : D → Option D
  | .lst xs => some (.tup xs)
  | .tup xs => some (.tup xs)
  | _ => none
theorem cd_tuple : CallR X (.type "tuple") (rC1 (kw X) dTup) := by
  intro pins s σ H xs us Q I r q
  obtain ⟨as, O, d, rr, x, rfl, w, rd, hg, k⟩ := q
  unfold dTup at hg
  split at hg
  · cases hg
    obtain ⟨a, vs, rfl, h, t⟩ := rd.lst
    refine call_tuple_of pins s σ H _ us Q I r ⟨a, vs, rfl, .inl ⟨.inl (.inl h), fun l hl => ?_⟩⟩
    have sm := same_new (o := .tup vs) hl
    exact k _ _ sm (.tup (.inl (.inl upd_same)) (t.stp w (Same.stp sm)))
  · cases hg
    obtain ⟨a, vs, rfl, h, t⟩ := rd.tup
    exact call_tuple_of pins s σ H _ us Q I r ⟨a, vs, rfl, .inr ⟨h, k _ H (Same.refl H) (.tup h t)⟩⟩
  · cases hg
end
end DL
namespace DL
open PySem PySem.Spec PyProof.Rows L2
section
variable {X : Cx} {pos : Pos} {e a b c : Expr} {es : List Expr} {f fa fb fz : Ev} {fs : Ea} {fc fd : Et} {fr : Bool} {g1 g2 : Sv} {st : Stmt} {sts : List Stmt}
def eChain (g h : D → D → Option D) (fa fb fz : Ev) : Ev := fun ρ S => (fa ρ S).bind fun p => (fb ρ p.2).bind fun q => (g p.1 q.1).bind fun r => match r with
  | .bl true => (fz ρ q.2).bind fun t => (h q.1 t.1).bind fun u => some (u, t.2)
  | .bl false => some (.bl false, q.2)
  | _ => none
theorem chain_weak {K : KW} {g h : D → D → Option D} {σ : L2.St} {H : Hp} {Q : VK} (q : tOf K (eChain g h fa fb fz) σ H Q) : tChain (r2D K g) (r2D K h) (tOfB K fa) (tOfB K fb) (tOfB K fz) σ H Q := by
  obtain ⟨as, O, ρ, S, d, S', R, hf, k⟩ := q
  unfold eChain at hf
  obtain ⟨⟨d1, S1⟩, h1, hf⟩ := Option.bind_eq_some_iff.mp hf
  obtain ⟨⟨d2, S2⟩, h2, hf⟩ := Option.bind_eq_some_iff.mp hf
  obtain ⟨r, h3, hf⟩ := Option.bind_eq_some_iff.mp hf
  refine ⟨as, O, ρ, S, d1, S1, R, h1, fun v H1 s1 c1 r1 => ?_⟩
  have R1 := R.step s1 c1
  refine ⟨as, O, ρ, S1, d2, S2, R1, h2, fun w H2 s2 c2 r2 => ?_⟩
  have R2 := R1.step s2 c2
  refine ⟨as, O, d1, d2, r, R2.wf, r1.stp R1.wf s2, r2, h3, fun z H3 sm rz => ?_⟩
  have R3 := R2.step (Same.stp sm) (c2.same R2.wf sm)
  split at hf
  · obtain ⟨⟨d4, S4⟩, h4, hf⟩ := Option.bind_eq_some_iff.mp hf
    obtain ⟨u, h5, hf⟩ := Option.bind_eq_some_iff.mp hf
    cases hf
    cases rz
    refine ⟨true, rfl, ?_⟩
    rw [if_pos rfl]
    refine ⟨as, O, ρ, S2, d4, S4, R3, h4, fun w' H4 s4 c4 r4 => ?_⟩
    have R4 := R3.step s4 c4
    exact ⟨as, O, d2, d4, _, R4.wf, (r2.stp R2.wf (Same.stp sm)).stp R3.wf s4, r4, h5, fun v H' sm' r => k v H' ((((s1.trans s2).trans (Same.stp sm)).trans s4).trans (Same.stp sm')) (c4.same R4.wf sm') r⟩
  · cases hf
    cases rz
    refine ⟨false, rfl, ?_⟩
    rw [if_neg (by decide)]
    exact k _ H3 ((s1.trans s2).trans (Same.stp sm)) R3.cells (.bl _)
  · cases hf
theorem me_chain {op op' : CmpOp} {g h : D → D → Option D} (ho : OpR X (compareOp op) (r2D (kw X) g)) (ho' : OpR X (compareOp op') (r2D (kw X) h)) (ha : PE X a (tOfB (kw X) fa)) (hb : PE X b (tOfB (kw X) fb)) (hc : PE X c (tOfB (kw X) fz))
    (hm : lastMarks [op, op'] [b, c] = false := by with_unfolding_all rfl) : PE X (.Compare a [op, op'] [b, c] pos) (tOf (kw X) (eChain g h fa fb fz)) := (pe_chain ho ho' ha hb hc hm).weak fun _ _ _ => chain_weak
theorem mt_chain {op op' : CmpOp} {g h : D → D → Option D} (ho : OpR X (compareOp op) (r2D (kw X) g)) (ho' : OpR X (compareOp op') (r2D (kw X) h)) (ha : PE X a (tOfB (kw X) fa)) (hb : PE X b (tOfB (kw X) fb)) (hc : PE X c (tOfB (kw X) fz))
    (hm : lastMarks [op, op'] [b, c] = false := by with_unfolding_all rfl) : PT X (.Compare a [op, op'] [b, c] pos) (tOfT (kw X) (cV (eChain g h fa fb fz))) := (pt_chain ho ho' ha hb hc hm).weak fun σ H Q q => by
  obtain ⟨as, O, ρ, S, d, S', R, hf, k⟩ := q
  unfold cV at hf
  obtain ⟨⟨d1, S1⟩, h1, hf⟩ := Option.bind_eq_some_iff.mp hf
  refine chain_weak ⟨as, O, ρ, S, d1, S1, R, h1, fun v H' s c r => ?_⟩
  cases r with
  | bl b => cases hf; exact ⟨_, rfl, k H' s c⟩
  | _ => cases hf
def tyn : D → Option String
  | .non => some "NoneType"
  | .bl _ => some "bool"
  | .int _ => some "int"
  | .str _ => some "str"
  | .tup _ => some "tuple"
  | .lst _ => some "list"
  | _ => none
theorem ty_of {K : KW} {as : List Addr} {O : Addr → Prop} {H : Hp} {v : V} {d : D} {n : String} (r : RpB K as O H v d) (h : tyn d = some n) : TyX K H v (.type n) := by
  cases d with
  | non => cases h; rw [r.non]; exact .base .non
  | bl b => cases h; rw [r.bl]; exact .base (.bl b)
  | int i => cases h; rw [r.int]; exact .base (.int i)
  | str x => cases h; rw [r.str]; exact .base (.str x)
  | tup xs =>
    cases h
    obtain ⟨a, vs, rfl, h, t⟩ := r.tup
    rcases h with (h | ⟨o, h⟩) | ⟨o, _, _, h, hc, _⟩
    · exact .base (.tup h)
    · exact .fTuple h
    · exact .kTuple h hc
  | lst xs =>
    cases h
    obtain ⟨a, vs, rfl, h, t⟩ := r.lst
    exact .base (.lst h)
  | _ => cases h
def isI : D → Option Bool
  | .bl _ => some true
  | .int _ => some true
  | .non => some false
  | .str _ => some false
  | .tup _ => some false
  | .lst _ => some false
  | _ => none
def isBo : D → Option Bool
  | .bl _ => some true
  | .int _ => some false
  | .non => some false
  | .str _ => some false
  | .tup _ => some false
  | .lst _ => some false
  | _ => none
def isS : D → Option Bool
  | .bl _ => some false
  | .int _ => some false
  | .non => some false
  | .str _ => some true
  | .tup _ => some false
  | .lst _ => some false
  | _ => none
def isTp : D → Option Bool
  | .bl _ => some false
  | .int _ => some false
  | .non => some false
  | .str _ => some false
  | .tup _ => some true
  | .lst _ => some false
  | _ => none
def isL : D → Option Bool
  | .bl _ => some false
  | .int _ => some false
  | .non => some false
  | .str _ => some false
  | .tup _ => some false
  | .lst _ => some true
  | _ => none
def isLT : D → Option Bool
  | .bl _ => some false
  | .int _ => some false
  | .non => some false
  | .str _ => some false
  | .tup _ => some true
  | .lst _ => some true
  | _ => none
def Ans (T : String) (p : D → Option Bool) : Prop := ∀ d b, p d = some b → ∃ n, tyn d = some n ∧ kitB n T = some b
theorem ans_int : Ans "int" isI := fun d b h => by
  cases d <;> first | (cases h; exact ⟨_, rfl, by decide +kernel⟩) | cases h
theorem ans_bool : Ans "bool" isBo := fun d b h => by
  cases d <;> first | (cases h; exact ⟨_, rfl, by decide +kernel⟩) | cases h
theorem ans_str : Ans "str" isS := fun d b h => by
  cases d <;> first | (cases h; exact ⟨_, rfl, by decide +kernel⟩) | cases h
theorem ans_tup : Ans "tuple" isTp := fun d b h => by
  cases d <;> first | (cases h; exact ⟨_, rfl, by decide +kernel⟩) | cases h
theorem ans_lst : Ans "list" isL := fun d b h => by
  cases d <;> first | (cases h; exact ⟨_, rfl, by decide +kernel⟩) | cases h
def dIs (p : D → Option Bool) : D → Option D := fun d => (p d).bind fun b => some (.bl b)
section
variable {p q pT p1 : Pos} {T T1 T2 : Str} {t t1 t2 : String}
theorem isi_weak {K : KW} {g : D → Option Bool} {σ : L2.St} {H : Hp} {Q : VK} (an : Ans t g) (q : tOf K (eUn (dIs g) fa) σ H Q) : tCB (rIsi K) (tCons (tOfB K fa) (tCons (tC (.ty t)) tNil)) σ H Q := by
  obtain ⟨as, O, ρ, S, d, S', R, hf, k⟩ := q
  unfold eUn dIs at hf
  obtain ⟨⟨d1, S1⟩, h1, hf⟩ := Option.bind_eq_some_iff.mp hf
  obtain ⟨r, h2, hf⟩ := Option.bind_eq_some_iff.mp hf
  obtain ⟨b, h3, h2⟩ := Option.bind_eq_some_iff.mp h2
  cases h2
  cases hf
  refine ⟨as, O, ρ, S, d1, S1, R, h1, fun v H1 s1 c1 r1 => ?_⟩
  obtain ⟨n, hn, hk⟩ := an d1 b h3
  exact ⟨v, .ty t, _, _, b, rfl, .ty t, ty_of r1 hn, kit_ty hk, k _ H1 s1 c1 (.bl _)⟩
theorem me_isi {g : D → Option Bool} (an : Ans t g) (hg : Gl X "isinstance") (hm : X.mg "isinstance" = none) (hgT : Gl X T) (hmT : X.mg T = none) (hvT : bootBuiltins T = some (.type t)) (ha : PE X a (tOfB (kw X) fa))
    (hnT : T ≠ "__name__" := by decide) (hdT : (T == ("__debug__" : Str)) = false := by decide)
    (he : starEach [a, .Name T pT] X.env = (false, eval a X.env) :: starEach [.Name T pT] X.env := by rfl) (hpl : (backTo pos (starEach [.Name T pT] X.env)).any (·.1) = false := by rfl) :
    PE X (.Call (.Name "isinstance" p) [a, .Name T pT] [] pos) (tOf (kw X) (eUn (dIs g) fa)) :=
  (pe_callB call_isi hg hm boot_isinstance (pa_cons ha (pa_cons (pe_bltn (v := .ty t) hgT hmT hvT rfl hnT hdT) pa_nil rfl) he) (by decide) (by decide) he hpl).weak fun _ _ _ => isi_weak an
theorem isi2_weak {K : KW} {σ : L2.St} {H : Hp} {Q : VK} (h1 : t1 = "list" ∧ t2 = "tuple" ∨ t1 = "tuple" ∧ t2 = "list") (q : tOf K (eUn (dIs isLT) fa) σ H Q) : tCB (rIsiT K) (tCons (tOfB K fa) (tCons (tTup (tCons (tC (.ty t1)) (tCons (tC (.ty t2)) tNil))) tNil)) σ H Q := by
  obtain ⟨as, O, ρ, S, d, S', R, hf, k⟩ := q
  unfold eUn dIs at hf
  obtain ⟨⟨d1, S1⟩, h2, hf⟩ := Option.bind_eq_some_iff.mp hf
  obtain ⟨r, h3, hf⟩ := Option.bind_eq_some_iff.mp hf
  obtain ⟨b, h4, h3⟩ := Option.bind_eq_some_iff.mp h3
  cases h3
  cases hf
  refine ⟨as, O, ρ, S, d1, S1, R, h2, fun v H1 s1 c1 r1 => ⟨by show 2 ≤ sizeLine; decide, fun tp hp => ?_⟩⟩
  have R1 := R.step s1 c1
  have sm := same_new (o := .tup [.ty t1, .ty t2]) hp
  obtain ⟨n, hn⟩ : ∃ n, tyn d1 = some n := by cases d1 <;> first | exact ⟨_, rfl⟩ | cases h4
  have ty := ty_of (r1.stp R1.wf (Same.stp sm)) hn
  refine ⟨v, tp, [.ty t1, .ty t2], _, [.type t1, .type t2], b, rfl, upd_same, .cons (.ty t1) (.cons (.ty t2) .nil), ty, ?_, k _ _ (s1.trans (Same.stp sm)) (c1.same R1.wf sm) (.bl _)⟩
  have a1 : ∀ b', kitB n t1 = some b' → PySem.W.kitOne K (.type n) (.type t1) = some b' := fun b' h => kit_ty h
  have a2 : ∀ b', kitB n t2 = some b' → PySem.W.kitOne K (.type n) (.type t2) = some b' := fun b' h => kit_ty h
  have fin : ∀ b1 b2, kitB n t1 = some b1 → kitB n t2 = some b2 → (b1 || b2) = b → PySem.W.kitAny K (.type n) [.type t1, .type t2] = some b := fun b1 b2 e1 e2 e => by
    refine kitAny_cons (a1 b1 e1) (fun z => ?_) (fun z => by rw [z] at e; simpa using e.symm)
    refine kitAny_cons (a2 b2 e2) (fun z' => ?_) (fun z' => by rw [z'] at e; simpa using e.symm)
    rw [z, z'] at e
    unfold PySem.W.kitAny
    rw [← e]
    rfl
  obtain ⟨b1, b2, e1, e2, e3⟩ : ∃ b1 b2, isL d1 = some b1 ∧ isTp d1 = some b2 ∧ (b1 || b2) = b := by
    cases d1 <;> first | (cases h4; exact ⟨_, _, rfl, rfl, rfl⟩) | cases h4
  obtain ⟨n1, hn1, k1⟩ := ans_lst d1 b1 e1
  obtain ⟨n2, hn2, k2⟩ := ans_tup d1 b2 e2
  rw [hn] at hn1 hn2
  cases hn1
  cases hn2
  rcases h1 with ⟨rfl, rfl⟩ | ⟨rfl, rfl⟩
  · exact fin _ _ k1 k2 e3
  · exact fin _ _ k2 k1 (by rw [Bool.or_comm]; exact e3)
theorem me_isi2 {x1 : Nat} {pp : Pos} (h12 : t1 = "list" ∧ t2 = "tuple" ∨ t1 = "tuple" ∧ t2 = "list") (hg : Gl X "isinstance") (hm : X.mg "isinstance" = none) (hg1 : Gl X T1) (hm1 : X.mg T1 = none) (hv1 : bootBuiltins T1 = some (.type t1)) (hg2 : Gl X T2) (hm2 : X.mg T2 = none) (hv2 : bootBuiltins T2 = some (.type t2)) (ha : PE X a (tOfB (kw X) fa))
    (hn1 : T1 ≠ "__name__" := by decide) (hd1 : (T1 == ("__debug__" : Str)) = false := by decide) (hn2 : T2 ≠ "__name__" := by decide) (hd2 : (T2 == ("__debug__" : Str)) = false := by decide)
    (he : starEach [a, .Tuple [.Name T1 pT, .Name T2 p1] x1 pp] X.env = (false, eval a X.env) :: starEach [.Tuple [.Name T1 pT, .Name T2 p1] x1 pp] X.env := by rfl) (hpl : (backTo pos (starEach [.Tuple [.Name T1 pT, .Name T2 p1] x1 pp] X.env)).any (·.1) = false := by rfl) :
    PE X (.Call (.Name "isinstance" p) [a, .Tuple [.Name T1 pT, .Name T2 p1] x1 pp] [] pos) (tOf (kw X) (eUn (dIs isLT) fa)) :=
  (pe_callB call_isiT hg hm boot_isinstance (pa_cons ha (pa_cons (pe_tup (pa_cons (pe_bltn (v := .ty t1) hg1 hm1 hv1 rfl hn1 hd1) (pa_cons (pe_bltn (v := .ty t2) hg2 hm2 hv2 rfl hn2 hd2) pa_nil rfl) rfl)) pa_nil rfl) he) (by decide) (by decide) he hpl).weak fun _ _ _ => isi2_weak h12
end
def KD (K : PySem.W.Frag) (v : V) (d : D) : Prop := ∀ (w : World) as O H, Rp ⟨K, w⟩ as O H v d
theorem KD.int {K : PySem.W.Frag} (i : Int) : KD K (.int i) (.int i) := fun _ _ _ _ => .int i
theorem KD.str {K : PySem.W.Frag} (i : Str) : KD K (.str i) (.str i) := fun _ _ _ _ => .str i
theorem me_glob {x : Str} {v : V} {u : Value} {d : D} (hg : Gl X x) (hm : X.mg x = some u) (r : RelV v u) (kd : KD X.K v d) (hd : (x == ("__debug__" : Str)) = false := by decide) : PE X (.Name x pos) (tOf (kw X) (eC d)) := me_con (pe_glob hg hm r hd) (kd X.w)
def sApp (i : Nat) (f : Ev) : Sv := fun ρ S => (f ρ S).bind fun p => match ρ[i]? with
  | some (.own (.lst xs)) => if xs.length < 16777216 then some (.nx (ρ.set i (.own (.lst (xs ++ [p.1])))) p.2) else none
  | _ => none
theorem ms_app (i : Nat) {x : Str} {px apos cpos : Pos} (ho : PE X (.Name x px) (tVar i)) (ha : PE X a (tOf (kw X) fa))
    (hbase : attributeBase (.Name x px) "append" X.env (eval (.Name x px) X.env) = eval (.Name x px) X.env := by rfl)
    (hfew : ((backTo cpos (starEach [a] X.env)).all (fun x => !x.1) && (backToKw cpos (keywordEach [] X.env)).all (fun x => x.1.isSome)
      && decide ([a].length + ([] : List Keyword).length + (if ([] : List Keyword).isEmpty then 0 else 1) < 30)) = true := by rfl)
    (hline : (apos.endLine == cpos.line) = true := by rfl) (hs : starEach [a] X.env = (false, eval a X.env) :: starEach [] X.env := by rfl) (hplain : (backTo cpos (starEach [] X.env)).any (·.1) = false := by rfl)
    (hsw : swapsWith (.Call (.Attribute (.Name x px) "append" apos) [a] [] cpos) none pos.line X.env = pure false := by rfl) :
    PS X (.Expr (.Call (.Attribute (.Name x px) "append" apos) [a] [] cpos) pos) (tOfS fr (kw X) (sApp i fa)) :=
  (ps_expr (pe_bm PySem.F.plainAttrs_list PySem.F.slot_list_append PySem.F.type_list_append mt_append ho (pa_cons ha pa_nil hs) hbase hfew hline hs hplain) hsw).weak fun D σ H q => by
    obtain ⟨as, O, B, G, ρ, S, o, R, hf, k⟩ := q
    unfold sApp at hf
    obtain ⟨⟨d1, S1⟩, h1, hf⟩ := Option.bind_eq_some_iff.mp hf
    split at hf
    · rename_i xs hx
      split at hf
      · rename_i hl
        cases hf
        obtain ⟨p, h2, nb, ng, cp⟩ := R.own i _ hx
        cases cp with
        | @lst ws _ hp t =>
          refine ⟨.ref p, h2, .inl ⟨rfl, _, .inl (.inl hp)⟩, as, _, ρ, S, d1, S1, R.e, h1, fun v H1 s1 c1 r1 => ?_⟩
          have R1 := R.step s1 c1
          have hp1 : H1 p = some (.lst ws) := s1 p _ (R.notas nb) hp
          have t1 := t.stp R.wf s1
          have kk : Kp (OO O ρ σ) H1 (upd H1 p (.lst (ws ++ [v]))) := fun b u n e => by
            rw [upd_ne (fun z => n (by rw [z]; exact .inr ⟨i, _, hx, h2⟩))]
            exact e
          refine ⟨p, _, v, rfl, rfl, hp1, by rw [sizeLine_16, Rp.length t1]; exact hl, ?_⟩
          exact k _ _ (R1.mutOwn (o := .lst (ws ++ [v])) hx h2 trivial (.lst upd_same (RpL.kp R1.wf.nt kk _ _ (t1.append (.cons r1 .nil)))))
      · cases hf
    · cases hf
def sIxO (i : Nat) (f fj : Ev) : Sv := fun ρ S => (f ρ S).bind fun p => (fj ρ p.2).bind fun q => match ρ[i]?, q.1 with
  | some (.own (.lst xs)), .int j => (ixN xs.length j).bind fun n => some (.nx (ρ.set i (.own (.lst (xs.set n p.1)))) q.2)
  | _, _ => none
theorem RpL.set {K : KW} {as : List Addr} {O : Addr → Prop} {H : Hp} {v : V} {d : D} (r : Rp K as O H v d) : ∀ (n : Nat) {vs : List V} {ds : List D}, RpL K as O H vs ds → RpL K as O H (vs.set n v) (ds.set n d)
  | _, _, _, .nil => .nil
  | 0, _, _, .cons _ t => .cons r t
  | n + 1, _, _, .cons q t => .cons q (RpL.set r n t)
theorem ms_ixO (i : Nat) {x : Str} {px tpos : Pos} (ho : PE X (.Name x px) (tVar i)) (hj : PE X b (tOf (kw X) fb)) (he : PE X e (tOf (kw X) f))
    (ha : ∀ v, assign (.Subscript (.Name x px) b tpos) X.env v = (do
      let ov ← holding [v] (eval (.Name x px) X.env)
      let iv ← holding [v, ov] (eval b X.env)
      standAt tpos
      holding [v, ov, iv] (setItem ov iv v)
      release [v, ov, iv] []) := by intro _; rfl)
    (hs : swapsWithSole [.Subscript (.Name x px) b tpos] e pos.line X.env = pure false := by rfl) (hw : swappedStores [.Subscript (.Name x px) b tpos] e X.env = pure none := by rfl)
    (h1 : (assignEach [.Subscript (.Name x px) b tpos] X.env).map (·.2) = [assign (.Subscript (.Name x px) b tpos) X.env] := by rfl) :
    PS X (.Assign [.Subscript (.Name x px) b tpos] e pos) (tOfS fr (kw X) (sIxO i f fb)) :=
  (ps_asg he (pg_sub ho hj set_list ha) hs hw h1).weak fun D σ H q => by
    obtain ⟨as, O, B, G, ρ, S, o, R, hf, k⟩ := q
    unfold sIxO at hf
    obtain ⟨⟨d1, S1⟩, h1, hf⟩ := Option.bind_eq_some_iff.mp hf
    obtain ⟨⟨d2, S2⟩, h2, hf⟩ := Option.bind_eq_some_iff.mp hf
    split at hf
    · rename_i xs j hx hj
      obtain ⟨n, hn, hf⟩ := Option.bind_eq_some_iff.mp hf
      cases hf
      have hj : d2 = .int j := hj
      subst hj
      obtain ⟨p, h3, nb, ng, cp⟩ := R.own i _ hx
      cases cp with
      | @lst ws _ hp t =>
        refine ⟨as, _, ρ, S, d1, S1, R.e, h1, fun v H1 s1 c1 r1 => ⟨.ref p, h3, ?_⟩⟩
        have R1 := R.step s1 c1
        refine ⟨as, _, ρ, S1, .int j, S2, R1.e, h2, fun w H2 s2 c2 r2 => ?_⟩
        have R2 := R1.step s2 c2
        cases r2
        have hp2 : H2 p = some (.lst ws) := s2 p _ (R.notas nb) (s1 p _ (R.notas nb) hp)
        have t2 := (t.stp R.wf s1).stp R1.wf s2
        have r1' := r1.stp R1.wf s2
        have kk : Kp (OO O ρ σ) H2 (upd H2 p (.lst (List.set ws n v))) := fun b u n e => by
          rw [upd_ne (fun z => n (by rw [z]; exact .inr ⟨i, _, hx, h3⟩))]
          exact e
        refine ⟨p, _, j, n, rfl, rfl, hp2, by rw [Rp.length t2]; exact hn, ?_⟩
        exact k _ _ (R2.mutOwn (o := .lst (List.set ws n v)) hx h3 trivial (.lst upd_same (RpL.kp R2.wf.nt kk _ _ (RpL.set r1' n t2))))
    · cases hf
def sIxC (fo f fj : Ev) : Sv := fun ρ S => (f ρ S).bind fun p => (fo ρ p.2).bind fun t => (fj ρ t.2).bind fun q => match t.1, q.1 with
  | .obj k, .int j => match q.2[k]? with
    | some (.lst xs) => (ixN xs.length j).bind fun n => some (.nx ρ (q.2.set k (.lst (xs.set n p.1))))
    | _ => none
  | _, _ => none
theorem ms_ixC {tpos : Pos} {fo : Ev} (ho : PE X a (tOf (kw X) fo)) (hj : PE X b (tOf (kw X) fb)) (he : PE X e (tOf (kw X) f))
    (ha : ∀ v, assign (.Subscript a b tpos) X.env v = (do
      let ov ← holding [v] (eval a X.env)
      let iv ← holding [v, ov] (eval b X.env)
      standAt tpos
      holding [v, ov, iv] (setItem ov iv v)
      release [v, ov, iv] []) := by intro _; rfl)
    (hs : swapsWithSole [.Subscript a b tpos] e pos.line X.env = pure false := by rfl) (hw : swappedStores [.Subscript a b tpos] e X.env = pure none := by rfl)
    (h1 : (assignEach [.Subscript a b tpos] X.env).map (·.2) = [assign (.Subscript a b tpos) X.env] := by rfl) :
    PS X (.Assign [.Subscript a b tpos] e pos) (tOfS fr (kw X) (sIxC fo f fb)) :=
  (ps_asg he (pg_sub ho hj set_list ha) hs hw h1).weak fun D σ H q => by
    obtain ⟨as, O, B, G, ρ, S, o, R, hf, k⟩ := q
    unfold sIxC at hf
    obtain ⟨⟨d1, S1⟩, h1, hf⟩ := Option.bind_eq_some_iff.mp hf
    obtain ⟨⟨d0, S0⟩, h0, hf⟩ := Option.bind_eq_some_iff.mp hf
    obtain ⟨⟨d2, S2⟩, h2, hf⟩ := Option.bind_eq_some_iff.mp hf
    split at hf
    · rename_i kx j hk hj
      have hk : d0 = .obj kx := hk
      have hj : d2 = .int j := hj
      subst hk hj
      split at hf
      · rename_i xs hx
        obtain ⟨n, hn, hf⟩ := Option.bind_eq_some_iff.mp hf
        cases hf
        refine ⟨as, _, ρ, S, d1, S1, R.e, h1, fun v H1 s1 c1 r1 => ?_⟩
        have R1 := R.step s1 c1
        refine ⟨as, _, ρ, S1, .obj kx, S0, R1.e, h0, fun v0 H3 s3 c3 r3 => ?_⟩
        have R3 := R1.step s3 c3
        refine ⟨as, _, ρ, S0, .int j, S2, R3.e, h2, fun w H2 s2 c2 r2 => ?_⟩
        have R2 := R3.step s2 c2
        cases r2
        cases r3 with
        | @obj p _ hp =>
          have hx : S2[kx]? = some (.lst xs) := hx
          cases c2.ix _ _ _ hp hx with
          | @lst ws _ hq t =>
            have r1' := (r1.stp R1.wf s3).stp R3.wf s2
            have kk : Kp (OO O ρ σ) H2 (upd H2 p (.lst (List.set ws n v))) := fun b u nn e => by
              rw [upd_ne (fun z => nn (by rw [z]; exact .inl (R.sub _ (List.mem_of_getElem? hp))))]
              exact e
            refine ⟨_, _, j, n, rfl, rfl, hq, by rw [Rp.length t]; exact hn, ?_⟩
            exact k _ _ (R2.mutCell (o := .lst (List.set ws n v)) hx hp trivial (.lst upd_same (RpL.kp R2.wf.nt kk _ _ (RpL.set r1' n t))))
      · cases hf
    · cases hf
def sFrz (i : Nat) (g : Sv) : Sv := fun ρ S => match ρ[i]? with
  | some (.own d) => g (ρ.set i (.val d)) S
  | _ => none
theorem mss_frz (i : Nat) (h : PSs X sts (tOfS fr (kw X) g1)) : PSs X sts (tOfS fr (kw X) (sFrz i g1)) := h.weak fun D σ H q => by
  obtain ⟨as, O, B, G, ρ, S, o, R, hf, k⟩ := q
  unfold sFrz at hf
  split at hf
  · rename_i d hd
    exact ⟨as, O, B, G, _, S, o, R.freeze hd, hf, k⟩
  · cases hf
def sExp (f : Ev) : Sv := fun ρ S => (f ρ S).bind fun p => some (.nx ρ p.2)
theorem ms_exp (he : PE X e (tOf (kw X) f)) (hsw : swapsWith e none pos.line X.env = pure false := by rfl) : PS X (.Expr e pos) (tOfS fr (kw X) (sExp f)) := (ps_expr he hsw).weak fun D σ H q => by
  obtain ⟨as, O, B, G, ρ, S, o, R, hf, k⟩ := q
  unfold sExp at hf
  obtain ⟨⟨d1, S1⟩, h1, hf⟩ := Option.bind_eq_some_iff.mp hf
  cases hf
  exact ⟨as, _, ρ, S, d1, S1, R.e, h1, fun v H1 s1 c1 r1 => k _ _ (R.step s1 c1)⟩
end
end DL
namespace DL
open PySem PySem.Spec PyProof.Rows L2
structure KC (K : PySem.W.Frag) (mgf : Str → Option Value) (x : Str) (d : D) where
  v : V
  u : Value
  mg : mgf x = some u
  rv : RelV v u
  kd : KD K v d
section
variable {P : Program} {w : World} {K : PySem.W.Frag} {mg : Str → Option Value} {base : Heap}
theorem fnM_none {k : Nat} {x : Str} {f : Addr} {fd : FuncData} {ps : List Str} {fr : Bool} (hg : mg x = some (.ref f)) (kp : PySem.W.keepIn K (.ref f) = true) (bd : Binds K fd ps []) : FnM P w K mg base k x f fd ps fr (fun _ _ => none) :=
  ⟨⟨fun _ _ _ _ h => h.1, fun _ _ _ _ _ _ _ _ _ _ _ _ _ h => by
    obtain ⟨_, _, _, _, _, _, _, _, _, _, h, _⟩ := h
    cases h⟩, hg, kp, bd⟩
theorem FnM.mono {k j : Nat} {x : Str} {f : Addr} {fd : FuncData} {ps : List Str} {fr : Bool} {m : List D → List D → Option (D × List D)} (F : FnM P w K mg base j x f fd ps fr m) (h : j ≤ k) : FnM P w K mg base k x f fd ps fr m := ⟨F.ok.mono h, F.mg, F.kp, F.bd⟩
end
theorem hu65 {A : Around} {k : Nat} (hr : Room k A) : A.units + 65 < cLine := by have := hr.un; omega
theorem hu64 {A : Around} {k : Nat} (hr : Room k A) : A.units + 64 < cLine := hr.units
section
variable {X : Cx} {pos pos' : Pos} {e : Expr} {f : Ev} {g1 : Sv} {sts : List Stmt} {i : Nat} {x : Str}
def sCell (i : Nat) (f : Ev) (g : Sv) : Sv := fun ρ S => match S with
  | [] => if i < ρ.length then (f ρ []).bind fun p => match p.2 with
    | [] => (g (ρ.set i (.val (.obj 0))) [p.1]).bind fun o => match o with
      | .rt (.bl b) _ => some (.rt (.bl b) [])
      | _ => none
    | _ => none
    else none
  | _ => none
theorem mss_cell (hN : X.N.Nodup) (hi : X.N[i]? = some x) (hx : Loc X.env.scope x) (he : PE X e (tOfF (kw X) f)) (hr : PSs X sts (tOfS false (kw X) g1)) (hs : swapsWith e (some (.Name x pos')) pos.line X.env = pure false := by rfl) (hf : X.fn x = true ∨ X.env.scope.names.lookup x = some .local := by first | exact .inl rfl | exact .inr rfl | assumption) :
    PSs X (.Assign [.Name x pos'] e pos :: sts) (tOfS false (kw X) (sCell i f g1)) := (pss_cons (ps_set hN hi hx he hs hf) hr).weak fun D σ H q => by
  obtain ⟨as, O, B, G, ρ, S, o, R, hf, k⟩ := q
  have las := R.cells.len
  unfold sCell at hf
  split at hf
  case h_2 => cases hf
  case h_1 =>
  split at hf
  case isFalse => cases hf
  case isTrue hi' =>
  obtain ⟨⟨d1, S1⟩, h1, hf⟩ := Option.bind_eq_some_iff.mp hf
  split at hf
  case h_2 => cases hf
  case h_1 hS1 =>
  have hS1 : S1 = [] := hS1
  subst hS1
  obtain ⟨o1, h2, hf⟩ := Option.bind_eq_some_iff.mp hf
  split at hf
  case h_2 => cases hf
  case h_1 b S2 =>
  cases hf
  have eas : as = [] := List.length_eq_zero_iff.mp las
  subst eas
  refine ⟨[], _, ρ, [], d1, [], R.e, h1, fun p H1 n s1 c1 q1 => ?_⟩
  show tOfS false (kw X) g1 D (σ.set i (some (.ref p))) H1
  have R1 := R.setOwn (d := d1) i hi' n s1 c1 q1
  refine ⟨[p], ad O p, fun a => B a ∨ a = p, fun a u => G a u ∧ a ≠ p, ρ.set i (.val (.obj 0)), [d1], .rt (.bl b) S2, ?_, h2, ?_⟩
  · have hl : i < σ.length := by rw [R.len]; exact hi'
    have nB : ¬ B p := fun z => R.bt p z n
    have hp1 : Mut (H1 p) := q1.mt
    have sb : ∀ a, OO (ad O p) (ρ.set i (.val (.obj 0))) (σ.set i (some (.ref p))) a → OO O (ρ.set i (.own d1)) (σ.set i (some (.ref p))) a := fun a h => by
      have ownp : OO O (ρ.set i (.own d1)) (σ.set i (some (.ref p))) p := .inr ⟨i, d1, List.getElem?_set_self hi', List.getElem?_set_self hl⟩
      rcases h with h | ⟨j, e, h3, h4⟩
      · rcases h with h | h
        · exact .inl h
        · rw [h]; exact ownp
      · rcases get_set h3 with ⟨rfl, z⟩ | ⟨ne, z⟩
        · cases z
        · exact .inr ⟨j, e, (List.getElem?_set_ne (Ne.symm ne)).trans z, h4⟩
    have an : ∀ {v : V} {d : DL.D}, Rp (kw X) [] (OO O (ρ.set i (.own d1)) (σ.set i (some (.ref p)))) H1 v d → Rp (kw X) [p] (OO (ad O p) (ρ.set i (.val (.obj 0))) (σ.set i (some (.ref p)))) H1 v d := fun {v d} r => (rpAs (as := []) (bs := [p]) (fun i a h => by cases i <;> cases h)).1 v d (Rp.anti sb _ _ r)
    have anL : ∀ {v : List V} {d : List DL.D}, RpL (kw X) [] (OO O (ρ.set i (.own d1)) (σ.set i (some (.ref p)))) H1 v d → RpL (kw X) [p] (OO (ad O p) (ρ.set i (.val (.obj 0))) (σ.set i (some (.ref p)))) H1 v d := fun {v d} r => (rpAs (as := []) (bs := [p]) (fun i a h => by cases i <;> cases h)).2 v d (RpL.anti sb _ _ r)
    have anC : ∀ {a : Addr} {d : DL.D}, CellR (kw X) [] (OO O (ρ.set i (.own d1)) (σ.set i (some (.ref p)))) H1 a d → CellR (kw X) [p] (OO (ad O p) (ρ.set i (.val (.obj 0))) (σ.set i (some (.ref p)))) H1 a d := fun c => by
      cases c with
      | lst h r => exact .lst h (anL r)
      | dct h r t9 e9 k9 => exact .dct h (anL r) (anL t9) e9 k9
    refine ⟨fun a m => .inr (by simpa using m), fun a h => h.elim (fun z => .inl (R.ob a z)) .inr, fun a h => ?_, fun a h => ?_, by simp, fun a u h => R1.g a u h.1, fun a u h m => h.2 (by simpa using m), ⟨rfl, fun j a d e1 e2 => ?_⟩, by simp [R.len], fun j d h => ?_, fun j d h => ?_, fun j k' d e a ne h3 h4 h5 => ?_⟩
    · rcases h with h | h
      · exact R1.bt a h
      · rw [h]; intro z; rw [z] at hp1; exact hp1
    · rcases h with h | h
      · exact R1.mt a h
      · rw [h]; exact hp1
    · cases j with
      | zero =>
        cases e1
        cases e2
        obtain ⟨a', ha', _, _, cc⟩ := R1.own i d1 (List.getElem?_set_self hi')
        rw [List.getElem?_set_self hl] at ha'
        cases ha'
        exact anC cc
      | succ j => cases e1
    · rcases get_set h with ⟨rfl, z⟩ | ⟨ne, z⟩
      · cases z
        exact ⟨.ref p, List.getElem?_set_self hl, .obj rfl⟩
      · obtain ⟨v, h3, r⟩ := R1.val j d ((List.getElem?_set_ne (Ne.symm ne)).trans z)
        exact ⟨v, h3, an r⟩
    · rcases get_set h with ⟨rfl, z⟩ | ⟨ne, z⟩
      · cases z
      · obtain ⟨a, h3, nb, ng, cc⟩ := R1.own j d ((List.getElem?_set_ne (Ne.symm ne)).trans z)
        refine ⟨a, h3, fun z => ?_, fun u z => ng u z.1, anC cc⟩
        rcases z with z | z
        · exact nb z
        · subst z
          exact R1.dist i j d1 d a (Ne.symm ne) (List.getElem?_set_self hi') ((List.getElem?_set_ne (Ne.symm ne)).trans ‹_›) (List.getElem?_set_self hl) h3
    · rcases get_set h3 with ⟨rfl, z⟩ | ⟨ne1, z1⟩
      · cases z
      · rcases get_set h4 with ⟨rfl, z⟩ | ⟨ne2, z2⟩
        · cases z
        · exact R1.dist j k' d e a ne ((List.getElem?_set_ne (Ne.symm ne1)).trans z1) ((List.getElem?_set_ne (Ne.symm ne2)).trans z2) h5
  · intro v H2 g r
    obtain ⟨c2, r2, _⟩ := r
    cases r2
    refine k _ H2 (fun a u z => g a u ⟨z, fun e => ?_⟩) ⟨⟨rfl, fun i a d e1 e2 => by cases e2⟩, .bl b, fun z => (nomatch z)⟩
    subst e
    have := R.g a u z
    rw [n] at this
    cases this
end
def natAt (i : Nat) (ρ : List Slot) : Nat := match ρ[i]? with
  | some (.val (.int k)) => k.natAbs
  | _ => 0
theorem law_end {K : KW} {H : Hp} {a : Addr} {ns : List Int} {m : List D → List D → Option (D × List D)} (hS : SqL K H a (ns.map V.int)) (h : m [.scr ns] [] = some (.bl true, [])) :
    spM false K 1 m [.ref a] H (fun v _ => v = .bl true) fun _ _ _ => False := by
  refine ⟨rfl, [], fun _ => False, [.scr ns], [], .bl true, [], ⟨fun _ h => (nomatch h), fun _ h => h.elim, List.nodup_nil⟩, ⟨rfl, fun i a d e1 e2 => by cases e2⟩, .cons (.scr ?_) .nil, h, fun v H' _ _ r _ => by cases r; rfl⟩
  rcases hS with hS | ⟨o, its, n, h1, h2⟩
  · exact .inl ⟨fun h => h, hS⟩
  · exact .inr fun H' => .inr ⟨o, its, n, h1, h2⟩
end DL
namespace DL
open PySem PySem.Spec PyProof.Rows L2
section
variable (ρ : List Slot) (S : List D) (i j n : Nat) (d : D) (f fa fb fz : Ev) (fs : Ea) (c c2 : Et) (g g2 : Sv) (p : Pat) (it : Ea) (vs : List Nat)
theorem ev_C : eC d ρ S = some (d, S) := (rfl)
theorem ev_V : eV i ρ S = (match ρ[i]? with | some (.val d) => some (d, S) | _ => none) := (rfl)
theorem ev_B : eB i ρ S = (match ρ[i]? with | some (.val d) => some (d, S) | some (.own d) => some (d, S) | _ => none) := (rfl)
theorem ev_aN : aN ρ S = some ([], S) := (rfl)
theorem ev_aC : aC f fs ρ S = (f ρ S).bind fun p => (fs ρ p.2).bind fun q => some (p.1 :: q.1, q.2) := (rfl)
theorem ev_Tup : eTup fs ρ S = (fs ρ S).bind fun p => if p.1.length ≤ 16777216 then some (.tup p.1, p.2) else none := (rfl)
theorem ev_Lst : eLst fs ρ S = (fs ρ S).bind fun p => if p.1.length ≤ 16777216 then some (.lst p.1, p.2) else none := (rfl)
theorem ev_Bin (h : D → D → Option D) : eBin h fa fb ρ S = (fa ρ S).bind fun p => (fb ρ p.2).bind fun q => (h p.1 q.1).bind fun r => some (r, q.2) := (rfl)
theorem ev_Un (h : D → Option D) : eUn h fa ρ S = (fa ρ S).bind fun p => (h p.1).bind fun r => some (r, p.2) := (rfl)
theorem ev_UnF (h : D → Option (List D)) : eUnF h fa ρ S = (fa ρ S).bind fun p => (h p.1).bind fun r => some (.lst r, p.2) := (rfl)
theorem ev_cV : cV f ρ S = (f ρ S).bind fun p => match p.1 with | .bl b => some (b, p.2) | _ => none := (rfl)
theorem ev_cAnd : cAnd c c2 ρ S = (c ρ S).bind fun p => if p.1 = true then c2 ρ p.2 else some (false, p.2) := (rfl)
theorem ev_cOr : cOr c c2 ρ S = (c ρ S).bind fun p => if p.1 = true then some (true, p.2) else c2 ρ p.2 := (rfl)
theorem ev_cNot : cNot c ρ S = (c ρ S).bind fun p => some (!p.1, p.2) := (rfl)
theorem ev_cYes : cYes ρ S = some (true, S) := (rfl)
theorem ev_And : eAnd fa fb ρ S = (fa ρ S).bind fun p => match p.1 with | .bl true => fb ρ p.2 | .bl false => some (.bl false, p.2) | _ => none := (rfl)
theorem ev_Or : eOr fa fb ρ S = (fa ρ S).bind fun p => match p.1 with | .bl true => some (.bl true, p.2) | .bl false => fb ρ p.2 | _ => none := (rfl)
theorem ev_Not : eNot fa ρ S = (fa ρ S).bind fun p => match p.1 with | .bl b => some (.bl (!b), p.2) | _ => none := (rfl)
theorem ev_If : eIf c fa fb ρ S = (c ρ S).bind fun p => if p.1 = true then fa ρ p.2 else fb ρ p.2 := (rfl)
theorem ev_Chain (h h2 : D → D → Option D) : eChain h h2 fa fb fz ρ S = (fa ρ S).bind fun p => (fb ρ p.2).bind fun q => (h p.1 q.1).bind fun r => match r with
  | .bl true => (fz ρ q.2).bind fun t => (h2 q.1 t.1).bind fun u => some (u, t.2)
  | .bl false => some (.bl false, q.2)
  | _ => none := (rfl)
theorem ev_Call (m : List D → List D → Option (D × List D)) : eCall n m fs ρ S = (fs ρ S).bind fun q => if q.1.length = n then m q.1 q.2 else none := (rfl)
theorem ev_Ix : eIx fa fb ρ S = (fa ρ S).bind fun p => (fb ρ p.2).bind fun q => (ixD q.2 p.1 q.1).bind fun r => some (r, q.2) := (rfl)
theorem ev_Sl (lo hi : Eo) : eSl fa lo hi ρ S = (fa ρ S).bind fun p => (lo ρ p.2).bind fun q => (hi ρ q.2).bind fun t => (slD q.1 t.1 p.1).bind fun r => some (r, t.2) := (rfl)
theorem ev_oN : oN ρ S = some (none, S) := (rfl)
theorem ev_oE : oE f ρ S = (f ρ S).bind fun p => match p.1 with | .int i => some (some i, p.2) | _ => none := (rfl)
theorem ev_aS : aS f fs ρ S = (f ρ S).bind fun p => (match p.1 with | .lst xs => some xs | .tup xs => some xs | _ => none).bind fun xs => (fs ρ p.2).bind fun q => some (xs ++ q.1, q.2) := (rfl)
theorem ev_Comp : eComp p it c f vs ρ S = (it ρ S).bind fun q => if q.1.length ≤ 16777216 then (compL p c f (wipeD ρ vs) q.1 q.2).bind fun t => some (.lst t.1, t.2) else none := (rfl)
theorem ev_iAny : iAny f ρ S = (f ρ S).bind fun q => (seqOf q.1).bind fun xs => some (xs, q.2) := (rfl)
theorem ev_iRange1 : iRange1 fs ρ S = (fs ρ S).bind fun q => match q.1 with | [.int j] => if inWord j = true then some (rangeD 0 j, q.2) else none | _ => none := (rfl)
theorem ev_iRange2 : iRange2 fs ρ S = (fs ρ S).bind fun q => match q.1 with | [.int i, .int j] => if (inWord i && inWord j) = true then some (rangeD i j, q.2) else none | _ => none := (rfl)
theorem ev_iZip : iZip fs ρ S = (fs ρ S).bind fun q => match q.1 with | [d1, d2] => (seqOf d1).bind fun xs => (seqOf d2).bind fun ys => some (zipD xs ys, q.2) | _ => none := (rfl)
theorem ev_iEnum : iEnum fs ρ S = (fs ρ S).bind fun q => match q.1 with | [d1] => (seqOf d1).bind fun xs => some (enumD 0 xs, q.2) | _ => none := (rfl)
theorem ev_sNil : sNil ρ S = some (.nx ρ S) := (rfl)
theorem ev_sSeq : sSeq g g2 ρ S = (g ρ S).bind fun o => match o with | .nx ρ' S' => g2 ρ' S' | o => some o := (rfl)
theorem ev_sIf : sIf c g g2 ρ S = (c ρ S).bind fun p => if p.1 = true then g ρ p.2 else g2 ρ p.2 := (rfl)
theorem ev_sRet : sRet f ρ S = (f ρ S).bind fun p => some (.rt p.1 p.2) := (rfl)
theorem ev_sRetO : sRetO i ρ S = (match ρ[i]? with | some (.own d) => some (.rt d S) | _ => none) := (rfl)
theorem ev_sRetN : sRetN ρ S = some (.rt .non S) := (rfl)
theorem ev_sAsg : sAsg p f ρ S = (f ρ S).bind fun q => (binds p q.1).bind fun l => some (.nx (putD ρ l) q.2) := (rfl)
theorem ev_sSet : sSet i f ρ S = (f ρ S).bind fun q => some (.nx (ρ.set i (.val q.1)) q.2) := (rfl)
theorem ev_sSetO : sSetO i f ρ S = (f ρ S).bind fun q => if i < ρ.length then some (.nx (ρ.set i (.own q.1)) q.2) else none := (rfl)
theorem ev_sPar : sPar i j fa fb ρ S = (fa ρ S).bind fun p => (fb ρ p.2).bind fun q => some (.nx ((ρ.set i (.val p.1)).set j (.val q.1)) q.2) := (rfl)
theorem ev_sFor : sFor p it g ρ S = (it ρ S).bind fun q => forL p g q.1 ρ q.2 := (rfl)
theorem ev_sWhile (nf : List Slot → Nat) : sWhile nf c g ρ S = whileN c g (nf ρ) ρ S := (rfl)
theorem ev_sApp : sApp i f ρ S = (f ρ S).bind fun p => match ρ[i]? with | some (.own (.lst xs)) => if xs.length < 16777216 then some (.nx (ρ.set i (.own (.lst (xs ++ [p.1])))) p.2) else none | _ => none := (rfl)
theorem ev_sIxO (fj : Ev) : sIxO i f fj ρ S = (f ρ S).bind fun p => (fj ρ p.2).bind fun q => match ρ[i]?, q.1 with | some (.own (.lst xs)), .int j => (ixN xs.length j).bind fun n => some (.nx (ρ.set i (.own (.lst (xs.set n p.1)))) q.2) | _, _ => none := (rfl)
theorem ev_sIxC (fo fj : Ev) : sIxC fo f fj ρ S = (f ρ S).bind fun p => (fo ρ p.2).bind fun t => (fj ρ t.2).bind fun q => match t.1, q.1 with
  | .obj k, .int j => match q.2[k]? with
    | some (.lst xs) => (ixN xs.length j).bind fun n => some (.nx ρ (q.2.set k (.lst (xs.set n p.1))))
    | _ => none
  | _, _ => none := (rfl)
theorem ev_sFrz : sFrz i g ρ S = (match ρ[i]? with | some (.own d) => g (ρ.set i (.val d)) S | _ => none) := (rfl)
theorem ev_sExp : sExp f ρ S = (f ρ S).bind fun p => some (.nx ρ p.2) := (rfl)
theorem ev_sPass : sPass ρ S = some (.nx ρ S) := (rfl)
theorem ev_runB (fr : Bool) (N : Nat) (ds : List D) : runB fr N g ds S = (g (ds.map .val ++ List.replicate (N - ds.length) .non) S).bind fun o => match o with
  | .rt d S' => some (d, S')
  | .nx _ S' => if fr = true then none else some (.non, S')
  | _ => none := (rfl)
theorem ev_while (fb' : Sv) : whileN c fb' (n + 1) ρ S = (c ρ S).bind fun q => if q.1 = true then (fb' ρ q.2).bind fun o => match o with
    | .nx ρ' S' => whileN c fb' n ρ' S'
    | .ct ρ' S' => whileN c fb' n ρ' S'
    | .bk ρ' S' => some (.nx ρ' S')
    | .rt d S' => some (.rt d S')
    else some (.nx ρ q.2) := (rfl)
theorem ev_forN : forL p g [] ρ S = some (.nx ρ S) := (rfl)
theorem ev_forC (x : D) (xs : List D) : forL p g (x :: xs) ρ S = (binds p x).bind fun l => (g (putD ρ l) S).bind fun o => match o with
    | .nx ρ' S' => forL p g xs ρ' S'
    | .ct ρ' S' => forL p g xs ρ' S'
    | .bk ρ' S' => some (.nx ρ' S')
    | .rt d S' => some (.rt d S') := (rfl)
theorem ev_compN : compL p c f ρ [] S = some ([], S) := (rfl)
theorem ev_compC (x : D) (xs : List D) : compL p c f ρ (x :: xs) S = (binds p x).bind fun l => (c (putD ρ l) S).bind fun q => if q.1 = true then (f (putD ρ l) q.2).bind fun r => (compL p c f ρ xs r.2).bind fun t => some (r.1 :: t.1, t.2)
    else compL p c f ρ xs q.2 := (rfl)
theorem ev_put0 : putD ρ [] = ρ := (rfl)
theorem ev_put1 (l : List (Nat × D)) : putD ρ ((i, d) :: l) = putD (ρ.set i (.val d)) l := (rfl)
theorem ev_wipe0 : wipeD ρ [] = ρ := (rfl)
theorem ev_wipe1 : wipeD ρ (n :: vs) = (wipeD ρ vs).set n .non := (rfl)
theorem ev_nat (ρ : List Slot) (i : Nat) : natAt i ρ = (match ρ[i]? with | some (.val (.int k)) => k.natAbs | _ => 0) := (rfl)
theorem ev_bnm : binds (.nm i) d = some [(i, d)] := by unfold binds; rfl
theorem ev_btup (ps : List Pat) (ds : List D) : binds (.tup ps) (.tup ds) = bindsL ps ds := by simp only [binds]
theorem ev_bL0 : bindsL [] [] = some [] := by unfold bindsL; rfl
theorem ev_bL1 (ps : List Pat) (ds : List D) : bindsL (p :: ps) (d :: ds) = (binds p d).bind fun a => (bindsL ps ds).bind fun b => some (a ++ b) := by simp only [bindsL]
end
section
variable (a b : Int) (S : List D) (xs ys : List D) (k : Nat)
theorem dv_add : dAdd (.int a) (.int b) = some (.int (a + b)) := (rfl)
theorem dv_sub : dSub (.int a) (.int b) = some (.int (a - b)) := (rfl)
theorem dv_neg : dNeg (.int a) = some (.int (-a)) := (rfl)
theorem dv_mul (h : (small a || small b || (wide a && wide b)) = true) : dMul (.int a) (.int b) = some (.int (a * b)) := by
  show (if (small a || small b || (wide a && wide b)) = true then some (D.int (a * b)) else none) = _
  rw [if_pos h]
theorem dv_mod (h : 0 < b) : dMod (.int a) (.int b) = some (.int (a % b)) := by
  show (if b = 0 then none else some (D.int (a.fmod b))) = _
  rw [if_neg (by omega), Int.fmod_eq_emod_of_nonneg _ (by omega)]
theorem dv_div (h : 0 < b) (w : wide b = true) : dDiv (.int a) (.int b) = some (.int (a / b)) := by
  show (if (decide (0 < b) && wide b) = true then some (D.int (a / b)) else _) = _
  rw [if_pos (by rw [w, Bool.and_true]; exact decide_eq_true h)]
theorem dv_lt : dLt (.int a) (.int b) = some (.bl (decide (a < b))) := (rfl)
theorem dv_le : dLe (.int a) (.int b) = some (.bl (decide (a ≤ b))) := (rfl)
theorem dv_gt : dGt (.int a) (.int b) = some (.bl (decide (b < a))) := (rfl)
theorem dv_ge : dGe (.int a) (.int b) = some (.bl (decide (b ≤ a))) := (rfl)
theorem dv_int : dInt (.int a) = some (.int a) := (rfl)
theorem dv_abs : dAbs (.int a) = some (.int (a.natAbs : Int)) := by unfold dAbs; simp only [Option.some.injEq, D.int.injEq]; split <;> omega
theorem dv_lenL : dLen (.lst xs) = some (.int xs.length) := (rfl)
theorem dv_lenT : dLen (.tup xs) = some (.int xs.length) := (rfl)
theorem dv_tupL : dTup (.lst xs) = some (.tup xs) := (rfl)
theorem dv_tupT : dTup (.tup xs) = some (.tup xs) := (rfl)
theorem dv_lofL : lOf (.lst xs) = some xs := (rfl)
theorem dv_lofT : lOf (.tup xs) = some xs := (rfl)
theorem dv_lofS (ns : List Int) : lOf (.scr ns) = some (ns.map .int) := (rfl)
theorem dv_seqL : seqOf (.lst xs) = some xs := (rfl)
theorem dv_seqT : seqOf (.tup xs) = some xs := (rfl)
theorem dv_ixL : ixD S (.lst xs) (.int a) = atI xs a := (rfl)
theorem dv_ixT : ixD S (.tup xs) (.int a) = atI xs a := (rfl)
theorem dv_ixO : ixD S (.obj k) (.int a) = (match S[k]? with | some (.lst xs) => atI xs a | _ => none) := (rfl)
theorem atI_nat {α : Type} (ys : List α) (n : Nat) : atI ys (n : Int) = ys[n]? := by
  unfold atI ixN
  rw [if_pos (by omega)]
  by_cases h : n < ys.length
  · rw [if_pos (by omega)]; rfl
  · rw [if_neg (by omega), List.getElem?_eq_none (by omega)]; rfl
theorem atI_0 {α : Type} (ys : List α) : atI ys 0 = ys[0]? := atI_nat ys 0
theorem atI_1 {α : Type} (ys : List α) : atI ys 1 = ys[1]? := atI_nat ys 1
theorem atI_2 {α : Type} (ys : List α) : atI ys 2 = ys[2]? := atI_nat ys 2
end
end DL
namespace DL
open PySem PySem.Spec PyProof.Rows L2
theorem forL_inv0 {p : Pat} {g : Sv} (P : List D → List Slot → List D → Prop) (N : Nat) : ∀ (xs pre : List D) (ρ : List Slot) (S : List D), pre.length + xs.length ≤ N → P pre ρ S →
    (∀ pre x ρ S, x ∈ xs → pre.length < N → P pre ρ S → ∃ l ρ' S', binds p x = some l ∧ g (putD ρ l) S = some (.nx ρ' S') ∧ P (pre ++ [x]) ρ' S') →
    ∃ ρ' S', forL p g xs ρ S = some (.nx ρ' S') ∧ P (pre ++ xs) ρ' S'
  | [], pre, ρ, S, _, h, _ => ⟨ρ, S, rfl, by rw [List.append_nil]; exact h⟩
  | x :: xs, pre, ρ, S, hN, h, step => by
    simp only [List.length_cons] at hN
    obtain ⟨l, ρ1, S1, h1, h2, h3⟩ := step pre x ρ S List.mem_cons_self (by omega) h
    obtain ⟨ρ2, S2, h4, h5⟩ := forL_inv0 P N xs (pre ++ [x]) ρ1 S1 (by simp only [List.length_append, List.length_cons, List.length_nil]; omega) h3 (fun pre y ρ S m => step pre y ρ S (List.mem_cons_of_mem _ m))
    refine ⟨ρ2, S2, ?_, by rw [← List.append_cons] at h5; exact h5⟩
    rw [ev_forC, h1, Option.bind_some, h2, Option.bind_some]
    exact h4
theorem forL_inv {p : Pat} {g : Sv} (P : List D → List Slot → List D → Prop) (xs : List D) (ρ : List Slot) (S : List D) (h : P [] ρ S)
    (step : ∀ pre x ρ S, x ∈ xs → pre.length < xs.length → P pre ρ S → ∃ l ρ' S', binds p x = some l ∧ g (putD ρ l) S = some (.nx ρ' S') ∧ P (pre ++ [x]) ρ' S') :
    ∃ ρ' S', forL p g xs ρ S = some (.nx ρ' S') ∧ P xs ρ' S' := by
  have := forL_inv0 P xs.length xs [] ρ S (by simp) h step
  simpa using this
theorem forL_all {p : Pat} {g : Sv} (P : List Slot → List D → Prop) (xs : List D) (ρ : List Slot) (S : List D) (h : P ρ S)
    (step : ∀ x ρ S, x ∈ xs → P ρ S → ∃ l ρ' S', binds p x = some l ∧ (g (putD ρ l) S = some (.nx ρ' S') ∨ g (putD ρ l) S = some (.ct ρ' S')) ∧ P ρ' S') :
    ∃ ρ' S', forL p g xs ρ S = some (.nx ρ' S') ∧ P ρ' S' := by
  induction xs generalizing ρ S with
  | nil => exact ⟨ρ, S, rfl, h⟩
  | cons x xs ih =>
    obtain ⟨l, ρ1, S1, h1, h2, h3⟩ := step x ρ S List.mem_cons_self h
    obtain ⟨ρ2, S2, h4, h5⟩ := ih ρ1 S1 h3 (fun y ρ S m => step y ρ S (List.mem_cons_of_mem _ m))
    refine ⟨ρ2, S2, ?_, h5⟩
    rcases h2 with h2 | h2 <;> (rw [ev_forC, h1, Option.bind_some, h2, Option.bind_some]; exact h4)
theorem forL_fold {α β : Type} {p : Pat} {g : Sv} (e : β → D) (G : α → List Slot) (F : α → β → α) (S : List D) (ok : α → Prop)
    (step : ∀ a x, ok a → ∃ l, binds p (e x) = some l ∧ g (putD (G a) l) S = some (.nx (G (F a x)) S) ∧ ok (F a x)) : ∀ (xs : List β) (a : α), ok a → forL p g (xs.map e) (G a) S = some (.nx (G (xs.foldl F a)) S) ∧ ok (xs.foldl F a)
  | [], a, h => ⟨rfl, h⟩
  | x :: xs, a, h => by
    obtain ⟨l, h1, h2, h3⟩ := step a x h
    rw [List.map_cons, ev_forC, h1, Option.bind_some, h2, Option.bind_some]
    exact forL_fold e G F S ok step xs (F a x) h3
theorem compL_map {β : Type} {p : Pat} {f : Ev} {ρ : List Slot} {S : List D} (e h : β → D) : ∀ (xs : List β), (∀ x ∈ xs, ∃ l, binds p (e x) = some l ∧ f (putD ρ l) S = some (h x, S)) → compL p cYes f ρ (xs.map e) S = some (xs.map h, S)
  | [], _ => rfl
  | x :: xs, H => by
    obtain ⟨l, h1, h2⟩ := H x List.mem_cons_self
    rw [List.map_cons, ev_compC, h1, Option.bind_some, ev_cYes, Option.bind_some]
    simp only [if_true]
    rw [h2, Option.bind_some, compL_map e h xs (fun y m => H y (List.mem_cons_of_mem _ m)), Option.bind_some]
    rfl
theorem compL_filter {β : Type} {p : Pat} {c : Et} {f : Ev} {ρ : List Slot} {S : List D} (e h : β → D) (t : β → Bool) : ∀ (xs : List β), (∀ x ∈ xs, ∃ l, binds p (e x) = some l ∧ c (putD ρ l) S = some (t x, S) ∧ (t x = true → f (putD ρ l) S = some (h x, S))) → compL p c f ρ (xs.map e) S = some ((xs.filter t).map h, S)
  | [], _ => rfl
  | x :: xs, H => by
    obtain ⟨l, h1, h2, h3⟩ := H x List.mem_cons_self
    have ih := compL_filter e h t xs (fun y m => H y (List.mem_cons_of_mem _ m))
    rw [List.map_cons, ev_compC, h1, Option.bind_some, h2, Option.bind_some]
    cases ht : t x with
    | true =>
      simp only [if_true]
      rw [h3 ht, Option.bind_some, ih, Option.bind_some, List.filter_cons_of_pos ht]
      rfl
    | false =>
      simp only [Bool.false_eq_true, if_false]
      rw [ih, List.filter_cons_of_neg (by rw [ht]; decide)]
theorem rangeD_eq (n : Nat) : rangeD 0 (n : Int) = (List.range n).map fun (k : Nat) => D.int (k : Int) := by
  unfold rangeD
  rw [Int.sub_zero, Int.toNat_natCast]
  simp only [Int.zero_add]
theorem pick_of {xs : List D} {k : Int} (h0 : 0 ≤ k) (h1 : k < (xs.length : Int)) : ∃ d, d ∈ xs ∧ atI xs k = some d := by
  obtain ⟨n, rfl⟩ : ∃ n : Nat, k = n := ⟨k.toNat, by omega⟩
  rw [atI_nat]
  have : n < xs.length := by omega
  exact ⟨xs[n], List.getElem_mem _, List.getElem?_eq_getElem this⟩
mutual
theorem eqD_refl : ∀ d : D, okD 1000 d = true → eqD d d = true
  | .non, _ => rfl
  | .bl b, _ => by simp [eqD]
  | .int i, _ => by simp [eqD]
  | .str x, _ => by simp [eqD]
  | .tup xs, h => by
    simp only [eqD]
    exact eqL_refl xs (okL_mono 999 1000 (by decide) xs (by simpa [okD] using h))
  | .lst xs, h => by
    simp only [eqD]
    exact eqL_refl xs (okL_mono 999 1000 (by decide) xs (by simpa [okD] using h))
  | .obj _, h => by simp [okD] at h
  | .dct _, h => by simp [okD] at h
  | .scr _, h => by simp [okD] at h
theorem eqL_refl : ∀ d : List D, okL 1000 d = true → eqL d d = true
  | [], _ => rfl
  | x :: xs, h => by
    have a : okD 1000 x = true ∧ okL 1000 xs = true := by simpa [okL] using h
    simp only [eqL]
    rw [eqD_refl x a.1, eqL_refl xs a.2]
    rfl
theorem okD_mono : ∀ (n m : Nat), n ≤ m → ∀ d : D, okD n d = true → okD m d = true
  | _, _, _, .non, _ => by simp [okD]
  | _, _, _, .bl _, _ => by simp [okD]
  | _, _, _, .int _, _ => by simp [okD]
  | _, _, _, .str _, h => by simpa [okD] using h
  | n + 1, m + 1, h, .tup xs, hd => by
    simp only [okD] at hd ⊢
    exact okL_mono n m (by omega) xs hd
  | n + 1, m + 1, h, .lst xs, hd => by
    simp only [okD] at hd ⊢
    exact okL_mono n m (by omega) xs hd
  | 0, _, _, .tup _, h => by simp [okD] at h
  | 0, _, _, .lst _, h => by simp [okD] at h
  | _ + 1, 0, h, .tup _, _ => by omega
  | _ + 1, 0, h, .lst _, _ => by omega
  | _, _, _, .obj _, h => by simp [okD] at h
  | _, _, _, .dct _, h => by simp [okD] at h
  | _, _, _, .scr _, h => by simp [okD] at h
theorem okL_mono : ∀ (n m : Nat), n ≤ m → ∀ d : List D, okL n d = true → okL m d = true
  | _, _, _, [], _ => by simp [okL]
  | n, m, h, x :: xs, hd => by
    have a : okD n x = true ∧ okL n xs = true := by simpa [okL] using hd
    simp only [okL]
    rw [okD_mono n m h x a.1, okL_mono n m h xs a.2]
    rfl
end
section
variable {ρ ρ' : List Slot} {S S' : List D} {g T a b : Sv} {c : Et} {f fa fb : Ev} {d d2 : D} {o : Out} {i j : Nat} {p : Pat} {it : Ea}
theorem seq_nx (h : g ρ S = some (.nx ρ' S')) : sSeq g T ρ S = T ρ' S' := by rw [ev_sSeq, h, Option.bind_some]
theorem seq_rt (h : g ρ S = some (.rt d S')) : sSeq g T ρ S = some (.rt d S') := by rw [ev_sSeq, h, Option.bind_some]
theorem if_t (h : c ρ S = some (true, S')) : sIf c a b ρ S = a ρ S' := by rw [ev_sIf, h, Option.bind_some]; rfl
theorem if_f (h : c ρ S = some (false, S')) : sIf c a b ρ S = b ρ S' := by rw [ev_sIf, h, Option.bind_some]; rfl
theorem ret_s (h : f ρ S = some (d, S')) : sRet f ρ S = some (.rt d S') := by rw [ev_sRet, h, Option.bind_some]
theorem set_s (h : f ρ S = some (d, S')) : sSet i f ρ S = some (.nx (ρ.set i (.val d)) S') := by rw [ev_sSet, h, Option.bind_some]
theorem par_s {S2 : List D} (h : fa ρ S = some (d, S')) (h2 : fb ρ S' = some (d2, S2)) : sPar i j fa fb ρ S = some (.nx ((ρ.set i (.val d)).set j (.val d2)) S2) := by rw [ev_sPar, h, Option.bind_some, h2, Option.bind_some]
theorem asg_s {l : List (Nat × D)} (h : f ρ S = some (d, S')) (hb : binds p d = some l) : sAsg p f ρ S = some (.nx (putD ρ l) S') := by rw [ev_sAsg, h, Option.bind_some, hb, Option.bind_some]
theorem for_s {ds : List D} (h : it ρ S = some (ds, S')) (h2 : forL p g ds ρ S' = some o) : sFor p it g ρ S = some o := by rw [ev_sFor, h, Option.bind_some]; exact h2
theorem exp_s (h : f ρ S = some (d, S')) : sExp f ρ S = some (.nx ρ S') := by rw [ev_sExp, h, Option.bind_some]
theorem run_rt {fr : Bool} {N : Nat} {ds : List D} (hρ : ds.map .val ++ List.replicate (N - ds.length) .non = ρ) (h : g ρ S = some (.rt d S')) : runB fr N g ds S = some (d, S') := by rw [ev_runB, hρ, h, Option.bind_some]
theorem run_nx {N : Nat} {ds : List D} (hρ : ds.map .val ++ List.replicate (N - ds.length) .non = ρ) (h : g ρ S = some (.nx ρ' S')) : runB false N g ds S = some (.non, S') := by rw [ev_runB, hρ, h, Option.bind_some]; rfl
theorem comp_s {vs : List Nat} {ds : List D} {res : List D} {S2 : List D} (h : it ρ S = some (ds, S')) (hl : ds.length ≤ 16777216) (h2 : compL p c f (wipeD ρ vs) ds S' = some (res, S2)) : eComp p it c f vs ρ S = some (.lst res, S2) := by
  rw [ev_Comp, h, Option.bind_some, if_pos hl, h2, Option.bind_some]
theorem call_s {n : Nat} {m : List D → List D → Option (D × List D)} {fs : Ea} {ds : List D} {r : D × List D} (h : fs ρ S = some (ds, S')) (hn : ds.length = n) (h2 : m ds S' = some r) : eCall n m fs ρ S = some r := by
  rw [ev_Call, h, Option.bind_some, if_pos hn, h2]
theorem bin_s {g : D → D → Option D} {S2 : List D} {r : D} (h : fa ρ S = some (d, S')) (h2 : fb ρ S' = some (d2, S2)) (h3 : g d d2 = some r) : eBin g fa fb ρ S = some (r, S2) := by
  rw [ev_Bin, h, Option.bind_some, h2, Option.bind_some, h3, Option.bind_some]
theorem un_s {g : D → Option D} {r : D} (h : fa ρ S = some (d, S')) (h3 : g d = some r) : eUn g fa ρ S = some (r, S') := by
  rw [ev_Un, h, Option.bind_some, h3, Option.bind_some]
theorem unF_s {g : D → Option (List D)} {r : List D} (h : fa ρ S = some (d, S')) (h3 : g d = some r) : eUnF g fa ρ S = some (.lst r, S') := by
  rw [ev_UnF, h, Option.bind_some, h3, Option.bind_some]
theorem ix_s {S2 : List D} {r : D} (h : fa ρ S = some (d, S')) (h2 : fb ρ S' = some (d2, S2)) (h3 : ixD S2 d d2 = some r) : eIx fa fb ρ S = some (r, S2) := by
  rw [ev_Ix, h, Option.bind_some, h2, Option.bind_some, h3, Option.bind_some]
theorem eif_t (h : c ρ S = some (true, S')) : eIf c fa fb ρ S = fa ρ S' := by rw [ev_If, h, Option.bind_some]; rfl
theorem eif_f (h : c ρ S = some (false, S')) : eIf c fa fb ρ S = fb ρ S' := by rw [ev_If, h, Option.bind_some]; rfl
theorem aC_s {fs : Ea} {ds S2 : List D} (h : f ρ S = some (d, S')) (h2 : fs ρ S' = some (ds, S2)) : aC f fs ρ S = some (d :: ds, S2) := by rw [ev_aC, h, Option.bind_some, h2, Option.bind_some]
theorem tup_s {fs : Ea} {ds : List D} (h : fs ρ S = some (ds, S')) (hl : ds.length ≤ 16777216) : eTup fs ρ S = some (.tup ds, S') := by rw [ev_Tup, h, Option.bind_some, if_pos hl]
theorem lst_s {fs : Ea} {ds : List D} (h : fs ρ S = some (ds, S')) (hl : ds.length ≤ 16777216) : eLst fs ρ S = some (.lst ds, S') := by rw [ev_Lst, h, Option.bind_some, if_pos hl]
theorem cV_s {k : Bool} (h : f ρ S = some (.bl k, S')) : cV f ρ S = some (k, S') := by rw [ev_cV, h, Option.bind_some]
theorem range1_s {fs : Ea} {k : Int} (h : fs ρ S = some ([.int k], S')) (hw : inWord k = true) : iRange1 fs ρ S = some (rangeD 0 k, S') := by rw [ev_iRange1, h, Option.bind_some]; exact if_pos hw
theorem range2_s {fs : Ea} {k l : Int} (h : fs ρ S = some ([.int k, .int l], S')) (hw : inWord k = true) (hw2 : inWord l = true) : iRange2 fs ρ S = some (rangeD k l, S') := by rw [ev_iRange2, h, Option.bind_some]; exact if_pos (by rw [hw, hw2]; rfl)
theorem cNot_s {k : Bool} (h : c ρ S = some (k, S')) : cNot c ρ S = some (!k, S') := by rw [ev_cNot, h, Option.bind_some]
end
end DL
namespace DL
open PySem PySem.Spec PyProof.Rows L2
section
variable {X : Cx} {pos : Pos} {e a b c : Expr} {es : List Expr} {f fa fb fz : Ev} {fs : Ea} {fc fd : Et} {fr : Bool} {g1 g2 : Sv} {st : Stmt} {sts : List Stmt}
def revL : D → Option (List D)
  | .lst xs => some xs.reverse
  | _ => none
theorem RpL.rev {K : KW} {as : List Addr} {O : Addr → Prop} {H : Hp} : ∀ {vs : List V} {ds : List D}, RpL K as O H vs ds → RpL K as O H vs.reverse ds.reverse
  | _, _, .nil => .nil
  | _, _, .cons r t => by
    rw [List.reverse_cons, List.reverse_cons]
    exact (RpL.rev t).append (.cons r .nil)
theorem mf_rev {k : Nat} {p1 p2 p3 : Pos} (ha : PE X a (tOfB (kw X) fa)) : PE X (.Subscript a (.Slice none none (some (.UnaryOp .USub (.Constant (.int 1) k p1) p2)) p3) pos) (tOfF (kw X) (eUnF revL fa)) := (pe_revL ha).weak fun σ H Q q => by
  obtain ⟨as, O, ρ, S, d, S', R, hf, kk⟩ := q
  unfold eUnF at hf
  obtain ⟨⟨d1, S1⟩, h1, hf⟩ := Option.bind_eq_some_iff.mp hf
  obtain ⟨r, h3, hf⟩ := Option.bind_eq_some_iff.mp hf
  cases hf
  refine ⟨as, O, ρ, S, d1, S1, R, h1, fun v H1 s1 c1 r1 => ?_⟩
  have R1 := R.step s1 c1
  unfold revL at h3
  split at h3
  · rename_i xs e
    have e : d1 = .lst xs := e
    subst e
    cases h3
    obtain ⟨p0, vs, rfl, h, t⟩ := RpB.lst r1
    refine ⟨p0, vs, rfl, .inl (.inl h), fun p hp => ?_⟩
    have q := new_cells (o := .lst vs.reverse) R1.wf c1 hp
    exact kk p _ (R.free s1 c1 hp) (s1.trans (Same.stp (same_new hp))) q.1 (.lst upd_same (q.2 _ _ (RpL.rev t)))
  · cases h3
def sPop (i : Nat) (f : Ev) : Sv := fun ρ S => (f ρ S).bind fun p => match ρ[i]?, p.1 with
  | some (.own (.lst xs)), .int j => if -9223372036854775808 ≤ j ∧ j < 9223372036854775808 then (ixN xs.length j).bind fun n => some (.nx (ρ.set i (.own (.lst (xs.eraseIdx n)))) p.2) else none
  | _, _ => none
def sIns (i : Nat) (fj f : Ev) : Sv := fun ρ S => (fj ρ S).bind fun q => (f ρ q.2).bind fun p => match ρ[i]?, q.1 with
  | some (.own (.lst xs)), .int j => if xs.length < 16777216 ∧ 0 ≤ j ∧ j < 9223372036854775808 then some (.nx (ρ.set i (.own (.lst (xs.take j.toNat ++ [p.1] ++ xs.drop j.toNat)))) p.2) else none
  | _, _ => none
theorem RpL.erase {K : KW} {as : List Addr} {O : Addr → Prop} {H : Hp} : ∀ (n : Nat) {vs : List V} {ds : List D}, RpL K as O H vs ds → RpL K as O H (vs.eraseIdx n) (ds.eraseIdx n)
  | _, _, _, .nil => .nil
  | 0, _, _, .cons _ t => t
  | n + 1, _, _, .cons q t => .cons q (RpL.erase n t)
theorem RpL.tk {K : KW} {as : List Addr} {O : Addr → Prop} {H : Hp} : ∀ (n : Nat) {vs : List V} {ds : List D}, RpL K as O H vs ds → RpL K as O H (vs.take n) (ds.take n)
  | n, _, _, .nil => by rw [List.take_nil, List.take_nil]; exact .nil
  | 0, _, _, .cons _ t => .nil
  | n + 1, _, _, .cons q t => .cons q (RpL.tk n t)
theorem RpL.dr {K : KW} {as : List Addr} {O : Addr → Prop} {H : Hp} : ∀ (n : Nat) {vs : List V} {ds : List D}, RpL K as O H vs ds → RpL K as O H (vs.drop n) (ds.drop n)
  | n, _, _, .nil => by rw [List.drop_nil, List.drop_nil]; exact .nil
  | 0, _, _, .cons q t => .cons q t
  | n + 1, _, _, .cons q t => RpL.dr n t
theorem ms_pop (i : Nat) {x : Str} {px apos cpos : Pos} (ho : PE X (.Name x px) (tVar i)) (ha : PE X a (tOf (kw X) fa))
    (hbase : attributeBase (.Name x px) "pop" X.env (eval (.Name x px) X.env) = eval (.Name x px) X.env := by rfl)
    (hfew : ((backTo cpos (starEach [a] X.env)).all (fun x => !x.1) && (backToKw cpos (keywordEach [] X.env)).all (fun x => x.1.isSome)
      && decide ([a].length + ([] : List Keyword).length + (if ([] : List Keyword).isEmpty then 0 else 1) < 30)) = true := by rfl)
    (hline : (apos.endLine == cpos.line) = true := by rfl) (hs : starEach [a] X.env = (false, eval a X.env) :: starEach [] X.env := by rfl) (hplain : (backTo cpos (starEach [] X.env)).any (·.1) = false := by rfl)
    (hsw : swapsWith (.Call (.Attribute (.Name x px) "pop" apos) [a] [] cpos) none pos.line X.env = pure false := by rfl) :
    PS X (.Expr (.Call (.Attribute (.Name x px) "pop" apos) [a] [] cpos) pos) (tOfS fr (kw X) (sPop i fa)) :=
  (ps_expr (pe_bm PySem.F.plainAttrs_list PySem.F.slot_list_pop PySem.F.type_list_pop mt_popAt ho (pa_cons ha pa_nil hs) hbase hfew hline hs hplain) hsw).weak fun D σ H q => by
    obtain ⟨as, O, B, G, ρ, S, o, R, hf, k⟩ := q
    unfold sPop at hf
    obtain ⟨⟨d1, S1⟩, h1, hf⟩ := Option.bind_eq_some_iff.mp hf
    split at hf
    · rename_i xs j hx hj
      have hj : d1 = .int j := hj
      subst hj
      split at hf
      · rename_i hl
        obtain ⟨n, hn, hf⟩ := Option.bind_eq_some_iff.mp hf
        cases hf
        obtain ⟨p, h2, nb, ng, cp⟩ := R.own i _ hx
        cases cp with
        | @lst ws _ hp t =>
          refine ⟨.ref p, h2, .inl ⟨rfl, _, .inl (.inl hp)⟩, as, _, ρ, S, .int j, S1, R.e, h1, fun v H1 s1 c1 r1 => ?_⟩
          have R1 := R.step s1 c1
          cases r1
          have hp1 : H1 p = some (.lst ws) := s1 p _ (R.notas nb) hp
          have t1 := t.stp R.wf s1
          have kk : Kp (OO O ρ σ) H1 (upd H1 p (.lst (ws.eraseIdx n))) := fun b u nn e => by
            rw [upd_ne (fun z => nn (by rw [z]; exact .inr ⟨i, _, hx, h2⟩))]
            exact e
          obtain ⟨q1, q2, _⟩ := ixN_seq hn
          have q3 : n < ws.length := by rw [Rp.length t1]; exact q2
          refine ⟨p, _, j, n, ws[n], rfl, rfl, hp1, by omega, by omega, ?_, List.getElem?_eq_getElem q3, ?_⟩
          · rw [Rp.length t1]; exact q1
          exact k _ _ (R1.mutOwn (o := .lst (ws.eraseIdx n)) hx h2 trivial (.lst upd_same (RpL.kp R1.wf.nt kk _ _ (RpL.erase n t1))))
      · cases hf
    · cases hf
theorem ms_ins (i : Nat) {x : Str} {px apos cpos : Pos} (ho : PE X (.Name x px) (tVar i)) (ha : PE X a (tOf (kw X) fa)) (hb : PE X b (tOf (kw X) fb))
    (hbase : attributeBase (.Name x px) "insert" X.env (eval (.Name x px) X.env) = eval (.Name x px) X.env := by rfl)
    (hfew : ((backTo cpos (starEach [a, b] X.env)).all (fun x => !x.1) && (backToKw cpos (keywordEach [] X.env)).all (fun x => x.1.isSome)
      && decide ([a, b].length + ([] : List Keyword).length + (if ([] : List Keyword).isEmpty then 0 else 1) < 30)) = true := by rfl)
    (hline : (apos.endLine == cpos.line) = true := by rfl) (hs : starEach [a, b] X.env = (false, eval a X.env) :: starEach [b] X.env := by rfl) (hs2 : starEach [b] X.env = (false, eval b X.env) :: starEach [] X.env := by rfl) (hplain : (backTo cpos (starEach [b] X.env)).any (·.1) = false := by rfl)
    (hsw : swapsWith (.Call (.Attribute (.Name x px) "insert" apos) [a, b] [] cpos) none pos.line X.env = pure false := by rfl) :
    PS X (.Expr (.Call (.Attribute (.Name x px) "insert" apos) [a, b] [] cpos) pos) (tOfS fr (kw X) (sIns i fa fb)) :=
  (ps_expr (pe_bm PySem.F.plainAttrs_list PySem.F.slot_list_insert PySem.F.type_list_insert mt_insert ho (pa_cons ha (pa_cons hb pa_nil hs2) hs) hbase hfew hline hs hplain) hsw).weak fun D σ H q => by
    obtain ⟨as, O, B, G, ρ, S, o, R, hf, k⟩ := q
    unfold sIns at hf
    obtain ⟨⟨d1, S1⟩, h1, hf1⟩ := Option.bind_eq_some_iff.mp hf
    clear hf
    obtain ⟨⟨d2, S2⟩, h2, hf⟩ := Option.bind_eq_some_iff.mp hf1
    clear hf1
    split at hf
    · rename_i xs j hx hj
      have hj : d1 = .int j := hj
      subst hj
      split at hf
      · rename_i hl
        cases hf
        obtain ⟨p, h3, nb, ng, cp⟩ := R.own i _ hx
        cases cp with
        | @lst ws _ hp t =>
          refine ⟨.ref p, h3, .inl ⟨rfl, _, .inl (.inl hp)⟩, as, _, ρ, S, .int j, S1, R.e, h1, fun v H1 s1 c1 r1 => ?_⟩
          have R1 := R.step s1 c1
          cases r1
          refine ⟨as, _, ρ, S1, d2, S2, R1.e, h2, fun v H2 s2 c2 r2 => ?_⟩
          have R2 := R1.step s2 c2
          have hp2 : H2 p = some (.lst ws) := s2 p _ (R.notas nb) (s1 p _ (R.notas nb) hp)
          have t2 := (t.stp R.wf s1).stp R1.wf s2
          have kk : Kp (OO O ρ σ) H2 (upd H2 p (.lst (ws.take j.toNat ++ [v] ++ ws.drop j.toNat))) := fun b u nn e => by
            rw [upd_ne (fun z => nn (by rw [z]; exact .inr ⟨i, _, hx, h3⟩))]
            exact e
          refine ⟨p, _, j, v, rfl, rfl, hp2, by rw [sizeLine_16, Rp.length t2]; omega, by omega, by omega, ?_⟩
          exact k _ _ (R2.mutOwn (o := .lst (ws.take j.toNat ++ [v] ++ ws.drop j.toNat)) hx h3 trivial (.lst upd_same (RpL.kp R2.wf.nt kk _ _ (((RpL.tk _ t2).append (.cons r2 .nil)).append (RpL.dr _ t2)))))
      · cases hf
    · cases hf
end
section
variable {ρ ρ' : List Slot} {S S' : List D} {f fj : Ev} {i : Nat}
theorem ev_sPop : sPop i f ρ S = (f ρ S).bind fun p => match ρ[i]?, p.1 with | some (.own (.lst xs)), .int j => if -9223372036854775808 ≤ j ∧ j < 9223372036854775808 then (ixN xs.length j).bind fun n => some (.nx (ρ.set i (.own (.lst (xs.eraseIdx n)))) p.2) else none | _, _ => none := (rfl)
theorem ev_sIns : sIns i fj f ρ S = (fj ρ S).bind fun q => (f ρ q.2).bind fun p => match ρ[i]?, q.1 with | some (.own (.lst xs)), .int j => if xs.length < 16777216 ∧ 0 ≤ j ∧ j < 9223372036854775808 then some (.nx (ρ.set i (.own (.lst (xs.take j.toNat ++ [p.1] ++ xs.drop j.toNat)))) p.2) else none | _, _ => none := (rfl)
end
end DL
namespace DL
open PySem PySem.Spec PyProof.Rows L2
def blsD : List D → Option (List Bool)
  | [] => some []
  | .bl b :: xs => (blsD xs).map (b :: ·)
  | _ :: _ => none
theorem blsD_map : ∀ bs : List Bool, blsD (bs.map D.bl) = some bs
  | [] => rfl
  | b :: bs => by
    show (blsD (bs.map D.bl)).map (b :: ·) = _
    rw [blsD_map bs]; rfl
theorem rp_bls {K : KW} {as : List Addr} {O : Addr → Prop} {H : Hp} : ∀ {vs : List V} {xs : List D} {bs : List Bool}, RpL K as O H vs xs → blsD xs = some bs → vs = bs.map V.bl
  | [], [], bs, .nil, h => by cases h; rfl
  | v :: vs, x :: xs, bs, .cons r t, h => by
    cases x with
    | bl b =>
      have h : (blsD xs).map (b :: ·) = some bs := h
      obtain ⟨cs, h1, h2⟩ := Option.map_eq_some_iff.mp h
      subst h2
      cases r
      rw [rp_bls t h1]; rfl
    | _ => cases h
def dAll : D → Option D
  | .lst xs => (blsD xs).map fun bs => .bl (bs.all id)
  | _ => none
def dAny : D → Option D
  | .lst xs => (blsD xs).map fun bs => .bl (bs.any id)
  | _ => none
def dCount : D → D → Option D
  | .str a, .str b => some (.int (Txt.count a b))
  | _, _ => none
def dIsB : D → D → Option D
  | .bl a, .bl b => some (.bl (decide (a = b)))
  | _, _ => none
section
variable {X : Cx} {pos : Pos} {e a b c : Expr} {es : List Expr} {f fa fb fz : Ev} {fs : Ea} {fc fd : Et} {fr : Bool} {g1 g2 : Sv} {st : Stmt} {sts : List Stmt}
theorem cd_all (hc : X.calm = true) : CallR X (.builtin "all") (rC1 (kw X) dAll) := by
  intro pins s σ H xs us Q I r q
  obtain ⟨as, O, d, rr, x, rfl, w, rd, hg, k⟩ := q
  unfold dAll at hg
  split at hg
  · obtain ⟨bs, h1, h2⟩ := Option.map_eq_some_iff.mp hg
    subst h2
    obtain ⟨a, vs, rfl, h, t⟩ := rd.lst
    have e := rp_bls t h1
    subst e
    exact cr_all hc pins s σ H _ us Q I r ⟨a, bs, rfl, .inl (.inl h), k _ H (Same.refl H) (.bl _)⟩
  · cases hg
theorem cd_any (hc : X.calm = true) : CallR X (.builtin "any") (rC1 (kw X) dAny) := by
  intro pins s σ H xs us Q I r q
  obtain ⟨as, O, d, rr, x, rfl, w, rd, hg, k⟩ := q
  unfold dAny at hg
  split at hg
  · obtain ⟨bs, h1, h2⟩ := Option.map_eq_some_iff.mp hg
    subst h2
    obtain ⟨a, vs, rfl, h, t⟩ := rd.lst
    have e := rp_bls t h1
    subst e
    exact cr_any hc pins s σ H _ us Q I r ⟨a, bs, rfl, .inl (.inl h), k _ H (Same.refl H) (.bl _)⟩
  · cases hg
theorem od_isB : OpR X (compareOp .Is) (r2D (kw X) dIsB) := by
  intro pins s σ H x y v u Q I rx ry q
  obtain ⟨as, O, d, e, r, w, rd, re, hg, k⟩ := q
  unfold dIsB at hg
  split at hg
  · rename_i a b
    cases hg
    have e1 : x = .bl a := by
      rcases rd with rd | ⟨_, _, _, c⟩
      · cases rd; rfl
      · cases c
    have e2 : y = .bl b := by
      rcases re with re | ⟨_, _, _, c⟩
      · cases re; rfl
      · cases c
    subst e1 e2
    exact op_isBl pins s σ H _ _ v u Q I rx ry ⟨a, b, rfl, rfl, k _ H (Same.refl H) (.bl _)⟩
  · cases hg
def rM2 (K : KW) (g : D → D → Option D) : V → List V → Hp → VK → Prop := fun x xs H Q => ∃ as O d e r y, xs = [y] ∧ Wf as O H ∧ RpB K as O H x d ∧ RpB K as O H y e ∧ g d e = some r ∧ ∀ v H', Same H H' → Rp K as O H' v r → Q v H'
theorem md_count : MtR X "str.count" (rM2 (kw X) dCount) := by
  intro pins s σ H x xs v us Q I rx rxs q
  obtain ⟨as, O, d, e, r, y, rfl, w, rd, re, hg, k⟩ := q
  unfold dCount at hg
  split at hg
  · cases hg
    have e1 := rd.str
    have e2 := re.str
    subst e1 e2
    exact mt_count pins s σ H _ _ v us Q I rx rxs ⟨_, _, rfl, rfl, k _ H (Same.refl H) (.int _)⟩
  · cases hg
def strD : D → Bool
  | .str _ => true
  | _ => false
def eMs (g : D → D → Option D) (fo fa : Ev) : Ev := fun ρ S => (fo ρ S).bind fun p => if strD p.1 then (fa ρ p.2).bind fun q => (g p.1 q.1).bind fun r => some (r, q.2) else none
theorem me_ms {o : Expr} {fo : Ev} {name : Str} {apos cpos : Pos} {id : String} {g : D → D → Option D} (slot : PySem.Slot "str" name id) (hty : typeOf (.builtin id) = pure (.type "method_descriptor")) (hm : MtR X id (rM2 (kw X) g)) (ho : PE X o (tOfB (kw X) fo)) (ha : PE X a (tOfB (kw X) fa))
    (hbase : attributeBase o name X.env (eval o X.env) = eval o X.env := by rfl)
    (hfew : ((backTo cpos (starEach [a] X.env)).all (fun x => !x.1) && (backToKw cpos (keywordEach [] X.env)).all (fun x => x.1.isSome)
      && decide ([a].length + ([] : List Keyword).length + (if ([] : List Keyword).isEmpty then 0 else 1) < 30)) = true := by rfl)
    (hline : (apos.endLine == cpos.line) = true := by rfl) (hs : starEach [a] X.env = (false, eval a X.env) :: starEach [] X.env := by rfl) (hplain : (backTo cpos (starEach [] X.env)).any (·.1) = false := by rfl) :
    PE X (.Call (.Attribute o name apos) [a] [] cpos) (tOf (kw X) (eMs g fo fa)) := (pe_bm PySem.F.plainAttrs_str slot hty hm ho (pa_cons ha pa_nil hs) hbase hfew hline hs hplain).weak fun σ H Q q => by
  obtain ⟨as, O, ρ, S, d, S', R, hf, k⟩ := q
  unfold eMs at hf
  obtain ⟨⟨d1, S1⟩, h1, hf1⟩ := Option.bind_eq_some_iff.mp hf
  clear hf
  split at hf1
  · rename_i hstr
    obtain ⟨⟨d2, S2⟩, h2, hf⟩ := Option.bind_eq_some_iff.mp hf1
    obtain ⟨r, h3, hf⟩ := Option.bind_eq_some_iff.mp hf
    cases hf
    refine ⟨as, O, ρ, S, d1, S1, R, h1, fun v H1 s1 c1 r1 => ?_⟩
    have R1 := R.step s1 c1
    obtain ⟨z, rfl⟩ : ∃ z, d1 = .str z := by
      cases d1 <;> first | exact ⟨_, rfl⟩ | cases hstr
    have e1 := RpB.str r1
    subst e1
    refine ⟨rfl, as, O, ρ, S1, d2, S2, R1, h2, fun w H2 s2 c2 r2 => ?_⟩
    have R2 := R1.step s2 c2
    exact ⟨as, O, .str z, d2, _, w, rfl, R2.wf, r1.stp R1.wf s2, r2, h3, fun v H' sm r => k v H' ((s1.trans s2).trans (Same.stp sm)) (c2.same R2.wf sm) r⟩
  · cases hf1
end
section
variable {ρ : List Slot} {S : List D}
theorem ev_Ms {g : D → D → Option D} {fo fa : Ev} : eMs g fo fa ρ S = (fo ρ S).bind fun p => if strD p.1 then (fa ρ p.2).bind fun q => (g p.1 q.1).bind fun r => some (r, q.2) else none := (rfl)
end
end DL
namespace DL
open PySem PySem.Spec PyProof.Rows L2
def intsD : List D → Option (List Int)
  | [] => some []
  | .int i :: xs => (intsD xs).map (i :: ·)
  | _ :: _ => none
theorem intsD_map : ∀ is : List Int, intsD (is.map D.int) = some is
  | [] => rfl
  | i :: is => by
    show (intsD (is.map D.int)).map (i :: ·) = _
    rw [intsD_map is]; rfl
theorem rp_intsD {K : KW} {as : List Addr} {O : Addr → Prop} {H : Hp} : ∀ {vs : List V} {xs : List D} {is : List Int}, RpL K as O H vs xs → intsD xs = some is → vs = is.map V.int
  | [], [], is, .nil, h => by cases h; rfl
  | v :: vs, x :: xs, is, .cons r t, h => by
    cases x with
    | int i =>
      have h : (intsD xs).map (i :: ·) = some is := h
      obtain ⟨cs, h1, h2⟩ := Option.map_eq_some_iff.mp h
      subst h2
      cases r
      rw [rp_intsD t h1]; rfl
    | _ => cases h
def dSum : D → Option D
  | .lst xs => (intsD xs).map fun is => .int is.sum
  | _ => none
def sortI : D → Option (List D)
  | .lst xs => (intsD xs).map fun is => (is.mergeSort (· ≤ ·)).map .int
  | _ => none
theorem sort_one {a b : List Int} (h : a.Perm b) (p : a.Pairwise (· ≤ ·)) : a = b.mergeSort (· ≤ ·) := by
  have q : (b.mergeSort (· ≤ ·)).Pairwise (fun x y => (decide (x ≤ y)) = true) := List.pairwise_mergeSort (fun a b c h1 h2 => by simp only [decide_eq_true_eq] at *; omega) (fun a b => by simp only [Bool.or_eq_true, decide_eq_true_eq]; omega) b
  refine List.Perm.eq_of_pairwise (le := fun x y : Int => x ≤ y) (fun x y _ _ h1 h2 => by omega) p (q.imp fun h => of_decide_eq_true h) ?_
  exact h.trans (List.mergeSort_perm b _).symm
section
variable {X : Cx}
theorem cd_sum (hc : X.calm = true) : CallR X (.builtin "sum") (rC1 (kw X) dSum) := by
  intro pins s σ H xs us Q I r q
  obtain ⟨as, O, d, rr, x, rfl, w, rd, hg, k⟩ := q
  unfold dSum at hg
  split at hg
  · obtain ⟨is, h1, h2⟩ := Option.map_eq_some_iff.mp hg
    subst h2
    obtain ⟨a, vs, rfl, h, t⟩ := rd.lst
    have e := rp_intsD t h1
    subst e
    exact cr_sum hc pins s σ H _ us Q I r ⟨a, is, rfl, .inl (.inl h), k _ H (Same.refl H) (.int _)⟩
  · cases hg
theorem cd_sortI : CallR X (.builtin "sorted") (rF1 (kw X) sortI) := by
  intro pins s σ H xs us Q I r q
  obtain ⟨as, O, d, rr, x, rfl, w, rd, hg, k⟩ := q
  unfold sortI at hg
  split at hg
  · obtain ⟨is, h1, h2⟩ := Option.map_eq_some_iff.mp hg
    subst h2
    obtain ⟨a, vs, rfl, h, t⟩ := rd.lst
    have e := rp_intsD t h1
    subst e
    refine cr_sortedI pins s σ H _ us Q I r ⟨a, is, rfl, .inl (.inl h), fun ns' p hp hs hn => ?_⟩
    rw [sort_one hp hs]
    exact k _ p (rp_ints _) hn
  · cases hg
end
def natFst (i : Nat) (ρ : List Slot) : Nat := match ρ[i]? with
  | some (.val (.tup (.int k :: _))) => k.natAbs
  | _ => 0
theorem ev_natFst (ρ : List Slot) (i : Nat) : natFst i ρ = (match ρ[i]? with | some (.val (.tup (.int k :: _))) => k.natAbs | _ => 0) := (rfl)
end DL
namespace DL
open PySem PySem.Spec PyProof.Rows L2
section
variable {P : Program} {w : World} {A : Around} {E : Value → Shared → Prop} {s : Shared}
abbrev mtS (w : World) : Obj := { cls := .type "set", dict := none, data := .set #[] 0 (.fresh 0 0 (!w.params.followText "set-order")) }
def SetDone (w : World) (s : Shared) (ns : List Int) (z : Shared) : Prop := ∃ h' tk c, z = { s with heap := h', toks := tk } ∧ SetR w h' s.heap.objs.size (fun j => decide (j ∈ ns)) c ∧ c ≤ ns.length ∧ ∀ b o, s.heap.get? b = some o → h'.get? b = some o
theorem set_of_ints {l : Addr} {its : Array Value} (ns : List Int) {Q : Value → Shared → Prop} (nh : A.handled = none) (hl : s.heap.IsList l its) (hi : IntsAre its.toList ns) (few : ns.length + 1 < scanBound)
    (k : ∀ z, SetDone w s ns z → Q (.ref s.heap.objs.size) z) : wpAny (model P w) A (call (.type "set") [.ref l]) Q E s := by
  have sz : its.size = ns.length := (Array.length_toList).symm.trans (IntsAre.length hi)
  obtain ⟨c0, tl, hmro⟩ := F.called_set.mro
  have f1 := F.called_set.made
  have f2 := F.called_set.sub
  have f3 := F.called_set.notType
  have f4 := F.called_set.canCreate
  have f5 := F.typeCall_set_1 (.ref l)
  have f6 := F.called_set.init.lookup
  refine wpAny_call (codeAny_of_tree (show wpAny _ _ (callAny (.type "set") _) _ _ _ from wpAny_pure ⟨Code.quiet_builtin _ (by decide +kernel), codeAny_builtin F.entry_type_call ?_⟩))
  rw [Around.under_plain (weight_type_call_type "set" [.ref l] []) rfl]
  repeat (any_goals (first | assumption | wp_step))
  refine codeAny_mono (code_set_led1 (.ref l) (E := E) (Q₁ := fun o z => o = .ref s.heap.objs.size ∧ z = { s with heap := s.heap.push (mtS w) }) ⟨rfl, rfl⟩) fun r z hr => ?_
  cases r with
  | error e => exact hr
  | ok fl =>
  cases fl with
  | ret o =>
    obtain ⟨rfl, rfl⟩ := hr
    have g0 : (s.heap.push (mtS w)).get? s.heap.objs.size = some (mtS w) := Heap.get?_push_size _ rfl
    have ty : Shared.TypeIs { s with heap := s.heap.push (mtS w) } (.ref s.heap.objs.size) "set" := ⟨_, g0, rfl⟩
    have f7 := F.called_set.init.bind (.ref s.heap.objs.size)
    repeat (any_goals (first | assumption | wp_step))
    refine codeAny_mono (codeAny_call_builtin (R := wants (fun r z => r = .none ∧ SetDone w s ns z) E) F.called_set.init.plain F.entry_set_init (check_set_init_1 ty ?_)) fun r z hz => ?_
    · obtain ⟨⟨oc, od, oda, os⟩, ho, hc, nl, hd⟩ := hl
      dsimp only at hc hd
      subst hc hd
      have ho' := Heap.get?_push_of_some (mtS w) ho
      have p1 := F.sub_list_set
      have p2 := F.sub_list_frozenset
      have p3 : (Value.type "list" == Value.type "dict") = false := by decide
      have lst : (s.heap.push (mtS w)).IsList l its := ⟨_, ho', rfl, nl, rfl⟩
      have lt := Heap.lt_size ho
      have z1 : (s.heap.push (mtS w)).objs.size = s.heap.objs.size + 1 := Heap.size_push ..
      unfold Builtin.«set.__init__» noKeywords Builtin.Frozenset.updateFrom
      generalize hG : pyIter = G
      wp_walk
      subst hG
      refine wpAny_pyIter_list lst (wpAny_bind (wpAny_runValue ?_))
      have nh3 : A.in1.in1.in1.handled = none := by simp [nh]
      have ne1 : l ≠ (s.heap.push (mtS w)).objs.size := by rw [z1]; exact Nat.ne_of_lt (Nat.lt_succ_of_lt lt)
      have out : s.heap.objs.size ∉ [(s.heap.push (mtS w)).objs.size, l] := by
        rw [z1]
        simp only [List.mem_cons, List.not_mem_nil, or_false, not_or]
        exact ⟨Nat.ne_of_lt (Nat.lt_succ_self _), Nat.ne_of_gt lt⟩
      have val : ∀ (i : Nat) (v : Value), its[i]? = some v → ∃ k t, ns[i]? = some k ∧ v = .int k t := fun i v hv => by
        have li : i < ns.length := by rw [← sz]; exact (Array.getElem?_eq_some_iff.mp hv).1
        obtain ⟨t, e⟩ := PyProof.Rows.IntsAre.int_at hi i v (by rw [Array.getElem?_toList]; exact hv)
        exact ⟨ns[i], t, List.getElem?_eq_getElem li, by rw [e, List.getD_eq_getElem?_getD, List.getElem?_eq_getElem li] <;> rfl⟩
      refine set_update_ints ((Walks.list nh3 _ l ne1 its).toS) s.heap.objs.size out ns sz few val (its.size - 0) 0 _ (by omega) (Nat.zero_le _) ⟨⟨_, Heap.get?_push_size _ rfl, rfl, rfl⟩, lst.push _⟩
        ⟨0, Nat.le_refl 0, setR_new_at (Heap.get?_push_of_some _ g0)⟩ fun z c' hm hc' hS' => ?_
      obtain ⟨h', g2, d', tk', os'⟩ := z
      have e1 : g2 = s.gens := hm.gens
      have e2 : d' = s.drawn := hm.drawn
      have e3 : os' = s.os := hm.os
      subst e1 e2 e3
      rw [sz] at hc'
      refine wpAny_pure (show wpAny _ _ (ret Value.none) _ _ _ from wpAny_pure ⟨rfl, h', tk', c', rfl, hS', hc', fun b o e => ?_⟩)
      have lb := Heap.lt_size e
      refine hm.heap b o ?_ (Heap.get?_push_of_some _ (Heap.get?_push_of_some _ e))
      simp only [List.mem_cons, List.not_mem_nil, or_false, not_or]
      exact ⟨Nat.ne_of_lt lb, by rw [z1]; exact Nat.ne_of_lt (Nat.lt_succ_of_lt lb)⟩
    · cases r with
      | error e => exact hz
      | ok fl =>
        cases fl with
        | ret r =>
          obtain ⟨rfl, d⟩ := hz
          repeat (any_goals (first | assumption | wp_step))
          exact k _ d
        | _ => exact hz.elim
  | _ => exact hr.elim
end
end DL
namespace DL
open PySem PySem.Spec PyProof.Rows L2
def compL2 (p : Pat) (c : Et) (it2 : Ea) (p2 : Pat) (c2 : Et) (f : Ev) (vs1 : List Nat) (ρ : List Slot) : List D → List D → Option (List D × List D)
  | [], S => some ([], S)
  | x :: xs, S => (binds p x).bind fun l => (c (putD ρ l) S).bind fun q => if q.1 = true then (it2 (putD ρ l) q.2).bind fun r => (compL p2 c2 f (wipeD (putD ρ l) vs1) r.1 r.2).bind fun t => (compL2 p c it2 p2 c2 f vs1 ρ xs t.2).bind fun u => some (t.1 ++ u.1, u.2)
    else compL2 p c it2 p2 c2 f vs1 ρ xs q.2
def eComp2 (p : Pat) (it : Ea) (c : Et) (it2 : Ea) (p2 : Pat) (c2 : Et) (f : Ev) (vs vs1 : List Nat) : Ev := fun ρ S => (it ρ S).bind fun q => (compL2 p c it2 p2 c2 f vs1 (wipeD ρ vs) q.1 q.2).bind fun t => if t.1.length ≤ 16777216 then some (.lst t.1, t.2) else none
section
variable {K : KW} {as : List Addr} {O : Addr → Prop} {σ : L2.St} {H0 H1 H H' : Hp} {q : Addr} {vs : List Nat} {ρ : List Slot} {acc S S' : List D}
theorem CompS.push' (C : CompS K as O σ H1 q vs ρ H acc S) (hq : q ∉ as) (no : ∀ (i : Nat) (d : D), (wipeD ρ vs)[i]? = some (.own d) → (wipe σ vs)[i]? ≠ some (some (.ref q))) {xs : List V} {y : V} {d : D} (h : H q = some (.lst xs)) (r : RpL K as (ad O q) H xs acc) (ry : Rp K as (ad O q) H y d) :
    CompS K as O σ H1 q vs ρ (upd H q (.lst (xs ++ [y]))) (acc ++ [d]) S := by
  have kk : Kp (ad O q) H (upd H q (.lst (xs ++ [y]))) := fun a u n e => by
    rw [upd_ne (fun z => n (by rw [z]; exact .inr rfl))]
    exact e
  exact ⟨C.rel.growL (.inr rfl) hq no trivial, ⟨_, upd_same, RpL.kp C.rel.wf.nt kk _ _ (r.append (.cons ry .nil))⟩, fun a u n m e => (upd_ne m).trans (C.kept a u n m e)⟩
theorem putD_own : ∀ {l : List (Nat × D)} {ρ : List Slot} {i : Nat} {d : D}, (putD ρ l)[i]? = some (.own d) → ρ[i]? = some (.own d) ∧ i ∉ l.map (·.1)
  | [], _, _, _, h => ⟨h, by simp⟩
  | (j, e) :: l, ρ, i, d, h => by
    obtain ⟨h1, h2⟩ := putD_own (l := l) (ρ := ρ.set j (.val e)) h
    rcases get_set h1 with ⟨_, z⟩ | ⟨ne, z⟩
    · cases z
    · exact ⟨z, by simp only [List.map_cons, List.mem_cons, not_or]; exact ⟨ne, h2⟩⟩
theorem putV_out : ∀ {l : List (Nat × V)} {σ : L2.St} {i : Nat}, i ∉ l.map (·.1) → (putV σ l)[i]? = σ[i]?
  | [], _, _, _ => rfl
  | (j, e) :: l, σ, i, h => by
    simp only [List.map_cons, List.mem_cons, not_or] at h
    unfold putV
    rw [putV_out h.2, List.getElem?_set_ne (Ne.symm h.1)]
end
section
variable {X : Cx} {pos : Pos} {f : Ev} {fc fc2 : Et} {it it2 : Ea} {p p2 : Pat} {fr : Bool}
theorem comp2_weak {σ : L2.St} {H0 : Hp} {Q : VK} {vs vs1 : List Nat} (hv : p.ixs.all (fun i => decide (i ∈ vs)) = true) (hv1 : p2.ixs.all (fun i => decide (i ∈ vs1)) = true)
    (h : tOfF (kw X) (eComp2 p it fc it2 p2 fc2 f vs vs1) σ H0 Q) : tLc2 (tOfI (kw X) it) (gOf (kw X) p) (tOfT (kw X) fc) (tOfI (kw X) it2) (gOf (kw X) p2) (tOfT (kw X) fc2) (tOf (kw X) f) vs vs1 σ H0 Q := by
  obtain ⟨as, O, ρ, S, d, S', R, hf, k⟩ := h
  unfold eComp2 at hf
  obtain ⟨⟨ds, S1⟩, h1, hf⟩ := Option.bind_eq_some_iff.mp hf
  obtain ⟨⟨ys, S2⟩, h2, hf⟩ := Option.bind_eq_some_iff.mp hf
  split at hf
  case isFalse => cases hf
  case isTrue hl =>
  cases hf
  refine ⟨as, O, ρ, S, ds, S1, R, h1, fun J H1 s1 c1 wk D hD => ?_⟩
  have R1 := R.step s1 c1
  have hDas : D ∉ as := fun m => R1.wf.trk (R1.wf.sub D m) hD
  have hD0 : H0 D = none := R.free s1 c1 hD
  have own0 := own_ne R1 hD
  refine ⟨fun i m H => m = ds.length - i ∧ i ≤ ds.length ∧ ∃ acc S rest, CompS (kw X) as O σ H1 D vs ρ H acc S ∧ compL2 p fc it2 p2 fc2 f vs1 (wipeD ρ vs) (ds.drop i) S = some (rest, S2) ∧ acc ++ rest = ys, ⟨ds.length, rfl, Nat.zero_le _, [], S1, ys, CompS.start R1 hD, h2, rfl⟩, ?_⟩
  rintro i m H ⟨rfl, hi, acc, Sx, rest, C, hc, hr⟩
  have kp : Kp O H1 H := fun a u n e => C.kept a u (fun m => n (R1.wf.sub a m)) (fun z => by rw [z, hD] at e; cases e) e
  obtain ⟨wstop, wgo⟩ := wk i H kp
  by_cases hlt : i < ds.length
  · rw [List.drop_eq_getElem_cons hlt] at hc
    unfold compL2 at hc
    obtain ⟨l, hb, hc⟩ := Option.bind_eq_some_iff.mp hc
    obtain ⟨⟨b, S3⟩, hb2, hc⟩ := Option.bind_eq_some_iff.mp hc
    obtain ⟨go, yld⟩ := wgo ds[i] (List.getElem?_eq_getElem hlt)
    refine .inr ⟨go, fun H' => ∃ acc S rest, CompS (kw X) as O σ H1 D vs ρ H' acc S ∧ compL2 p fc it2 p2 fc2 f vs1 (wipeD ρ vs) (ds.drop (i + 1)) S = some (rest, S2) ∧ acc ++ rest = ys, fun H' h' => ⟨ds.length - (i + 1), by omega, rfl, hlt, h'⟩, fun x H2 y => ?_⟩
    obtain ⟨sm, rx⟩ := yld x H2 y
    have C2 := C.step hDas (Same.stp sm) (C.rel.cells.same C.rel.wf sm)
    have rx2 : Rp (kw X) as (ad O D) H2 x ds[i] := Rp.anti (fun a o => o.elim .inl fun z => .inr (z ▸ hD)) _ _ rx
    refine ⟨as, _, ds[i], l, rx2, hb, fun vl rv => ⟨?_, ?_⟩⟩
    · rw [wipe_put, wipe_idem]
      rw [rv.ix, binds_ix _ _ _ hb]
      intro j hj
      exact of_decide_eq_true (List.all_eq_true.mp hv j hj)
    have R2 := C2.rel.put rv
    refine ⟨as, _, putD (wipeD ρ vs) l, Sx, b, S3, R2, hb2, fun H3 s3 c3 => ?_⟩
    have C3 := C2.step hDas s3 c3
    cases b with
    | false => exact ⟨acc, S3, rest, C3, hc, hr⟩
    | true =>
    simp only [if_true] at hc
    obtain ⟨⟨ds2, S4⟩, h4, hc⟩ := Option.bind_eq_some_iff.mp hc
    obtain ⟨⟨t, S5⟩, h5, hc⟩ := Option.bind_eq_some_iff.mp hc
    obtain ⟨⟨u, S6⟩, h6, hc⟩ := Option.bind_eq_some_iff.mp hc
    cases hc
    have R3 := R2.step s3 c3
    refine ⟨as, _, putD (wipeD ρ vs) l, S3, ds2, S4, R3, h4, fun J1 H4 s4 c4 wk1 => ?_⟩
    have R4 := R3.step s4 c4
    have C4 := C3.step hDas s4 c4
    have no1 : ∀ (i : Nat) (d : DL.D), (wipeD (putD (wipeD ρ vs) l) vs1)[i]? = some (.own d) → (wipe (putV (wipe σ vs) vl) vs1)[i]? ≠ some (some (.ref D)) := fun i d h e => by
      obtain ⟨q1, q2⟩ := wipeD_some (x := .own d) (fun z => nomatch z) h
      obtain ⟨q3, q4⟩ := putD_own q1
      obtain ⟨q5, q6⟩ := wipeD_some (x := .own d) (fun z => nomatch z) q3
      rw [wipe_out q2, putV_out (by rw [rv.ix]; exact q4), wipe_out q6] at e
      exact own0 i d q5 e
    have no0 : ∀ (i : Nat) (d : DL.D), (wipeD ρ vs)[i]? = some (.own d) → (wipe σ vs)[i]? ≠ some (some (.ref D)) := fun i d h e => by
      obtain ⟨q5, q6⟩ := wipeD_some (x := .own d) (fun z => nomatch z) h
      rw [wipe_out q6] at e
      exact own0 i d q5 e
    refine ⟨fun j m H => m = ds2.length - j ∧ j ≤ ds2.length ∧ ∃ acc S rest2, CompS (kw X) as O σ H1 D vs ρ H acc S ∧ CompS (kw X) as O (putV (wipe σ vs) vl) H4 D vs1 (putD (wipeD ρ vs) l) H acc S ∧ compL p2 fc2 f (wipeD (putD (wipeD ρ vs) l) vs1) (ds2.drop j) S = some (rest2, S5) ∧ acc ++ (rest2 ++ u) = ys,
      ⟨ds2.length, rfl, Nat.zero_le _, acc, S4, t, C4, ⟨R4.wipe vs1, C4.lst, fun a u _ _ e => e⟩, h5, hr⟩, ?_⟩
    rintro j m H5 ⟨rfl, hj, acc1, Sy, rest2, Co, Ci, hc1, hr1⟩
    have kp1 : Kp (ad O D) H4 H5 := fun a u n e => Ci.kept a u (fun m => n (.inl (R1.wf.sub a m))) (fun z => n (.inr z)) e
    obtain ⟨wstop1, wgo1⟩ := wk1 j H5 kp1
    by_cases hlt1 : j < ds2.length
    · rw [List.drop_eq_getElem_cons hlt1] at hc1
      unfold compL at hc1
      obtain ⟨l1, hb1, hc1⟩ := Option.bind_eq_some_iff.mp hc1
      obtain ⟨⟨b1, S7⟩, hb3, hc1⟩ := Option.bind_eq_some_iff.mp hc1
      obtain ⟨go1, yld1⟩ := wgo1 ds2[j] (List.getElem?_eq_getElem hlt1)
      refine .inr ⟨go1, fun H' => ∃ acc S rest2, CompS (kw X) as O σ H1 D vs ρ H' acc S ∧ CompS (kw X) as O (putV (wipe σ vs) vl) H4 D vs1 (putD (wipeD ρ vs) l) H' acc S ∧ compL p2 fc2 f (wipeD (putD (wipeD ρ vs) l) vs1) (ds2.drop (j + 1)) S = some (rest2, S5) ∧ acc ++ (rest2 ++ u) = ys,
        fun H' h' => ⟨ds2.length - (j + 1), by omega, rfl, hlt1, h'⟩, fun x1 H6 y1 => ?_⟩
      obtain ⟨sm1, rx1⟩ := yld1 x1 H6 y1
      have Co2 := Co.step hDas (Same.stp sm1) (Co.rel.cells.same Co.rel.wf sm1)
      have Ci2 := Ci.step hDas (Same.stp sm1) (Ci.rel.cells.same Ci.rel.wf sm1)
      have rx3 : Rp (kw X) as (ad O D) H6 x1 ds2[j] := Rp.anti (fun a o => .inl o) _ _ rx1
      refine ⟨as, _, ds2[j], l1, rx3, hb1, fun vl1 rv1 => ⟨?_, ?_⟩⟩
      · rw [wipe_put, wipe_idem]
        rw [rv1.ix, binds_ix _ _ _ hb1]
        intro j hj
        exact of_decide_eq_true (List.all_eq_true.mp hv1 j hj)
      have R5 := Ci2.rel.put rv1
      refine ⟨as, _, _, Sy, b1, S7, R5, hb3, fun H7 s7 c7 => ?_⟩
      have Co3 := Co2.step hDas s7 c7
      have Ci3 := Ci2.step hDas s7 c7
      cases b1 with
      | false => exact ⟨acc1, S7, rest2, Co3, Ci3, hc1, hr1⟩
      | true =>
        obtain ⟨⟨d, S8⟩, h8, hc1⟩ := Option.bind_eq_some_iff.mp hc1
        obtain ⟨⟨t9, S9⟩, h9, hc1⟩ := Option.bind_eq_some_iff.mp hc1
        cases hc1
        refine ⟨as, _, _, S7, d, S8, R5.step s7 c7, h8, fun y H8 s8 c8 ry => ?_⟩
        have Co4 := Co3.step hDas s8 c8
        have Ci4 := Ci3.step hDas s8 c8
        obtain ⟨xs, hx, rx⟩ := Co4.lst
        have hlen : xs.length = acc1.length := Rp.length rx
        refine ⟨xs, hx, ?_, acc1 ++ [d], S8, t9, Co4.push' hDas no0 hx rx ry, Ci4.push' hDas no1 hx rx ry, h9, ?_⟩
        · have q : ys.length ≤ 16777216 := hl
          rw [← hr1] at q
          simp only [List.length_append, List.length_cons] at q
          rw [hlen, sizeLine_16]
          omega
        · rw [← hr1, List.append_assoc]
          rfl
    · have e : j = ds2.length := by omega
      subst e
      rw [List.drop_length] at hc1
      unfold compL at hc1
      cases hc1
      exact .inl ⟨wstop1 rfl, acc1, _, _, Co, h6, hr1⟩
  · have e : i = ds.length := by omega
    subst e
    rw [List.drop_length] at hc
    unfold compL2 at hc
    cases hc
    obtain ⟨xs, hx, rx⟩ := C.lst
    refine .inl ⟨wstop rfl, k D H hD0 (s1.trans fun a u n e => ?_) C.rel.cells (.lst hx (by rw [← hr, List.append_nil]; exact rx))⟩
    exact C.kept a u n (fun z => by rw [z, hD] at e; cases e) e
section
variable {tg iter tg1 iter1 elt : Expr} {ifs ifs1 : List Expr} {scope : Scope} {own : List (Str × Nat)} {vs vs1 : List Nat}
theorem mf_comp2 (hc : X.calm = true) (hN : X.N.Nodup) (hi : PI X tg iter (tOfI (kw X) it)) (ok : BlkOk X.N X.env.scope scope own) (hv0 : ∀ i ∈ vs1, i ∈ own.map (·.2))
    (hg : ∀ (s : Shared) (H : Hp) (C : Addr) (cl : List (Str × Addr)) (fp : List Addr), PG (X.blk s H scope (compEnvC scope cl C X.env) fp) tg (gOf (kw X) p))
    (ht : ∀ (s : Shared) (H : Hp) (C : Addr) (cl : List (Str × Addr)) (fp : List Addr), PTs (X.blk s H scope (compEnvC scope cl C X.env) fp) ifs (tOfT (kw X) fc))
    (hi1 : ∀ (s : Shared) (H : Hp) (C : Addr) (cl : List (Str × Addr)) (fp : List Addr), PI (X.blk s H scope (compEnvC scope cl C X.env) fp) tg1 iter1 (tOfI (kw X) it2))
    (hg1 : ∀ (s : Shared) (H : Hp) (C : Addr) (cl : List (Str × Addr)) (fp : List Addr), PG (X.blk s H scope (compEnvC scope cl C X.env) fp) tg1 (gOf (kw X) p2))
    (ht1 : ∀ (s : Shared) (H : Hp) (C : Addr) (cl : List (Str × Addr)) (fp : List Addr), PTs (X.blk s H scope (compEnvC scope cl C X.env) fp) ifs1 (tOfT (kw X) fc2))
    (he : ∀ (s : Shared) (H : Hp) (C : Addr) (cl : List (Str × Addr)) (fp : List Addr), PE (X.blk s H scope (compEnvC scope cl C X.env) fp) elt (tOf (kw X) f))
    (ev : own.map (·.2) = vs := by rfl) (hv : p.ixs.all (fun i => decide (i ∈ vs)) = true := by rfl) (hv1 : p2.ixs.all (fun i => decide (i ∈ vs1)) = true := by rfl) (hs : ∀ x, foldedSetIterable iter X.env x = pure x := by intro _; rfl) (hs1 : ∀ env x, foldedSetIterable iter1 env x = pure x := by intro _ _; rfl) :
    PE X (.ListComp elt [⟨tg, iter, ifs, 0⟩, ⟨tg1, iter1, ifs1, 0⟩] scope pos) (tOfF (kw X) (eComp2 p it fc it2 p2 fc2 f vs vs1)) :=
  (pe_lc2 hc hN hi ok hv0 hg ht hi1 hg1 ht1 he hs hs1).weak fun σ H Q h => by
    rw [ev]
    exact comp2_weak hv hv1 h
theorem ms_setC2 {i : Nat} {y : Str} {py spos : Pos} (hc : X.calm = true) (hN : X.N.Nodup) (hy : X.N[i]? = some y) (hyl : X.env.scope.names.lookup y = some .local)
    (hsw : swapsWith (.ListComp elt [⟨tg, iter, ifs, 0⟩, ⟨tg1, iter1, ifs1, 0⟩] scope pos) (some (.Name y py)) spos.line X.env = pure true) (hi : PI X tg iter (tOfI (kw X) it)) (ok : BlkOk X.N X.env.scope scope own) (hv0 : ∀ i ∈ vs1, i ∈ own.map (·.2))
    (hg : ∀ (s : Shared) (H : Hp) (C : Addr) (cl : List (Str × Addr)) (fp : List Addr), PG (X.blk s H scope (compEnvC scope cl C X.env) fp) tg (gOf (kw X) p))
    (ht : ∀ (s : Shared) (H : Hp) (C : Addr) (cl : List (Str × Addr)) (fp : List Addr), PTs (X.blk s H scope (compEnvC scope cl C X.env) fp) ifs (tOfT (kw X) fc))
    (hi1 : ∀ (s : Shared) (H : Hp) (C : Addr) (cl : List (Str × Addr)) (fp : List Addr), PI (X.blk s H scope (compEnvC scope cl C X.env) fp) tg1 iter1 (tOfI (kw X) it2))
    (hg1 : ∀ (s : Shared) (H : Hp) (C : Addr) (cl : List (Str × Addr)) (fp : List Addr), PG (X.blk s H scope (compEnvC scope cl C X.env) fp) tg1 (gOf (kw X) p2))
    (ht1 : ∀ (s : Shared) (H : Hp) (C : Addr) (cl : List (Str × Addr)) (fp : List Addr), PTs (X.blk s H scope (compEnvC scope cl C X.env) fp) ifs1 (tOfT (kw X) fc2))
    (he : ∀ (s : Shared) (H : Hp) (C : Addr) (cl : List (Str × Addr)) (fp : List Addr), PE (X.blk s H scope (compEnvC scope cl C X.env) fp) elt (tOf (kw X) f))
    (ev : own.map (·.2) = vs := by rfl) (hv : p.ixs.all (fun i => decide (i ∈ vs)) = true := by rfl) (hv1 : p2.ixs.all (fun i => decide (i ∈ vs1)) = true := by rfl) (hs : ∀ x, foldedSetIterable iter X.env x = pure x := by intro _; rfl) (hs1 : ∀ env x, foldedSetIterable iter1 env x = pure x := by intro _ _; rfl) :
    PS X (.Assign [.Name y py] (.ListComp elt [⟨tg, iter, ifs, 0⟩, ⟨tg1, iter1, ifs1, 0⟩] scope pos) spos) (tOfS fr (kw X) (sSet i (eComp2 p it fc it2 p2 fc2 f vs vs1))) :=
  (ps_setLc2 hc hN hy hyl hsw hi ok hv0 hg ht hi1 hg1 ht1 he hs hs1).weak fun D σ H h => by
    rw [ev]
    obtain ⟨as, O, B, G, ρ, S, o, R, hf, k⟩ := h
    unfold sSet at hf
    obtain ⟨⟨d1, S1⟩, h1, hf⟩ := Option.bind_eq_some_iff.mp hf
    cases hf
    refine comp2_weak hv hv1 ⟨as, _, ρ, S, d1, S1, R.e, h1, fun q H1 n s1 c1 r1 => ?_⟩
    exact k _ _ ((R.step s1 (c1.anti ad_sub)).set i (r1.val (R.wf.nel n) ad_sub))
end
end
theorem ev_Comp2 {p : Pat} {it : Ea} {c : Et} {it2 : Ea} {p2 : Pat} {c2 : Et} {f : Ev} {vs vs1 : List Nat} {ρ : List Slot} {S : List D} : eComp2 p it c it2 p2 c2 f vs vs1 ρ S = (it ρ S).bind fun q => (compL2 p c it2 p2 c2 f vs1 (wipeD ρ vs) q.1 q.2).bind fun t => if t.1.length ≤ 16777216 then some (.lst t.1, t.2) else none := (rfl)
end DL
namespace DL
open PySem PySem.Spec PyProof.Rows L2
open PySem.W (EachIs alike dataLt sortLe SortsAt)
def tupC : D → Bool
  | .tup (_ :: _) => true
  | _ => false
def flatC : D → Bool
  | .bl _ => true
  | .int _ => true
  | .str _ => true
  | .lst _ => true
  | _ => false
def sortOk (xs : List D) : Bool := okL 60 xs && xs.all (fun a => xs.all fun b => alike (py a) (py b)) && (xs.all tupC || xs.all flatC)
def leD (a b : D) : Bool := !(dataLt (py b) (py a))
def sortD : D → Option (List D)
  | .lst xs => if sortOk xs = true then some (xs.mergeSort leD) else none
  | _ => none
theorem okL_mem {n : Nat} : ∀ {xs : List D}, okL n xs = true → ∀ x ∈ xs, okD n x = true
  | y :: ys, h, x, hx => by
    have q : okD n y = true ∧ okL n ys = true := by simpa [okL] using h
    rcases List.mem_cons.mp hx with rfl | hx
    · exact q.1
    · exact okL_mem q.2 x hx
theorem sortable_of {xs : List D} (h : (xs.all tupC || xs.all flatC) = true) : PySem.W.Sortable (xs.map py) := by
  rw [Bool.or_eq_true] at h
  rcases h with h | h
  · refine .inl fun d hd => ?_
    obtain ⟨x, hx, rfl⟩ := List.mem_map.mp hd
    have q := List.all_eq_true.mp h x hx
    cases x with
    | tup ys =>
      cases ys with
      | nil => cases q
      | cons y ys => exact ⟨py y, pyL ys, by simp only [py, pyL]⟩
    | _ => cases q
  · refine .inr fun d hd => ?_
    obtain ⟨x, hx, rfl⟩ := List.mem_map.mp hd
    have q := List.all_eq_true.mp h x hx
    cases x with
    | bl _ => exact ⟨fun z => (by simp only [py] at z; cases z), fun ys z => (by simp only [py] at z; cases z)⟩
    | int _ => exact ⟨fun z => (by simp only [py] at z; cases z), fun ys z => (by simp only [py] at z; cases z)⟩
    | str _ => exact ⟨fun z => (by simp only [py] at z; cases z), fun ys z => (by simp only [py] at z; cases z)⟩
    | lst _ => exact ⟨fun z => (by simp only [py] at z; cases z), fun ys z => (by simp only [py] at z; cases z)⟩
    | _ => cases q
theorem rp_sel {K : KW} {as : List Addr} {O : Addr → Prop} {H : Hp} : ∀ {l : List (V × D)}, (∀ p ∈ l, Rp K as O H p.1 p.2) → RpL K as O H (l.map (·.1)) (l.map (·.2))
  | [], _ => .nil
  | p :: l, h => .cons (h p List.mem_cons_self) (rp_sel fun q hq => h q (List.mem_cons_of_mem _ hq))
theorem rp_zip {K : KW} {as : List Addr} {O : Addr → Prop} {H : Hp} : ∀ {vs : List V} {ds : List D}, RpL K as O H vs ds → (∀ p ∈ vs.zip ds, Rp K as O H p.1 p.2) ∧ (vs.zip ds).map (·.1) = vs ∧ (vs.zip ds).map (·.2) = ds
  | _, _, .nil => ⟨fun _ h => (nomatch h), rfl, rfl⟩
  | _, _, .cons r t => by
    obtain ⟨a, b, c⟩ := rp_zip t
    refine ⟨fun p hp => ?_, ?_, ?_⟩
    · rw [List.zip_cons_cons] at hp
      rcases List.mem_cons.mp hp with rfl | hp
      · exact r
      · exact a p hp
    · rw [List.zip_cons_cons, List.map_cons, b]
    · rw [List.zip_cons_cons, List.map_cons, c]
theorem vals_each {us : List Value} {l : List (V × D)} (h : Vals (l.map (·.1)) us) : EachIs (fun u p => RelV p.1 u) us l := by
  induction l generalizing us with
  | nil => cases h; exact .nil
  | cons p l ih => cases h with
    | cons a b => exact .cons a (ih b)
theorem each_vals {us : List Value} {l : List (V × D)} (h : EachIs (fun u p => RelV p.1 u) us l) : Vals (l.map (·.1)) us := by
  induction h with
  | nil => exact .nil
  | cons a _ ih => exact .cons a ih
section
variable {X : Cx}
theorem cd_sortD (hu : X.A.units + 65 < cLine) : CallR X (.builtin "sorted") (rF1 (kw X) sortD) := by
  intro pins s σ H xs us Q I r q
  obtain ⟨as, O, d, rr, x, rfl, w, rd, hg, k⟩ := q
  unfold sortD at hg
  split at hg
  · rename_i xs
    split at hg
    · rename_i hs
      cases hg
      unfold sortOk at hs
      rw [Bool.and_eq_true, Bool.and_eq_true] at hs
      obtain ⟨⟨hok, hal⟩, hsh⟩ := hs
      obtain ⟨a, vs, rfl, h, t⟩ := rd.lst
      obtain ⟨its, rv, hl, hz⟩ := I.list (.inl (.inl h))
      obtain ⟨u, rfl, ru⟩ := vals1 r
      obtain rfl : u = Value.ref a := ru
      obtain ⟨z1, z2, z3⟩ := rp_zip t
      have e1 : EachIs (fun u p => RelV p.1 u) its (vs.zip xs) := vals_each (by rw [z2]; exact rv)
      have lz : (vs.zip xs).length = vs.length := by rw [← List.length_map (f := fun p : V × D => p.1), z2]
      have er : EachIs (fun u p => ∃ as, Reads s.heap u (py p.2) as) its (vs.zip xs) := (PySem.W.each_mem e1).mono fun u p hp => by
        have m2 : p.2 ∈ xs := by rw [← z3]; exact List.mem_map.mpr ⟨p, hp.2, rfl⟩
        exact Dp.reads I (py p.2) p.1 u (Rp.dp 60 _ _ (okL_mem hok _ m2) (z1 p hp.2)) hp.1
      have em : (vs.zip xs).map (fun p => py p.2) = xs.map py := by
        have q := congrArg (List.map py) z3
        rw [List.map_map] at q
        exact q
      refine PySem.W.sorted_data (enc := fun p : V × D => py p.2) hl.isList e1 er ?_ ?_ (by rw [lz]; exact hz) (fun p hp => ?_) fun out ho hb => ?_
      · rw [em]
        intro d hd d' hd'
        obtain ⟨x, hx, rfl⟩ := List.mem_map.mp hd
        obtain ⟨y, hy, rfl⟩ := List.mem_map.mp hd'
        exact List.all_eq_true.mp (List.all_eq_true.mp hal x hx) y hy
      · rw [em]; exact sortable_of hsh
      · have m2 : p.2 ∈ xs := by rw [← z3]; exact List.mem_map.mpr ⟨p, hp, rfl⟩
        have := (ok_lay 60 p.2 (okL_mem hok _ m2)).2
        show X.A.units + 2 + (py p.2).depth < cLine
        omega
      · have hp : H (s.heap.objs.size + 1) = none := I.hok.fresh (Nat.le_succ _)
        have e2 : (((vs.zip xs).mergeSort (PySem.W.dataLe false fun p : V × D => py p.2)).map (·.2)) = xs.mergeSort leD := by
          rw [List.map_mergeSort (s := leD) (f := fun p : V × D => p.2), z3]
          intro a _ b _
          rfl
        have rp : RpL (kw X) as O H (((vs.zip xs).mergeSort (PySem.W.dataLe false fun p : V × D => py p.2)).map (·.1)) (xs.mergeSort leD) := by
          rw [← e2]
          exact rp_sel fun p hp => z1 p ((List.mergeSort_perm _ _).mem_iff.mp hp)
        obtain ⟨n, hn⟩ := sortedAll_at s.heap its (List.toArray out)
        refine ⟨.ref (s.heap.objs.size + 1), upd H (s.heap.objs.size + 1) (.lst (((vs.zip xs).mergeSort (PySem.W.dataLe false fun p : V × D => py p.2)).map (·.1))), I.laid (t' := s.toks) (fun b o e => sortedAll_old e) (Nat.le_succ _) ⟨?_, out, n, each_vals hb, hn⟩, rfl, k _ _ rp hp⟩
        rw [List.length_map, (List.mergeSort_perm _ _).length_eq, lz]
        exact hz
    · cases hg
  · cases hg
end
end DL
namespace DL
open PySem PySem.Spec PyProof.Rows L2
def ddI : List Int → List Int
  | [] => []
  | x :: xs => if x ∈ xs then ddI xs else x :: ddI xs
theorem mem_ddI : ∀ {xs : List Int} {k : Int}, k ∈ ddI xs ↔ k ∈ xs
  | [], k => Iff.rfl
  | x :: xs, k => by
    unfold ddI
    split
    · rw [mem_ddI, List.mem_cons]
      constructor
      · exact .inr
      · rintro (rfl | h)
        · assumption
        · exact h
    · rw [List.mem_cons, List.mem_cons, mem_ddI]
theorem nodup_ddI : ∀ (xs : List Int), (ddI xs).Nodup
  | [] => List.nodup_nil
  | x :: xs => by
    unfold ddI
    split
    · exact nodup_ddI xs
    · rw [List.nodup_cons]
      exact ⟨fun h => ‹¬ x ∈ xs› (mem_ddI.mp h), nodup_ddI xs⟩
def sortSet : D → Option (List D)
  | .lst xs => (intsD xs).bind fun is => if (ddI is).length < 64 ∧ is.length < 4095 then some (((ddI is).mergeSort (· ≤ ·)).map .int) else none
  | _ => none
theorem asc_one {a b : List Int} (h : ∀ k, k ∈ a ↔ k ∈ b) (p : a.Pairwise (· < ·)) (hb : b.Nodup) : a = b.mergeSort (· ≤ ·) := by
  have na : a.Nodup := p.imp fun h => by omega
  exact sort_one ((List.perm_ext_iff_of_nodup na hb).mpr h) (p.imp fun h => by omega)
section
variable {X : Cx} {pos p1 p2 q : Pos} {a : Expr} {fa : Ev}
def rSetL (K : KW) (w : World) : List V → Hp → VK → Prop := fun xs H Q => ∃ (a : Addr) (ns : List Int), xs = [.ref a] ∧ SqL K H a (ns.map V.int) ∧ ns.length + 1 < scanBound ∧ ∀ p, H p = none → Q (.ref p) (upd H p (SetO w p (fun j => decide (j ∈ ns)) (ddI ns).length))
theorem setR_card {w : World} {h : Heap} {a : Addr} {ns : List Int} {c : Nat} (R : SetR w h a (fun j => decide (j ∈ ns)) c) : c = (ddI ns).length := by
  obtain ⟨o, es, ep, t, h1, h2, h3, h4, h5, h6, h7, h8, h9, h10⟩ := R
  have q : (es.toList.map keyOf).Perm (ddI ns) := (List.perm_ext_iff_of_nodup h5 (nodup_ddI ns)).mpr fun k => by
    rw [mem_ddI, ← h6 k, decide_eq_true_eq]
  have := q.length_eq
  rw [List.length_map, Array.length_toList] at this
  omega
theorem cr_setL (hc : X.calm = true) : CallR X (.type "set") (rSetL (kw X) X.w) := by
  intro pins s σ H xs us Q I r h
  obtain ⟨a, ns, rfl, hs, few, k⟩ := h
  obtain ⟨its, rv, hl, hz⟩ := I.list hs
  rw [Vals.ref1 r]
  have hi : IntsAre its.toArray.toList ns := intsAre_of rv
  refine set_of_ints ns (I.ok.hd hc) hl.isList hi few fun z hz => ?_
  obtain ⟨h', tk, c, rfl, R, hc', kp⟩ := hz
  have e := setR_card R
  have hn : H s.heap.objs.size = none := I.hok.fresh (Nat.le_refl _)
  refine ⟨.ref s.heap.objs.size, upd H s.heap.objs.size (SetO X.w s.heap.objs.size (fun j => decide (j ∈ ns)) (ddI ns).length), I.laid (t' := tk) kp (Nat.le_refl _) (setO_new (by rw [← e]; exact R)), rfl, k _ hn⟩
theorem mf_sortSet (hc : X.calm = true) (hg : Gl X "sorted") (hm : X.mg "sorted" = none) (hg2 : Gl X "set") (hm2 : X.mg "set" = none) (ha : PE X a (tOfB (kw X) fa))
    (he : starEach [a] X.env = (false, eval a X.env) :: starEach [] X.env := by rfl) (he2 : starEach [Expr.Call (.Name "set" p2) [a] [] q] X.env = (false, eval (Expr.Call (.Name "set" p2) [a] [] q) X.env) :: starEach [] X.env := by rfl) :
    PE X (.Call (.Name "sorted" p1) [.Call (.Name "set" p2) [a] [] q] [] pos) (tOfF (kw X) (eUnF sortSet fa)) :=
  (pe_callB (cr_sortedSet hc) hg hm boot_sorted (pa_cons (pe_callTy (cr_setL hc) hg2 hm2 boot_set (pa_cons ha pa_nil he) (by decide) (by decide) he rfl) pa_nil he2) (by decide) (by decide) he2 rfl).weak fun σ H Q h => by
    obtain ⟨as, O, ρ, S, d, S', R, hf, k⟩ := h
    unfold eUnF at hf
    obtain ⟨⟨d1, S1⟩, h1, hf⟩ := Option.bind_eq_some_iff.mp hf
    obtain ⟨r, h3, hf⟩ := Option.bind_eq_some_iff.mp hf
    cases hf
    refine ⟨as, O, ρ, S, d1, S1, R, h1, fun v H1 s1 c1 r1 => ?_⟩
    have R1 := R.step s1 c1
    unfold sortSet at h3
    split at h3
    · rename_i xs e
      have e : d1 = .lst xs := e
      subst e
      obtain ⟨is, h4, h3⟩ := Option.bind_eq_some_iff.mp h3
      split at h3
      · rename_i hlen
        cases h3
        obtain ⟨a1, vs, rfl, h5, t⟩ := RpB.lst r1
        have ev := rp_intsD t h4
        subst ev
        refine ⟨a1, is, rfl, .inl (.inl h5), by show is.length + 1 < 4096; omega, fun p hp => ?_⟩
        refine ⟨p, _, _, rfl, upd_same, hlen.1, fun ns p' asc mem ln hp' => ?_⟩
        have ens : ns = (ddI is).mergeSort (· ≤ ·) := asc_one (fun k => by rw [mem k, mem_ddI, decide_eq_true_eq]) asc (nodup_ddI is)
        subst ens
        have s2 := same_new (o := SetO X.w p (fun j => decide (j ∈ is)) (ddI is).length) hp
        have R2 := R1.step (Same.stp s2) (R1.cells.same R1.wf s2)
        have c2 := R2.cells
        have q := new_cells (o := .lst (((ddI is).mergeSort (· ≤ ·)).map V.int)) R2.wf c2 hp'
        have s12 := s1.trans (Same.stp s2)
        exact k p' _ (R.free s12 c2 hp') (s12.trans (Same.stp (same_new hp'))) q.1 (.lst upd_same (q.2 _ _ (rp_ints _)))
      · cases h3
    · cases h3
end
end DL
namespace DL
open PySem PySem.Spec PyProof.Rows L2
section
variable {K : KW} {as : List Addr} {O O' : Addr → Prop} {H : Hp}
mutual
theorem Rp.bare : ∀ (n : Nat) (v : V) (d : D), okD n d = true → Rp K as O H v d → Rp K [] (fun _ => False) H v d
  | _, _, .non, _, .non => .non
  | _, _, .bl b, _, .bl _ => .bl b
  | _, _, .int i, _, .int _ => .int i
  | _, _, .str x, _, .str _ => .str x
  | _, _, .obj _, h, _ => by simp [okD] at h
  | _, _, .scr _, h, _ => by simp [okD] at h
  | _, _, .dct _, h, _ => by simp [okD] at h
  | 0, _, .tup _, h, _ => by simp [okD] at h
  | 0, _, .lst _, h, _ => by simp [okD] at h
  | n + 1, _, .tup xs, h, .tup q r => .tup q (RpL.bare n _ _ (by simpa [okD] using h) r)
  | n + 1, _, .lst xs, h, .lst _ q r => .lst (fun z => z) q (RpL.bare n _ _ (by simpa [okD] using h) r)
theorem RpL.bare : ∀ (n : Nat) (vs : List V) (ds : List D), okL n ds = true → RpL K as O H vs ds → RpL K [] (fun _ => False) H vs ds
  | _, _, [], _, .nil => .nil
  | n, _, d :: ds, h, .cons r t => by
    have q : okD n d = true ∧ okL n ds = true := by simpa [okL] using h
    exact .cons (Rp.bare n _ _ q.1 r) (RpL.bare n _ _ q.2 t)
end
theorem RpB.bare {n : Nat} {v : V} {d : D} (h : okD n d = true) (r : RpB K as O H v d) : Rp K [] (fun _ => False) H v d := by
  rcases r with r | ⟨a, e, _, c⟩
  · exact Rp.bare n _ _ h r
  · subst e
    cases c with
    | lst hh t =>
      cases n with
      | zero => simp [okD] at h
      | succ n => exact .lst (fun z => z) hh (RpL.bare n _ _ (by simpa [okD] using h) t)
    | dct _ _ _ _ _ => simp [okD] at h
inductive RpBL (K : KW) (as : List Addr) (O : Addr → Prop) (H : Hp) : List V → List D → Prop
  | nil : RpBL K as O H [] []
  | cons {v : V} {vs : List V} {d : D} {ds : List D} : RpB K as O H v d → RpBL K as O H vs ds → RpBL K as O H (v :: vs) (d :: ds)
theorem RpBL.stp {H' : Hp} (w : Wf as O H) (s : Stp as H H') : ∀ {vs : List V} {ds : List D}, RpBL K as O H vs ds → RpBL K as O H' vs ds
  | _, _, .nil => .nil
  | _, _, .cons r t => .cons (r.stp w s) (RpBL.stp w s t)
theorem RpBL.bare {n : Nat} : ∀ {vs : List V} {ds : List D}, okL n ds = true → RpBL K as O H vs ds → RpL K [] (fun _ => False) H vs ds
  | _, _, _, .nil => .nil
  | _, _ :: _, h, .cons r t => by
    rw [okL, Bool.and_eq_true] at h
    exact .cons (r.bare h.1) (RpBL.bare h.2 t)
theorem RpBL.len : ∀ {vs : List V} {ds : List D}, RpBL K as O H vs ds → vs.length = ds.length
  | _, _, .nil => rfl
  | _, _, .cons _ t => congrArg (· + 1) (RpBL.len t)
end
def tOfAB (K : KW) (f : Ea) : TA := fun σ H Q => ∃ as O ρ S ds S', RelE K as O σ H ρ S ∧ f ρ S = some (ds, S') ∧
  ∀ vs H', Stp as H H' → Cells K as O H' S' → RpBL K as O H' vs ds → Q vs H'
def flatD : D → Bool
  | .non => true
  | .bl _ => true
  | .int _ => true
  | .str _ => true
  | _ => false
theorem rp_flat {K : KW} {as as' : List Addr} {O O' : Addr → Prop} {H H' : Hp} {v : V} {d : D} (h : flatD d = true) (r : Rp K as O H v d) : Rp K as' O' H' v d := by
  cases r with
  | non => exact .non
  | bl b => exact .bl b
  | int b => exact .int b
  | str b => exact .str b
  | _ => cases h
def eCallP (n : Nat) (m : List D → List D → Option (D × List D)) (fs : Ea) : Ev := fun ρ S => (fs ρ S).bind fun q => if q.1.length = n ∧ okL 60 q.1 = true then (m q.1 []).bind fun r => if flatD r.1 = true then some (r.1, q.2) else none else none
section
variable {X : Cx} {pos pp : Pos} {e a b c : Expr} {es : List Expr} {f fa fb fz : Ev} {fs : Ea} {fr : Bool}
theorem mab_nil : PA X [] (tOfAB (kw X) aN) := pa_nil.weak fun σ H Q q => by
  obtain ⟨as, O, ρ, S, d, S', R, hf, k⟩ := q
  cases hf
  exact k [] H Stp.refl R.cells .nil
theorem mab_cons (ha : PE X e (tOfB (kw X) f)) (hs : PA X es (tOfAB (kw X) fs)) (he : starEach (e :: es) X.env = (false, eval e X.env) :: starEach es X.env := by rfl) : PA X (e :: es) (tOfAB (kw X) (aC f fs)) := (pa_cons ha hs he).weak fun σ H Q q => by
  obtain ⟨as, O, ρ, S, d, S', R, hf, k⟩ := q
  unfold aC at hf
  obtain ⟨⟨d1, S1⟩, h1, hf⟩ := Option.bind_eq_some_iff.mp hf
  obtain ⟨⟨d2, S2⟩, h2, hf⟩ := Option.bind_eq_some_iff.mp hf
  cases hf
  refine ⟨as, O, ρ, S, d1, S1, R, h1, fun v H1 s1 c1 r1 => ?_⟩
  have R1 := R.step s1 c1
  exact ⟨as, O, ρ, S1, d2, S2, R1, h2, fun vs H2 s2 c2 r2 => k _ H2 (s1.trans s2) c2 (.cons (r1.stp R1.wf s2) r2)⟩
theorem me_callP {k : Nat} {x : Str} {fad : Addr} {fd : FuncData} {ps : List Str} {m : List D → List D → Option (D × List D)} (F : FnM X.prog X.w X.K X.mg X.base k x fad fd ps fr m) (hr : Room k X.A) (hg : Gl X x) (ha : PA X (e :: es) (tOfAB (kw X) fs))
    (hdb : (x == ("__debug__" : Str)) = false := by decide) (he : starEach (e :: es) X.env = (false, eval e X.env) :: starEach es X.env := by rfl) (hpl : (backTo pos (starEach es X.env)).any (·.1) = false := by rfl) {n : Nat} (hn : ps.length = n := by rfl) :
    PE X (.Call (.Name x pp) (e :: es) [] pos) (tOf (kw X) (eCallP n m fs)) :=
  (pe_call F.ok hr hg F.mg F.kp F.bd .nil pass0 ha hdb he hpl).weak fun σ H Q q => by
    subst hn
    obtain ⟨as, O, ρ, S, d, S', R, hf, kk⟩ := q
    unfold eCallP at hf
    obtain ⟨⟨ds, S1⟩, h1, hf⟩ := Option.bind_eq_some_iff.mp hf
    split at hf
    · rename_i hl
      obtain ⟨⟨r, S2⟩, h2, hf⟩ := Option.bind_eq_some_iff.mp hf
      split at hf
      · rename_i hfl
        cases hf
        refine ⟨as, O, ρ, S, ds, _, R, h1, fun vs H1 s1 c1 r1 => ?_⟩
        have R1 := R.step s1 c1
        show spM _ (kw X) ps.length m (vs ++ []) H1 Q E0
        rw [List.append_nil]
        refine ⟨r1.len.trans hl.1, [], fun _ => False, ds, [], r, S2, ⟨fun _ h => (nomatch h), fun _ h => h.elim, List.nodup_nil⟩, ⟨rfl, fun i a d e1 e2 => by cases e2⟩, r1.bare hl.2, h2, fun v H' s c r _ => ?_⟩
        have sm : Same H1 H' := fun a u h => s a u (fun m => nomatch m) h
        exact kk v H' (s1.trans (Same.stp sm)) (c1.same R1.wf sm) (rp_flat hfl r)
      · cases hf
    · cases hf
def sParO (i j : Nat) (fa fb : Ev) : Sv := fun ρ S => (fa ρ S).bind fun p => (fb ρ p.2).bind fun q => if i < ρ.length ∧ i ≠ j then some (.nx ((ρ.set j (.val q.1)).set i (.own p.1)) q.2) else none
theorem RelE.beside {K : KW} {as : List Addr} {O : Addr → Prop} {σ : L2.St} {H H' : Hp} {ρ : List Slot} {S S' : List D} {p : Addr} {d : D} (R : RelE K as O σ H ρ S) (hp : H p = none) (s : Stp as H H') (c : Cells K as (ad O p) H' S') (q : CellR K as (ad O p) H' p d) : RelE K as (ad O p) σ H' ρ S' := by
  have kk : Kp (ad O p) H H' := fun a u n e => s a u (fun m => n (.inl (R.wf.sub a m))) e
  have m1 : ∀ a, ad O p a → Nt (H a) := fun a o => by
    rcases o with o | o
    · exact R.wf.nt a o
    · rw [o, hp]; exact nt_none
  have w1 := R.wf.step s (c.anti ad_sub)
  refine ⟨⟨fun a m => .inl (R.wf.sub a m), fun a o => ?_, R.wf.nd⟩, c, R.len, fun i d h => ?_, fun i d h => ?_⟩
  · rcases o with o | o
    · exact w1.mt a o
    · rw [o]; exact q.mt
  · obtain ⟨v, h2, r⟩ := R.val i d h
    exact ⟨v, h2, Rp.kp m1 kk _ _ (Rp.ad hp _ _ r)⟩
  · obtain ⟨a, h2, n, cc⟩ := R.own i d h
    refine ⟨a, h2, n, ?_⟩
    cases cc with
    | lst hh r => exact .lst (s a _ n hh) (RpL.kp m1 kk _ _ (RpL.ad hp _ _ r))
    | dct hh r t9 e9 k9 => exact .dct (s a _ n hh) (RpL.kp m1 kk _ _ (RpL.ad hp _ _ r)) (RpL.kp m1 kk _ _ (RpL.ad hp _ _ t9)) e9 k9
def tOfPF (K : KW) (fa fb : Ev) : TA := fun σ H Q => ∃ as O ρ S d1 S1 d2 S2, RelE K as O σ H ρ S ∧ fa ρ S = some (d1, S1) ∧ fb ρ S1 = some (d2, S2) ∧
  ∀ p v H', H p = none → Stp as H H' → Cells K as (ad O p) H' S2 → CellR K as (ad O p) H' p d1 → Rp K as (ad O p) H' v d2 → Q [.ref p, v] H'
theorem mpf (ha : PE X a (tOfF (kw X) fa)) (hb : PE X b (tOf (kw X) fb)) (s1 : starEach [a, b] X.env = (false, eval a X.env) :: starEach [b] X.env) (s2 : starEach [b] X.env = (false, eval b X.env) :: starEach [] X.env) : PA X [a, b] (tOfPF (kw X) fa fb) :=
  (pa_cons ha (pa_cons hb pa_nil s2) s1).weak fun σ H Q q => by
    obtain ⟨as, O, ρ, S, d1, S1, d2, S2, R, h1, h2, k⟩ := q
    refine ⟨as, O, ρ, S, d1, S1, R, h1, fun p H1 n t1 c1 q1 => ?_⟩
    have R1 := R.beside n t1 c1 q1
    refine ⟨as, ad O p, ρ, S1, d2, S2, R1, h2, fun v H2 t2 c2 r2 => ?_⟩
    have np : p ∉ as := fun m => R.wf.trk (R.wf.sub p m) n
    exact k p v H2 n (t1.trans t2) c2 (q1.stp R1.wf t2 np) r2
theorem ms_parO {i j : Nat} {x y : Str} {px py pt : Pos} {kt k2 pt2} (hc : X.calm = true) (hN : X.N.Nodup) (hi : X.N[i]? = some x) (hj : X.N[j]? = some y) (hij : i ≠ j)
    (hx : X.env.scope.names.lookup x = some .local) (hy : X.env.scope.names.lookup y = some .local) (ha : PE X a (tOfF (kw X) fa)) (hb : PE X b (tOf (kw X) fb))
    (hw : swappedStores [.Tuple [.Name x px, .Name y py] kt pt] (.Tuple [a, b] k2 pt2) X.env = pure (some [x, y]))
    (s1 : starEach [a, b] X.env = (false, eval a X.env) :: starEach [b] X.env := by rfl) (s2 : starEach [b] X.env = (false, eval b X.env) :: starEach [] X.env := by rfl)
    (hs : swapsWithSole [.Tuple [.Name x px, .Name y py] kt pt] (.Tuple [a, b] k2 pt2) pos.line X.env = pure false := by rfl) :
    PS X (.Assign [.Tuple [.Name x px, .Name y py] kt pt] (.Tuple [a, b] k2 pt2) pos) (tOfS fr (kw X) (sParO i j fa fb)) :=
  (ps_par hc hN hi hj hij hx hy (mpf ha hb s1 s2) hw hs).weak fun D σ H q => by
    obtain ⟨as, O, B, G, ρ, S, o, R, hf, k⟩ := q
    unfold sParO at hf
    obtain ⟨⟨d1, S1⟩, h1, hf⟩ := Option.bind_eq_some_iff.mp hf
    obtain ⟨⟨d2, S2⟩, h2, hf⟩ := Option.bind_eq_some_iff.mp hf
    split at hf
    · rename_i hil
      cases hf
      refine ⟨as, _, ρ, S, d1, S1, d2, S2, R.e, h1, h2, fun p v H1 n t1 c1 q1 r1 => ⟨_, _, rfl, ?_⟩⟩
      rw [List.set_comm _ _ hij]
      have R1 := R.setOwn i hil.1 n t1 c1 q1
      have sb : ∀ b, OO O (ρ.set i (.own d1)) (σ.set i (some (.ref p))) b → ad (OO O ρ σ) p b := fun b h => by
        rcases h with h | ⟨l, e, h1, h2⟩
        · exact .inl (.inl h)
        · rcases get_set h1 with ⟨rfl, z⟩ | ⟨ne, z⟩
          · rcases get_set h2 with ⟨_, y⟩ | ⟨y, _⟩
            · exact .inr (by cases y; rfl)
            · exact absurd rfl y
          · rw [List.getElem?_set_ne (Ne.symm ne)] at h2
            exact .inl (.inr ⟨l, e, z, h2⟩)
      have R2 := R1.set j (Rp.anti sb _ _ r1)
      have e1 : (σ.set j (some v)).set i (some (.ref p)) = (σ.set i (some (.ref p))).set j (some v) := List.set_comm _ _ (Ne.symm hij)
      have e2 : (ρ.set j (.val d2)).set i (.own d1) = (ρ.set i (.own d1)).set j (.val d2) := List.set_comm _ _ (Ne.symm hij)
      rw [e1]
      have k : ∀ σ H, Rel (kw X) as O B G σ H ((ρ.set j (.val d2)).set i (.own d1)) S2 → D.nx σ H := k
      rw [e2] at k
      exact k _ _ R2
    · cases hf
def sPar3 (i j l : Nat) (fa fb fz : Ev) : Sv := fun ρ S => (fa ρ S).bind fun p => (fb ρ p.2).bind fun q => (fz ρ q.2).bind fun r => some (.nx (((ρ.set i (.val p.1)).set j (.val q.1)).set l (.val r.1)) r.2)
theorem ms_par3 {i j l : Nat} {x y z : Str} {px py pz pt : Pos} {kt k2 pt2} (hc : X.calm = true) (hN : X.N.Nodup) (hi : X.N[i]? = some x) (hj : X.N[j]? = some y) (hl : X.N[l]? = some z) (hij : i ≠ j) (hil : i ≠ l) (hjl : j ≠ l)
    (hx : X.env.scope.names.lookup x = some .local) (hy : X.env.scope.names.lookup y = some .local) (hz : X.env.scope.names.lookup z = some .local) (ha : PE X a (tOf (kw X) fa)) (hb : PE X b (tOf (kw X) fb)) (hcc : PE X c (tOf (kw X) fz))
    (hw : swappedStores [.Tuple [.Name x px, .Name y py, .Name z pz] kt pt] (.Tuple [a, b, c] k2 pt2) X.env = pure (some [x, y, z]))
    (s1 : starEach [a, b, c] X.env = (false, eval a X.env) :: starEach [b, c] X.env := by rfl) (s2 : starEach [b, c] X.env = (false, eval b X.env) :: starEach [c] X.env := by rfl) (s3 : starEach [c] X.env = (false, eval c X.env) :: starEach [] X.env := by rfl)
    (hs : swapsWithSole [.Tuple [.Name x px, .Name y py, .Name z pz] kt pt] (.Tuple [a, b, c] k2 pt2) pos.line X.env = pure false := by rfl) :
    PS X (.Assign [.Tuple [.Name x px, .Name y py, .Name z pz] kt pt] (.Tuple [a, b, c] k2 pt2) pos) (tOfS fr (kw X) (sPar3 i j l fa fb fz)) :=
  (ps_par3 hc hN hi hj hl hij hil hjl hx hy hz (ma_cons ha (ma_cons hb (ma_cons hcc ma_nil s3) s2) s1) hw hs).weak fun D σ H q => by
    obtain ⟨as, O, B, G, ρ, S, o, R, hf, k⟩ := q
    unfold sPar3 at hf
    obtain ⟨⟨d1, S1⟩, h1, hf⟩ := Option.bind_eq_some_iff.mp hf
    obtain ⟨⟨d2, S2⟩, h2, hf⟩ := Option.bind_eq_some_iff.mp hf
    obtain ⟨⟨d3, S3⟩, h3, hf⟩ := Option.bind_eq_some_iff.mp hf
    cases hf
    refine ⟨as, _, ρ, S, [d1, d2, d3], S3, R.e, ?_, fun vs H1 s1 c1 r1 => ?_⟩
    · simp only [aC, aN, h1, h2, h3, Option.bind_some]
    · cases r1 with
      | cons r1 t1 =>
        cases t1 with
        | cons r2 t2 =>
          cases t2 with
          | cons r3 t3 =>
            cases t3
            refine ⟨_, _, _, rfl, ?_⟩
            have R1 := (R.step s1 c1).set i r1
            have R2 := R1.set j (Rp.anti (oo_set (y := .val _) fun _ z => nomatch z) _ _ r2)
            exact k _ _ (R2.set l (Rp.anti (oo_set (y := .val _) fun _ z => nomatch z) _ _ (Rp.anti (oo_set (y := .val _) fun _ z => nomatch z) _ _ r3)))
end
inductive CD where
  | int (i : Int) | str (x : Str) | tup (cs : List CD)
mutual
def CD.d : CD → D
  | .int i => .int i
  | .str x => .str x
  | .tup cs => .tup (CD.ds cs)
def CD.ds : List CD → List D
  | [] => []
  | c :: cs => c.d :: CD.ds cs
end
mutual
def cB (K : PySem.W.Frag) : CD → Value → Bool
  | .int i, .int j _ => decide (i = j)
  | .str x, .str y _ => decide (x = y)
  | .tup cs, .ref a => (match K.lookup a with
    | some ⟨.type c, _, .seq its _, _⟩ => decide (c = "tuple") && (decide (its.size ≤ sizeLine) && cBL K cs its.toList)
    | _ => false)
  | _, _ => false
def cBL (K : PySem.W.Frag) : List CD → List Value → Bool
  | [], [] => true
  | c :: cs, u :: us => cB K c u && cBL K cs us
  | _, _ => false
end
mutual
theorem cB_ok {K : PySem.W.Frag} : ∀ (c : CD) (u : Value), cB K c u = true → ∃ v, RelV v u ∧ KD K v c.d
  | .int i, u, h => by
    cases u with
    | int j t =>
      unfold cB at h
      have e := of_decide_eq_true h
      subst e
      exact ⟨.int i, ⟨t, rfl⟩, by unfold CD.d; exact KD.int i⟩
    | _ => unfold cB at h; cases h
  | .str x, u, h => by
    cases u with
    | str y t =>
      unfold cB at h
      have e := of_decide_eq_true h
      subst e
      exact ⟨.str x, ⟨t, rfl⟩, by unfold CD.d; exact KD.str x⟩
    | _ => unfold cB at h; cases h
  | .tup cs, u, h => by
    cases u with
    | ref a =>
      unfold cB at h
      cases q : K.lookup a with
      | none =>
        rw [q] at h
        cases h
      | some o =>
        obtain ⟨oc, od, dt, osl⟩ := o
        rw [q] at h
        cases oc with
        | type c =>
          cases dt with
          | seq its n =>
            have h : (decide (c = "tuple") && (decide (its.size ≤ sizeLine) && cBL K cs its.toList)) = true := h
            rw [Bool.and_eq_true, Bool.and_eq_true] at h
            obtain ⟨h1, h2, h3⟩ := h
            obtain ⟨vs, r1, r2⟩ := cBL_ok cs its.toList h3
            refine ⟨.ref a, rfl, fun w as O H => ?_⟩
            unfold CD.d
            exact .tup (.inr ⟨_, its, n, q, congrArg Value.type (of_decide_eq_true h1), rfl, of_decide_eq_true h2, r1⟩) (r2 w as O H)
          | _ => cases h
        | _ => cases dt <;> cases h
    | _ => unfold cB at h; cases h
theorem cBL_ok {K : PySem.W.Frag} : ∀ (cs : List CD) (us : List Value), cBL K cs us = true → ∃ vs, Vals vs us ∧ ∀ (w : World) as O H, RpL ⟨K, w⟩ as O H vs (CD.ds cs)
  | [], [], _ => ⟨[], .nil, fun _ _ _ _ => by unfold CD.ds; exact .nil⟩
  | c :: cs, u :: us, h => by
    unfold cBL at h
    rw [Bool.and_eq_true] at h
    obtain ⟨v, r, k⟩ := cB_ok c u h.1
    obtain ⟨vs, rs, ks⟩ := cBL_ok cs us h.2
    exact ⟨v :: vs, .cons r rs, fun w as O H => by unfold CD.ds; exact .cons (k w as O H) (ks w as O H)⟩
  | [], _ :: _, h => by unfold cBL at h; cases h
  | _ :: _, [], h => by unfold cBL at h; cases h
end
end DL
namespace DL
open PySem PySem.Spec PyProof.Rows L2
def txOk (K : PySem.W.Frag) (tx : List (Str × CD)) : Bool := tx.all fun t => match PySem.W.nsIn K mainGlobals t.1 with
  | some (some u) => cB K t.2 u
  | _ => false
def obsE (n : Nat) (fa : List He.Fa) (fn : List He.DefD) (tx : List (Str × CD)) (g : Addr → Option Obj) : He.AlD × Bool := (He.obsDG n fa fn g, txOk (He.frG g (He.asD g n)) tx)
def hookE (n : Nat) (fa : List He.Fa) (fn : List He.DefD) (tx : List (Str × CD)) : PySem.W.Hook where
  α := He.AlD × Bool
  obs := fun s => obsE n fa fn tx s.heap.get?
  val := fun _ => (He.valD fn, true)
  says := fun _ h => ∃ K : PySem.W.Frag, K.In h ∧ He.SaysD fa fn K ∧ txOk K tx = true
  of := fun _ _ e => ⟨_, He.frG_in, congrArg (Prod.fst (α := He.AlD) (β := Bool)) e, congrArg (Prod.snd (α := He.AlD) (β := Bool)) e⟩
  keeps := fun _ _ _ ⟨K, hK, c⟩ k => ⟨K, PySem.W.Frag.In.keeps hK k, c⟩
theorem obsE_eq {n : Nat} {fa : List He.Fa} {fn : List He.DefD} {tx : List (Str × CD)} {g : Addr → Option Obj} {s : Shared} (h : ∀ a, g a = s.heap.get? a) : obsE n fa fn tx g = (hookE n fa fn tx).obs s := by
  have e : g = s.heap.get? := funext h
  rw [e] <;> rfl
theorem tx_ok {K : PySem.W.Frag} {h : Heap} {mg : Str → Option Value} {tx : List (Str × CD)} (X : K.In h) (G : h.Ns mainGlobals mg) (c : txOk K tx = true) {x : Str} {d : CD} (i : Nat) (hi : tx[i]? = some (x, d)) : ∃ v u, mg x = some u ∧ RelV v u ∧ KD K v d.d := by
  have q := List.all_eq_true.mp c (x, d) (List.mem_of_getElem? hi)
  cases e : PySem.W.nsIn K mainGlobals x with
  | none =>
    simp only [e] at q
    cases q
  | some o =>
    cases o with
    | none =>
      simp only [e] at q
      cases q
    | some u =>
      simp only [e] at q
      obtain ⟨v, r, k⟩ := cB_ok d u q
      exact ⟨v, u, PySem.W.mg_of X G e, r, k⟩
def natGap (i j : Nat) (ρ : List Slot) : Nat := match ρ[i]?, ρ[j]? with
  | some (.val (.int a)), some (.val (.int b)) => (b - a).toNat
  | _, _ => 0
theorem ev_natGap (i j : Nat) (ρ : List Slot) : natGap i j ρ = (match ρ[i]?, ρ[j]? with | some (.val (.int a)), some (.val (.int b)) => (b - a).toNat | _, _ => 0) := (rfl)
end DL
namespace DL
open PySem (PyData)
def tokD (d : D) : List (Int ⊕ List Nat) := PySem.W.keyToks (py d)
theorem leD_total : PySem.W.TotalLe leD := PySem.W.sortLe_total (PyProof.Rows.listOrd PyProof.Rows.itemOrd) false tokD
theorem leD_anti {a b : D} (h1 : leD a b = true) (h2 : leD b a = true) : tokD a = tokD b := by
  have h1' : (!PyProof.Rows.lexLt PyProof.Rows.itemOrd (tokD b) (tokD a)) = true := h1
  have h2' : (!PyProof.Rows.lexLt PyProof.Rows.itemOrd (tokD a) (tokD b)) = true := h2
  rw [Bool.not_eq_true'] at h1' h2'
  exact PyProof.Rows.lex_total (O := PyProof.Rows.itemOrd) _ _ h2' h1'
def sortBy {α : Type} (e : α → D) (l : List α) : List α := l.mergeSort fun x y => leD (e x) (e y)
theorem sortBy_perm {α : Type} (e : α → D) (l : List α) : (sortBy e l).Perm l := List.mergeSort_perm _ _
theorem sortBy_srt {α : Type} (e : α → D) (l : List α) : (sortBy e l).Pairwise fun x y => leD (e x) (e y) = true :=
  List.pairwise_mergeSort (le := fun x y => leD (e x) (e y)) (fun a b c h1 h2 => leD_total.trans (e a) (e b) (e c) h1 h2) (fun a b => by
    rcases leD_total.total (e a) (e b) with h | h
    · rw [h]; rfl
    · rw [h, Bool.or_true]) l
theorem sortBy_iff {α : Type} {e : α → D} (inj : ∀ x y, tokD (e x) = tokD (e y) → x = y) (a b : List α) : sortBy e a = sortBy e b ↔ a.Perm b := by
  constructor
  · intro h
    exact (sortBy_perm e a).symm.trans (h ▸ sortBy_perm e b)
  · intro h
    refine List.Perm.eq_of_pairwise (le := fun x y => leD (e x) (e y) = true) (fun x y _ _ h1 h2 => inj x y (leD_anti h1 h2)) (sortBy_srt e a) (sortBy_srt e b) ?_
    exact ((sortBy_perm e a).trans h).trans (sortBy_perm e b).symm
theorem sortBy_map {α : Type} (e : α → D) (l : List α) : (l.map e).mergeSort leD = (sortBy e l).map e := (List.map_mergeSort (r := fun x y => leD (e x) (e y)) (s := leD) (f := e) (fun _ _ _ _ => rfl)).symm
theorem all_tup {α : Type} {e : α → D} (l : List α) (h : ∀ x ∈ l, tupC (e x) = true) : ((l.map e).all tupC) = true := by
  rw [List.all_map]
  exact List.all_eq_true.mpr h
theorem okL_of {n : Nat} : ∀ {xs : List D}, (∀ x ∈ xs, okD n x = true) → okL n xs = true
  | [], _ => by simp [okL]
  | x :: xs, h => by
    simp only [okL, h x List.mem_cons_self, okL_of (fun y hy => h y (List.mem_cons_of_mem _ hy)), Bool.and_self]
theorem sortOk_of {α : Type} {e : α → D} (l : List α) (ok : ∀ x ∈ l, okD 60 (e x) = true) (al : ∀ x ∈ l, ∀ y ∈ l, PySem.W.alike (py (e x)) (py (e y)) = true) (k : (∀ x ∈ l, tupC (e x) = true) ∨ ∀ x ∈ l, flatC (e x) = true) : sortOk (l.map e) = true := by
  unfold sortOk
  rw [Bool.and_eq_true, Bool.and_eq_true]
  refine ⟨⟨okL_of fun d hd => ?_, ?_⟩, ?_⟩
  · obtain ⟨x, hx, rfl⟩ := List.mem_map.mp hd
    exact ok x hx
  · refine List.all_eq_true.mpr fun d hd => List.all_eq_true.mpr fun d' hd' => ?_
    obtain ⟨x, hx, rfl⟩ := List.mem_map.mp hd
    obtain ⟨y, hy, rfl⟩ := List.mem_map.mp hd'
    exact al x hx y hy
  · rw [Bool.or_eq_true]
    rcases k with k | k
    · exact .inl (all_tup l k)
    · refine .inr ?_
      rw [List.all_map]
      exact List.all_eq_true.mpr k
theorem sortD_eq {α : Type} {e : α → D} (l : List α) (ok : ∀ x ∈ l, okD 60 (e x) = true) (al : ∀ x ∈ l, ∀ y ∈ l, PySem.W.alike (py (e x)) (py (e y)) = true) (k : (∀ x ∈ l, tupC (e x) = true) ∨ ∀ x ∈ l, flatC (e x) = true) : sortD (.lst (l.map e)) = some ((sortBy e l).map e) := by
  show (if sortOk (l.map e) = true then some ((l.map e).mergeSort leD) else none) = _
  rw [if_pos (sortOk_of l ok al k), sortBy_map]
end DL
namespace DL
theorem forL_st {α β : Type} {p : Pat} {g : Sv} (e : β → D) (P : α → List Slot → Prop) (f : α → β → α) (S : List D) : ∀ (xs : List β), (∀ a x ρ, x ∈ xs → P a ρ → ∃ l ρ', binds p (e x) = some l ∧ g (putD ρ l) S = some (.nx ρ' S) ∧ P (f a x) ρ') →
    ∀ a ρ, P a ρ → ∃ ρ', forL p g (xs.map e) ρ S = some (.nx ρ' S) ∧ P (xs.foldl f a) ρ'
  | [], _, a, ρ, h => ⟨ρ, rfl, h⟩
  | x :: xs, step, a, ρ, h => by
    obtain ⟨l, ρ1, h1, h2, h3⟩ := step a x ρ List.mem_cons_self h
    obtain ⟨ρ2, h4, h5⟩ := forL_st e P f S xs (fun a y ρ m => step a y ρ (List.mem_cons_of_mem _ m)) (f a x) ρ1 h3
    refine ⟨ρ2, ?_, h5⟩
    rw [List.map_cons, ev_forC, h1, Option.bind_some, h2, Option.bind_some]
    exact h4
section
variable {ρ : List Slot} {S S' S2 : List D} {f : Ev} {fs : Ea} {d r : D} {ds xs : List D} {i n : Nat} {m : List D → List D → Option (D × List D)}
theorem setO_s (h : f ρ S = some (d, S')) (hi : i < ρ.length) : sSetO i f ρ S = some (.nx (ρ.set i (.own d)) S') := by
  rw [ev_sSetO, h, Option.bind_some, if_pos hi]
theorem app_s (h : f ρ S = some (d, S')) (ho : ρ[i]? = some (.own (.lst xs))) (hl : xs.length < 16777216) : sApp i f ρ S = some (.nx (ρ.set i (.own (.lst (xs ++ [d])))) S') := by
  rw [ev_sApp, h, Option.bind_some, ho]
  exact if_pos hl
theorem callP_s (h : fs ρ S = some (ds, S')) (hn : ds.length = n) (ok : okL 60 ds = true) (hm : m ds [] = some (r, S2)) (hf : flatD r = true) : eCallP n m fs ρ S = some (r, S') := by
  unfold eCallP
  rw [h, Option.bind_some]
  simp only [hn, ok, and_self, if_true, hm, Option.bind_some, hf]
end
theorem cutD_take (xs : List D) (k : Nat) : cutD xs none (some (k : Int)) = xs.take k := by
  unfold cutD
  rw [HT.sIx_none, HT.sIx_nat, List.drop_zero, Nat.sub_zero, Nat.min_def]
  split
  · rfl
  · rw [List.take_of_length_le (Nat.le_refl _), List.take_of_length_le (by omega)]
end DL
namespace DL
open PySem PySem.Spec PyProof.Rows L2
section
variable {X : Cx} {pos : Pos} {a b : Expr} {fa fb : Ev} {fr : Bool}
def gRg : D → Option (List D)
  | .int n => if (decide (0 ≤ n) && decide (n ≤ 16777216)) = true then some (rangeD 0 n) else none
  | _ => none
theorem rp_rg {K : KW} {as : List Addr} {O : Addr → Prop} {H : Hp} (n : Int) : RpL K as O H (L2.rgV 0 n) (rangeD 0 n) := by
  unfold L2.rgV rangeD
  generalize List.range (n - 0).toNat = l
  induction l with
  | nil => exact .nil
  | cons k l ih => exact .cons (.int _) ih
section
variable {p p2 pos2 : Pos}
theorem mf_listRg (hc : X.calm = true) (hg : Gl X "list") (hm : X.mg "list" = none) (hg2 : Gl X "range") (hm2 : X.mg "range" = none) (ha : PE X a (tOfB (kw X) fa))
    (na2 : starEach [a] X.env = (false, eval a X.env) :: starEach [] X.env := by rfl) (na : starEach [.Call (.Name "range" p2) [a] [] pos2] X.env = (false, eval (.Call (.Name "range" p2) [a] [] pos2) X.env) :: starEach [] X.env := by rfl) :
    PE X (.Call (.Name "list" p) [.Call (.Name "range" p2) [a] [] pos2] [] pos) (tOfF (kw X) (eUnF gRg fa)) :=
  (L2.pe_listRg hc hg hm (L2.prg_1 hg2 hm2 ha na2) na).weak fun σ H Q q => by
    obtain ⟨as, O, ρ, S, d, S', R, hf, k⟩ := q
    unfold eUnF at hf
    obtain ⟨⟨d1, S1⟩, h1, hf2⟩ := Option.bind_eq_some_iff.mp hf
    obtain ⟨r, h3, hf3⟩ := Option.bind_eq_some_iff.mp hf2
    clear hf hf2
    cases hf3
    refine ⟨as, O, ρ, S, d1, S1, R, h1, fun v H1 s1 c1 r1 => ?_⟩
    have R1 := R.step s1 c1
    have h3 : gRg d1 = some r := h3
    unfold gRg at h3
    split at h3
    · rename_i n _
      split at h3
      · rename_i hb
        cases h3
        rw [Bool.and_eq_true] at hb
        have b0 := of_decide_eq_true hb.1
        have b1 := of_decide_eq_true hb.2
        have e := r1.int
        subst e
        refine ⟨n, rfl, L2.RgOk.of_le (Int.le_refl 0) b1 (by decide) b0, fun p hp => ?_⟩
        have q := new_cells (o := .lst (L2.rgV 0 n)) R1.wf c1 hp
        exact k p _ (R.free s1 c1 hp) (s1.trans (Same.stp (same_new hp))) q.1 (.lst upd_same (q.2 _ _ (rp_rg n)))
      · cases h3
    · cases h3
end
def sParV (i j : Nat) (fa fb : Ev) : Sv := fun ρ S => (fa ρ S).bind fun p => (fb ρ p.2).bind fun q => if j < ρ.length ∧ i ≠ j then some (.nx ((ρ.set i (.val p.1)).set j (.own q.1)) q.2) else none
def tOfPV (K : KW) (fa fb : Ev) : TA := fun σ H Q => ∃ as O ρ S d1 S1 d2 S2, RelE K as O σ H ρ S ∧ fa ρ S = some (d1, S1) ∧ fb ρ S1 = some (d2, S2) ∧
  ∀ v p H1 H2, Stp as H H1 → Cells K as O H1 S1 → H1 p = none → Stp as H1 H2 → Cells K as (ad O p) H2 S2 → CellR K as (ad O p) H2 p d2 → Rp K as (ad O p) H2 v d1 → Q [v, .ref p] H2
theorem mpv (ha : PE X a (tOf (kw X) fa)) (hb : PE X b (tOfF (kw X) fb)) (s1 : starEach [a, b] X.env = (false, eval a X.env) :: starEach [b] X.env) (s2 : starEach [b] X.env = (false, eval b X.env) :: starEach [] X.env) : PA X [a, b] (tOfPV (kw X) fa fb) :=
  (pa_cons ha (pa_cons hb pa_nil s2) s1).weak fun σ H Q q => by
    obtain ⟨as, O, ρ, S, d1, S1, d2, S2, R, h1, h2, k⟩ := q
    refine ⟨as, O, ρ, S, d1, S1, R, h1, fun v H1 t1 c1 r1 => ?_⟩
    have R1 := R.step t1 c1
    refine ⟨as, O, ρ, S1, d2, S2, R1, h2, fun p H2 n t2 c2 q2 => ?_⟩
    have kk : Kp (ad O p) H1 H2 := fun a u nn e => t2 a u (fun m => nn (.inl (R1.wf.sub a m))) e
    have m1 : ∀ a, ad O p a → Nt (H1 a) := fun a o => by
      rcases o with o | o
      · exact R1.wf.nt a o
      · rw [o, n]; exact nt_none
    exact k v p H1 H2 t1 c1 n t2 c2 q2 (Rp.kp m1 kk _ _ (Rp.ad n _ _ r1))
theorem ms_parV {i j : Nat} {x y : Str} {px py pt : Pos} {kt k2 pt2} (hc : X.calm = true) (hN : X.N.Nodup) (hi : X.N[i]? = some x) (hj : X.N[j]? = some y) (hij : i ≠ j)
    (hx : X.env.scope.names.lookup x = some .local) (hy : X.env.scope.names.lookup y = some .local) (ha : PE X a (tOf (kw X) fa)) (hb : PE X b (tOfF (kw X) fb))
    (hw : swappedStores [.Tuple [.Name x px, .Name y py] kt pt] (.Tuple [a, b] k2 pt2) X.env = pure (some [x, y]))
    (s1 : starEach [a, b] X.env = (false, eval a X.env) :: starEach [b] X.env := by rfl) (s2 : starEach [b] X.env = (false, eval b X.env) :: starEach [] X.env := by rfl)
    (hs : swapsWithSole [.Tuple [.Name x px, .Name y py] kt pt] (.Tuple [a, b] k2 pt2) pos.line X.env = pure false := by rfl) :
    PS X (.Assign [.Tuple [.Name x px, .Name y py] kt pt] (.Tuple [a, b] k2 pt2) pos) (tOfS fr (kw X) (sParV i j fa fb)) :=
  (ps_par hc hN hi hj hij hx hy (mpv ha hb s1 s2) hw hs).weak fun D σ H q => by
    obtain ⟨as, O, B, G, ρ, S, o, R, hf, k⟩ := q
    unfold sParV at hf
    obtain ⟨⟨d1, S1⟩, h1, hf⟩ := Option.bind_eq_some_iff.mp hf
    obtain ⟨⟨d2, S2⟩, h2, hf⟩ := Option.bind_eq_some_iff.mp hf
    split at hf
    · rename_i hil
      cases hf
      refine ⟨as, _, ρ, S, d1, S1, d2, S2, R.e, h1, h2, fun v p H1 H2 t1 c1 n t2 c2 q2 r1 => ⟨_, _, rfl, ?_⟩⟩
      have R1 := (R.step t1 c1).setOwn j hil.1 n t2 c2 q2
      have sb : ∀ b, OO O (ρ.set j (.own d2)) (σ.set j (some (.ref p))) b → ad (OO O ρ σ) p b := fun b h => by
        rcases h with h | ⟨l, e, h1, h2⟩
        · exact .inl (.inl h)
        · rcases get_set h1 with ⟨rfl, z⟩ | ⟨ne, z⟩
          · rcases get_set h2 with ⟨_, y⟩ | ⟨y, _⟩
            · exact .inr (by cases y; rfl)
            · exact absurd rfl y
          · rw [List.getElem?_set_ne (Ne.symm ne)] at h2
            exact .inl (.inr ⟨l, e, z, h2⟩)
      have R2 := R1.set i (Rp.anti sb _ _ r1)
      have e1 : (σ.set i (some v)).set j (some (.ref p)) = (σ.set j (some (.ref p))).set i (some v) := List.set_comm _ _ hij
      have e2 : (ρ.set i (.val d1)).set j (.own d2) = (ρ.set j (.own d2)).set i (.val d1) := List.set_comm _ _ hij
      rw [e1]
      have k : ∀ σ H, Rel (kw X) as O B G σ H ((ρ.set i (.val d1)).set j (.own d2)) S2 → D.nx σ H := k
      rw [e2] at k
      exact k _ _ R2
    · cases hf
theorem parV_s {ρ : List Slot} {S S' S2 : List D} {i j : Nat} {d d2 : D} (h : fa ρ S = some (d, S')) (h2 : fb ρ S' = some (d2, S2)) (hj : j < ρ.length) (hij : i ≠ j) : sParV i j fa fb ρ S = some (.nx ((ρ.set i (.val d)).set j (.own d2)) S2) := by
  unfold sParV
  rw [h, Option.bind_some, h2, Option.bind_some]
  exact if_pos ⟨hj, hij⟩
theorem parO_s {ρ : List Slot} {S S' S2 : List D} {i j : Nat} {d d2 : D} (h : fa ρ S = some (d, S')) (h2 : fb ρ S' = some (d2, S2)) (hi : i < ρ.length) (hij : i ≠ j) : sParO i j fa fb ρ S = some (.nx ((ρ.set j (.val d2)).set i (.own d)) S2) := by
  unfold sParO
  rw [h, Option.bind_some, h2, Option.bind_some]
  exact if_pos ⟨hi, hij⟩
end
end DL
namespace DL
open PySem PySem.Spec PyProof.Rows L2
section
variable {X : Cx} {pos : Pos} {a b : Expr} {fa fb : Ev} {fr : Bool}
variable {c : Expr} {fz : Ev}
def sPar3V (i j l : Nat) (fa fb fz : Ev) : Sv := fun ρ S => (fa ρ S).bind fun p => (fb ρ p.2).bind fun q => (fz ρ q.2).bind fun r => if l < ρ.length ∧ i ≠ l ∧ j ≠ l then some (.nx (((ρ.set i (.val p.1)).set j (.val q.1)).set l (.own r.1)) r.2) else none
def tOfPVV (K : KW) (fa fb fz : Ev) : TA := fun σ H Q => ∃ as O ρ S d1 S1 d2 S2 d3 S3, RelE K as O σ H ρ S ∧ fa ρ S = some (d1, S1) ∧ fb ρ S1 = some (d2, S2) ∧ fz ρ S2 = some (d3, S3) ∧
  ∀ v w p H1 H2, Stp as H H1 → Cells K as O H1 S2 → H1 p = none → Stp as H1 H2 → Cells K as (ad O p) H2 S3 → CellR K as (ad O p) H2 p d3 → Rp K as (ad O p) H2 v d1 → Rp K as (ad O p) H2 w d2 → Q [v, w, .ref p] H2
theorem mpvv (ha : PE X a (tOf (kw X) fa)) (hb : PE X b (tOf (kw X) fb)) (hz : PE X c (tOfF (kw X) fz)) (s1 : starEach [a, b, c] X.env = (false, eval a X.env) :: starEach [b, c] X.env) (s2 : starEach [b, c] X.env = (false, eval b X.env) :: starEach [c] X.env) (s3 : starEach [c] X.env = (false, eval c X.env) :: starEach [] X.env) : PA X [a, b, c] (tOfPVV (kw X) fa fb fz) :=
  (pa_cons ha (pa_cons hb (pa_cons hz pa_nil s3) s2) s1).weak fun σ H Q q => by
    obtain ⟨as, O, ρ, S, d1, S1, d2, S2, d3, S3, R, h1, h2, h3, k⟩ := q
    refine ⟨as, O, ρ, S, d1, S1, R, h1, fun v H1 t1 c1 r1 => ?_⟩
    have R1 := R.step t1 c1
    refine ⟨as, O, ρ, S1, d2, S2, R1, h2, fun w H2 t2 c2 r2 => ?_⟩
    have R2 := R1.step t2 c2
    refine ⟨as, O, ρ, S2, d3, S3, R2, h3, fun p H3 n t3 c3 q3 => ?_⟩
    have kk : Kp (ad O p) H2 H3 := fun a u nn e => t3 a u (fun m => nn (.inl (R2.wf.sub a m))) e
    have m1 : ∀ a, ad O p a → Nt (H2 a) := fun a o => by
      rcases o with o | o
      · exact R2.wf.nt a o
      · rw [o, n]; exact nt_none
    have r1' := Rp.kp R1.wf.nt (fun a u nn e => t2 a u (fun m => nn (R1.wf.sub a m)) e) _ _ r1
    exact k v w p H2 H3 (t1.trans t2) c2 n t3 c3 q3 (Rp.kp m1 kk _ _ (Rp.ad n _ _ r1')) (Rp.kp m1 kk _ _ (Rp.ad n _ _ r2))
theorem ms_par3V {i j l : Nat} {x y z : Str} {px py pz pt : Pos} {kt k2 pt2} (hc : X.calm = true) (hN : X.N.Nodup) (hi : X.N[i]? = some x) (hj : X.N[j]? = some y) (hl : X.N[l]? = some z) (hij : i ≠ j) (hil : i ≠ l) (hjl : j ≠ l)
    (hx : X.env.scope.names.lookup x = some .local) (hy : X.env.scope.names.lookup y = some .local) (hz : X.env.scope.names.lookup z = some .local) (ha : PE X a (tOf (kw X) fa)) (hb : PE X b (tOf (kw X) fb)) (hcc : PE X c (tOfF (kw X) fz))
    (hw : swappedStores [.Tuple [.Name x px, .Name y py, .Name z pz] kt pt] (.Tuple [a, b, c] k2 pt2) X.env = pure (some [x, y, z]))
    (s1 : starEach [a, b, c] X.env = (false, eval a X.env) :: starEach [b, c] X.env := by rfl) (s2 : starEach [b, c] X.env = (false, eval b X.env) :: starEach [c] X.env := by rfl) (s3 : starEach [c] X.env = (false, eval c X.env) :: starEach [] X.env := by rfl)
    (hs : swapsWithSole [.Tuple [.Name x px, .Name y py, .Name z pz] kt pt] (.Tuple [a, b, c] k2 pt2) pos.line X.env = pure false := by rfl) :
    PS X (.Assign [.Tuple [.Name x px, .Name y py, .Name z pz] kt pt] (.Tuple [a, b, c] k2 pt2) pos) (tOfS fr (kw X) (sPar3V i j l fa fb fz)) :=
  (ps_par3 hc hN hi hj hl hij hil hjl hx hy hz (mpvv ha hb hcc s1 s2 s3) hw hs).weak fun D σ H q => by
    obtain ⟨as, O, B, G, ρ, S, o, R, hf, k⟩ := q
    unfold sPar3V at hf
    obtain ⟨⟨d1, S1⟩, h1, hf⟩ := Option.bind_eq_some_iff.mp hf
    obtain ⟨⟨d2, S2⟩, h2, hf⟩ := Option.bind_eq_some_iff.mp hf
    obtain ⟨⟨d3, S3⟩, h3, hf⟩ := Option.bind_eq_some_iff.mp hf
    split at hf
    · rename_i hll
      cases hf
      refine ⟨as, _, ρ, S, d1, S1, d2, S2, d3, S3, R.e, h1, h2, h3, fun v w p H1 H2 t1 c1 n t2 c2 q2 r1 r2 => ⟨_, _, _, rfl, ?_⟩⟩
      have R1 := (R.step t1 c1).setOwn l hll.1 n t2 c2 q2
      have sb : ∀ b, OO O (ρ.set l (.own d3)) (σ.set l (some (.ref p))) b → ad (OO O ρ σ) p b := fun b h => by
        rcases h with h | ⟨l, e, h1, h2⟩
        · exact .inl (.inl h)
        · rcases get_set h1 with ⟨rfl, z⟩ | ⟨ne, z⟩
          · rcases get_set h2 with ⟨_, y⟩ | ⟨y, _⟩
            · exact .inr (by cases y; rfl)
            · exact absurd rfl y
          · rw [List.getElem?_set_ne (Ne.symm ne)] at h2
            exact .inl (.inr ⟨l, e, z, h2⟩)
      have R2 := R1.set i (Rp.anti sb _ _ r1)
      have R3 := R2.set j (Rp.anti (oo_set (y := .val _) fun _ z => nomatch z) _ _ (Rp.anti sb _ _ r2))
      have e1 : ((σ.set i (some v)).set j (some w)).set l (some (.ref p)) = ((σ.set l (some (.ref p))).set i (some v)).set j (some w) := by
        rw [List.set_comm _ _ hjl, List.set_comm _ _ hil]
      have e2 : ((ρ.set i (.val d1)).set j (.val d2)).set l (.own d3) = ((ρ.set l (.own d3)).set i (.val d1)).set j (.val d2) := by
        rw [List.set_comm _ _ hjl, List.set_comm _ _ hil]
      rw [e1]
      have k : ∀ σ H, Rel (kw X) as O B G σ H (((ρ.set i (.val d1)).set j (.val d2)).set l (.own d3)) S3 → D.nx σ H := k
      rw [e2] at k
      exact k _ _ R3
    · cases hf
theorem par3V_s {ρ : List Slot} {S S' S2 S3 : List D} {i j l : Nat} {d d2 d3 : D} (h : fa ρ S = some (d, S')) (h2 : fb ρ S' = some (d2, S2)) (h3 : fz ρ S2 = some (d3, S3)) (hj : l < ρ.length ∧ i ≠ l ∧ j ≠ l) : sPar3V i j l fa fb fz ρ S = some (.nx (((ρ.set i (.val d)).set j (.val d2)).set l (.own d3)) S3) := by
  unfold sPar3V
  rw [h, Option.bind_some, h2, Option.bind_some, h3, Option.bind_some]
  exact if_pos hj
end
end DL
namespace DL
open PySem PySem.Spec PyProof.Rows L2
abbrev XE := NestedKey × Addr × V
abbrev YE := NestedKey × Addr × Value
inductive XY : List XE → List YE → Prop
  | nil : XY [] []
  | cons {x : XE} {y : YE} {xs : List XE} {ys : List YE} : x.1 = y.1 → x.2.1 = y.2.1 → RelV x.2.2 y.2.2 → XY xs ys → XY (x :: xs) (y :: ys)
theorem xy_of : ∀ {xs : List XE} {ys : List YE}, (ys.map fun y => (y.1, y.2.1)) = (xs.map fun x => (x.1, x.2.1)) → Vals (xs.map (·.2.2)) (ys.map (·.2.2)) → XY xs ys
  | [], [], _, _ => .nil
  | [], _ :: _, h, _ => by simp at h
  | _ :: _, [], h, _ => by simp at h
  | x :: xs, y :: ys, h, v => by
    simp only [List.map_cons, List.cons.injEq, Prod.mk.injEq] at h
    cases v with
    | cons r t => exact .cons h.1.1.symm h.1.2.symm r (xy_of h.2 t)
theorem XY.maps : ∀ {xs : List XE} {ys : List YE}, XY xs ys → (ys.map fun y => (y.1, y.2.1)) = (xs.map fun x => (x.1, x.2.1))
  | _, _, .nil => rfl
  | _, _, .cons a b _ t => by simp only [List.map_cons, t.maps, a, b]
theorem XY.vals : ∀ {xs : List XE} {ys : List YE}, XY xs ys → Vals (xs.map (·.2.2)) (ys.map (·.2.2))
  | _, _, .nil => .nil
  | _, _, .cons _ _ r t => .cons r t.vals
theorem XY.keys : ∀ {xs : List XE} {ys : List YE}, XY xs ys → ys.map (·.1) = xs.map (·.1)
  | _, _, .nil => rfl
  | _, _, .cons a b _ t => by simp only [List.map_cons, t.keys, a]
theorem XY.length {xs : List XE} {ys : List YE} (h : XY xs ys) : ys.length = xs.length := by
  have := congrArg List.length h.keys
  rwa [List.length_map, List.length_map] at this
def hasX (xs : List XE) (k : NestedKey) : Bool := xs.any fun x => decide (x.1 = k)
def putX (xs : List XE) (k : NestedKey) (b : Addr) (v : V) : List XE := if hasX xs k = true then xs.map (fun x => if x.1 = k then (x.1, x.2.1, v) else x) else xs ++ [(k, b, v)]
theorem XY.has (k : NestedKey) : ∀ {xs : List XE} {ys : List YE}, XY xs ys → (atKey ys k).isSome = hasX xs k
  | _, _, .nil => rfl
  | x :: xs, y :: ys, .cons a _ _ t => by
    have ih := t.has k
    by_cases h : y.1 = k
    · simp [atKey, hasX, a, h]
    · have : (atKey (y :: ys) k) = atKey ys k := by simp [atKey, h]
      rw [this, ih]
      simp [hasX, a, h]
theorem XY.repl (k : NestedKey) {v : V} {u : Value} (r : RelV v u) : ∀ {xs : List XE} {ys : List YE}, XY xs ys → XY (xs.map fun x => if x.1 = k then (x.1, x.2.1, v) else x) (ys.map (putAt k u))
  | _, _, .nil => .nil
  | x :: xs, y :: ys, .cons a b q t => by
    rw [List.map_cons, List.map_cons]
    unfold putAt
    by_cases h : y.1 = k
    · rw [if_pos h, if_pos (a.trans h)]
      exact .cons a b r (t.repl k r)
    · rw [if_neg h, if_neg (fun e => h (a.symm.trans e))]
      exact .cons a b q (t.repl k r)
theorem XY.snoc {k : NestedKey} {b : Addr} {v : V} {u : Value} (r : RelV v u) : ∀ {xs : List XE} {ys : List YE}, XY xs ys → XY (xs ++ [(k, b, v)]) (ys ++ [(k, b, u)])
  | _, _, .nil => .cons rfl rfl r .nil
  | _, _, .cons a b q t => .cons a b q (t.snoc r)
theorem XY.put (k : NestedKey) (b : Addr) {v : V} {u : Value} (r : RelV v u) {xs : List XE} {ys : List YE} (h : XY xs ys) : XY (putX xs k b v) (storedH ys k b u) := by
  unfold putX storedH
  rw [h.has k]
  split
  · exact h.repl k r
  · exact h.snoc r
theorem putX_len (xs : List XE) (k : NestedKey) (b : Addr) (v : V) : (putX xs k b v).length ≤ xs.length + 1 := by
  unfold putX
  split
  · rw [List.length_map]; omega
  · rw [List.length_append]; exact Nat.le_refl _
mutual
theorem ky_depth : ∀ (n : Nat) (d : D), kyD n d = true → (keyD d).depth ≤ n
  | _, .non, _ => Nat.zero_le _
  | _, .int _, _ => Nat.zero_le _
  | _, .str _, _ => Nat.zero_le _
  | 0, .tup _, h => by simp [kyD] at h
  | n + 1, .tup xs, h => by
    have := kyL_depth n xs (by simpa [kyD] using h)
    unfold keyD
    unfold NestedKey.depth
    omega
  | _, .bl _, h => by simp [kyD] at h
  | _, .obj _, h => by simp [kyD] at h
  | _, .lst _, h => by simp [kyD] at h
  | _, .dct _, h => by simp [kyD] at h
  | _, .scr _, h => by simp [kyD] at h
theorem kyL_depth : ∀ (n : Nat) (xs : List D), kyL n xs = true → NestedKey.depthAll (keyL xs) ≤ n
  | _, [], _ => Nat.zero_le _
  | n, x :: xs, h => by
    have h : kyD n x = true ∧ kyL n xs = true := by simpa [kyL] using h
    have a := ky_depth n x h.1
    have b := kyL_depth n xs h.2
    unfold keyL
    unfold NestedKey.depthAll
    omega
end
section
variable {X : Cx} {pins : List (Addr × Obj)} {σ : L2.St} {H : Hp} {s : Shared} {as : List Addr} {O : Addr → Prop}
mutual
theorem key_is (I : L2.Inv X pins σ H s) : ∀ (n : Nat) (v : V) (d : D) (u : Value), Rp (kw X) as O H v d → kyD n d = true → RelV v u → NestedIs s.heap (keyD d) u
  | _, _, _, _, .non, _, r => by cases r; exact .none
  | _, _, _, _, .int i, _, r => by
    obtain ⟨t, rfl⟩ := r
    exact .int i t
  | _, _, _, _, .str x, _, r => by
    obtain ⟨t, rfl⟩ := r
    exact .text x t
  | 0, _, _, _, .tup _ _, h, _ => by simp [kyD] at h
  | n + 1, _, .tup ds, _, .tup q t, h, r => by
    cases r
    obtain ⟨its, rv, ⟨o, ho, hc, m, hd⟩, _⟩ := I.tuple q
    refine .tup ho hc hd ?_
    exact keyL_is I n _ ds _ t (by simpa [kyD] using h) (by simpa using rv)
  | _, _, _, _, .bl _, h, _ => by simp [kyD] at h
  | _, _, _, _, .obj _, h, _ => by simp [kyD] at h
  | _, _, _, _, .lst _ _ _, h, _ => by simp [kyD] at h
  | _, _, _, _, .dct _ _ _ _ _ _, h, _ => by simp [kyD] at h
  | _, _, _, _, .scr _, h, _ => by simp [kyD] at h
theorem keyL_is (I : L2.Inv X pins σ H s) : ∀ (n : Nat) (vs : List V) (ds : List D) (us : List Value), RpL (kw X) as O H vs ds → kyL n ds = true → Vals vs us → NestedAll s.heap (keyL ds) us
  | _, _, _, _, .nil, _, r => by cases r; exact .nil
  | n, _, d :: ds, _, .cons q t, h, r => by
    have h : kyD n d = true ∧ kyL n ds = true := by simpa [kyL] using h
    cases r with
    | cons r1 r2 => exact .cons (key_is I n _ d _ q h.1 r1) (keyL_is I n _ ds _ t h.2 r2)
end
end
end DL
namespace DL
open PySem PySem.Spec PyProof.Rows L2
theorem DictRel.at {w : World} {h h' : Heap} {a : Addr} {o : Obj} {xs : List XE} (r : DictRel w h a o xs) (k : ∀ o, h.get? a = some o → h'.get? a = some o) : DictRel w h' a o xs := by
  obtain ⟨hd, hz, hn, ys, m, vl, es, ep, h1, h2⟩ := r
  exact ⟨hd, hz, hn, ys, m, vl, es, ep, k o h1, h2⟩
theorem DictRel.ok {P : Program} {w : World} {H : Hp} {h : Heap} {a : Addr} {o : Obj} {xs : List XE} (r : DictRel w h a o xs) : ObjOk P w H h a (DictO w a o xs) :=
  ⟨r, by obtain ⟨_, _, _, _, _, _, _, _, h1, _⟩ := r; exact ⟨o, h1⟩, fun _ _ p k => p.at k⟩
theorem DictRel.of {P : Program} {w : World} {h : Heap} {a : Addr} {xs : List XE} {ys : List YE} (hd : (a == sysModules) = false) (hz : xs.length ≤ sizeLine) (r : XY xs ys) (d : h.DictOfH (nestedKind P w) a ys) : ∃ o, DictRel w h a o xs := by
  obtain ⟨o, es, ep, h1, h2, h3, h4, _, h5⟩ := d
  exact ⟨o, hd, hz, by rw [← r.keys]; exact h5, ys, r.maps, r.vals, es, ep, h1, h2, h3, h4⟩
section
variable {X : Cx} {pins : List (Addr × Obj)} {σ : L2.St} {H : Hp} {s : Shared} {as : List Addr} {O : Addr → Prop}
theorem keys_are (I : L2.Inv X pins σ H s) : ∀ {xs : List XE} {ds : List D} {ys : List YE}, RpL (kw X) as O H (xs.map fun x => V.ref x.2.1) ds → xs.map (·.1) = ds.map keyD → XY xs ys → (∀ d ∈ ds, kyD 7 d = true) → ∀ y ∈ ys, NestedIs s.heap y.1 (.ref y.2.1) ∧ y.1.depth ≤ 8
  | [], _, _, _, _, .nil, _, y, hy => nomatch hy
  | x :: xs, d :: ds, y :: ys, .cons q t, e, .cons a b _ r, ok, z, hz => by
    simp only [List.map_cons, List.cons.injEq] at e
    rcases List.mem_cons.mp hz with rfl | hz
    · have k := key_is I 7 _ d (.ref x.2.1) q (ok d List.mem_cons_self) rfl
      rw [← a, ← b, e.1]
      exact ⟨k, Nat.le_succ_of_le (ky_depth 7 d (ok d List.mem_cons_self))⟩
    · exact keys_are I t e.2 r (fun d m => ok d (List.mem_cons_of_mem _ m)) z hz
theorem dctOf (I : L2.Inv X pins σ H s) {a : Addr} {ob : Obj} {xs : List XE} {ds : List D} (e : H a = some (DictO X.w a ob xs)) (rk : RpL (kw X) as O H (xs.map fun x => V.ref x.2.1) ds) (ek : xs.map (·.1) = ds.map keyD) (ok : ∀ d ∈ ds, kyD 7 d = true) :
    (a == sysModules) = false ∧ xs.length ≤ sizeLine ∧ ∃ ys, XY xs ys ∧ s.heap.DictOfH (nestedKind X.prog X.w) a ys := by
  obtain ⟨⟨hd, hz, hn, ys, m, vl, es, ep, h1, h2, h3, h4⟩, _, _⟩ := (show ObjOk X.prog X.w H s.heap a (DictO X.w a ob xs) from I.hok a _ e)
  have r := xy_of m vl
  exact ⟨hd, hz, ys, r, ob, es, ep, h1, h2, h3, h4, keys_are I rk ek r ok, by rw [r.keys]; exact hn⟩
end
def rSetD (X : Cx) : TSet := fun x y v H Q => ∃ as O a b ob xs ds kd, x = .ref a ∧ y = .ref b ∧ H a = some (DictO X.w a ob xs) ∧ RpL (kw X) as O H (xs.map fun x => V.ref x.2.1) ds ∧ xs.map (·.1) = ds.map keyD ∧ (∀ d ∈ ds, kyD 7 d = true) ∧
  Rp (kw X) as O H (.ref b) kd ∧ kyD 7 kd = true ∧ xs.length < sizeLine ∧ ∀ o', Q (upd H a (DictO X.w a o' (putX xs (keyD kd) b v)))
theorem set_dct {X : Cx} (hu : X.A.units + 64 < cLine) : PSet X (rSetD X) := by
  intro pins s σ H x y v ov iv u Q I r1 r2 r3 q
  obtain ⟨as, O, a, b, ob, xs, ds, kd, rfl, rfl, e, rk, ek, ok, rb, kb, hl, q⟩ := q
  obtain rfl : ov = Value.ref a := r1
  obtain rfl : iv = Value.ref b := r2
  obtain ⟨hd, hz, ys, r, dd⟩ := dctOf I e rk ek ok
  have kk := key_is I 7 _ kd (.ref b) rb kb rfl
  refine wpAny_setItem_heap (knd := nestedKind X.prog X.w) (k := keyD kd) (hsz := by rw [r.length]; exact hz) (show X.A.units + 1 + 8 < cLine by omega) ⟨kk, Nat.le_succ_of_le (ky_depth 7 kd kb)⟩ dd fun h' dd' hs => ?_
  have r' := r.put (keyD kd) b r3
  obtain ⟨o', new⟩ : ∃ o', DictRel X.w h' a o' (putX xs (keyD kd) b v) := DictRel.of hd (by have := putX_len xs (keyD kd) b v; omega) r' dd'
  have he : ∃ o, h'.get? a = some o := by
    obtain ⟨o, _, _, h1, _⟩ := dd'
    exact ⟨o, h1⟩
  exact ⟨_, d_write I (by rw [e]; exact True.intro) hs he new.ok, q o'⟩
def hasD (kvs : List (D × D)) (k : D) : Bool := kvs.any fun p => decide (keyD p.1 = keyD k)
def stD (kvs : List (D × D)) (k v : D) : List (D × D) := if hasD kvs k = true then kvs.map (fun p => if keyD p.1 = keyD k then (p.1, v) else p) else kvs ++ [(k, v)]
section
variable {K : KW} {as : List Addr} {O : Addr → Prop} {H : Hp}
theorem has_eq : ∀ {xs : List XE} {kvs : List (D × D)} (k : D), xs.map (·.1) = kvs.map (fun kv => keyD kv.1) → hasX xs (keyD k) = hasD kvs k
  | [], [], _, _ => rfl
  | x :: xs, p :: kvs, k, e => by
    simp only [List.map_cons, List.cons.injEq] at e
    have ih := has_eq k e.2
    unfold hasX hasD at *
    rw [List.any_cons, List.any_cons, ih, e.1]
  | [], _ :: _, _, e => by simp at e
  | _ :: _, [], _, e => by simp at e
theorem put_repl : ∀ {xs : List XE} {kvs : List (D × D)} {k vd : D} {v : V}, xs.map (·.1) = kvs.map (fun kv => keyD kv.1) → RpL K as O H (xs.map (·.2.2)) (kvs.map (·.2)) → Rp K as O H v vd →
    RpL K as O H ((xs.map fun x => if x.1 = keyD k then (x.1, x.2.1, v) else x).map (·.2.2)) ((kvs.map fun p => if keyD p.1 = keyD k then (p.1, vd) else p).map (·.2))
  | [], [], _, _, _, _, _, _ => .nil
  | x :: xs, p :: kvs, k, vd, v, e, .cons q t, r => by
    simp only [List.map_cons, List.cons.injEq] at e
    simp only [List.map_cons]
    by_cases h : x.1 = keyD k
    · rw [if_pos h, if_pos (e.1.symm.trans h)]
      exact .cons r (put_repl e.2 t r)
    · rw [if_neg h, if_neg (fun z => h (e.1.trans z))]
      exact .cons q (put_repl e.2 t r)
  | [], _ :: _, _, _, _, e, _, _ => by simp at e
  | _ :: _, [], _, _, _, e, _, _ => by simp at e
theorem repl_addr (k : NestedKey) (v : V) (xs : List XE) : ((xs.map fun x => if x.1 = k then (x.1, x.2.1, v) else x).map fun x => V.ref x.2.1) = xs.map fun x => V.ref x.2.1 := by
  rw [List.map_map]
  refine List.map_congr_left fun x _ => ?_
  show V.ref (if x.1 = k then (x.1, x.2.1, v) else x).2.1 = _
  split <;> rfl
theorem repl_keyX (k : NestedKey) (v : V) (xs : List XE) : ((xs.map fun x => if x.1 = k then (x.1, x.2.1, v) else x).map (·.1)) = xs.map (·.1) := by
  rw [List.map_map]
  refine List.map_congr_left fun x _ => ?_
  show (if x.1 = k then (x.1, x.2.1, v) else x).1 = _
  split <;> rfl
theorem repl_keyD (k vd : D) (kvs : List (D × D)) : ((kvs.map fun p => if keyD p.1 = keyD k then (p.1, vd) else p).map (·.1)) = kvs.map (·.1) := by
  rw [List.map_map]
  refine List.map_congr_left fun x _ => ?_
  show (if keyD x.1 = keyD k then (x.1, vd) else x).1 = _
  split <;> rfl
theorem putD_keysOk {kvs : List (D × D)} {k v : D} (h : keysOk kvs = true) (h2 : (isTupD k && kyD 7 k) = true) : keysOk (stD kvs k v) = true := by
  unfold keysOk at *
  unfold stD
  split
  · have : ∀ p ∈ kvs.map (fun p => if keyD p.1 = keyD k then (p.1, v) else p), ∃ q ∈ kvs, q.1 = p.1 := fun p hp => by
      obtain ⟨q, hq, rfl⟩ := List.mem_map.mp hp
      refine ⟨q, hq, ?_⟩
      split <;> rfl
    rw [List.all_eq_true] at *
    intro p hp
    obtain ⟨q, hq, e⟩ := this p hp
    rw [← e]
    exact h q hq
  · rw [List.all_append, h]
    simp only [List.all_cons, List.all_nil, h2, Bool.and_self]
theorem put_cell {xs : List XE} {kvs : List (D × D)} {a b : Addr} {ob : Obj} {k vd : D} {v : V} (e : H a = some (DictO K.w a ob (putX xs (keyD k) b v))) (rk : RpL K as O H (xs.map fun x => V.ref x.2.1) (kvs.map (·.1))) (rv : RpL K as O H (xs.map (·.2.2)) (kvs.map (·.2)))
    (ek : xs.map (·.1) = kvs.map fun kv => keyD kv.1) (ok : keysOk kvs = true) (rb : Rp K as O H (.ref b) k) (r : Rp K as O H v vd) (kb : (isTupD k && kyD 7 k) = true) : CellR K as O H a (.dct (stD kvs k vd)) := by
  have hh := has_eq k ek
  have ok' := putD_keysOk (v := vd) ok kb
  by_cases h : hasD kvs k = true
  · have ex : putX xs (keyD k) b v = xs.map (fun x => if x.1 = keyD k then (x.1, x.2.1, v) else x) := if_pos (by rw [hh]; exact h)
    have ed : stD kvs k vd = kvs.map (fun p => if keyD p.1 = keyD k then (p.1, vd) else p) := if_pos h
    rw [ex] at e
    rw [ed] at ok' ⊢
    refine .dct e ?_ (put_repl ek rv r) ?_ ok'
    · rw [repl_addr, repl_keyD]; exact rk
    · rw [repl_keyX, ek]
      have q : ∀ l : List (D × D), (l.map fun kv => keyD kv.1) = (l.map (·.1)).map keyD := fun l => by rw [List.map_map]; rfl
      rw [q, q, repl_keyD]
  · have ex : putX xs (keyD k) b v = xs ++ [(keyD k, b, v)] := if_neg (by rw [hh]; exact h)
    have ed : stD kvs k vd = kvs ++ [(k, vd)] := if_neg h
    rw [ex] at e
    rw [ed] at ok' ⊢
    refine .dct e ?_ ?_ ?_ ok'
    · rw [List.map_append, List.map_append]; exact RpL.append rk (.cons rb .nil)
    · rw [List.map_append, List.map_append]; exact RpL.append rv (.cons r .nil)
    · rw [List.map_append, List.map_append, ek]; rfl
end
theorem keysOk_ky {kvs : List (D × D)} (h : keysOk kvs = true) : ∀ d ∈ kvs.map (·.1), kyD 7 d = true := fun d hd => by
  obtain ⟨p, hp, rfl⟩ := List.mem_map.mp hd
  have := List.all_eq_true.mp h p hp
  simp only [Bool.and_eq_true] at this
  exact this.2
section
variable {X : Cx} {pos : Pos} {e b : Expr} {f fb fa : Ev} {fr : Bool}
def eDct0 : Ev := fun _ S => some (.dct [], S)
theorem dict_empty {P : Program} {w : World} (h : Heap) (hb : sysModules < h.objs.size) : ∃ o, ∀ H : Hp, ObjOk P w H (h.push { cls := .type "dict", data := .dict #[] }) h.objs.size (DictO w h.objs.size o []) :=
  let ⟨o, r⟩ := (DictRel.of (P := P) (beq_eq_false_iff_ne.mpr (Ne.symm (Nat.ne_of_lt hb))) (Nat.zero_le _) .nil (Heap.DictOfH.new h))
  ⟨o, fun _ => r.ok⟩
def tDNew (w : World) : TE := fun _ H Q => ∀ p o, H p = none → Q (.ref p) (upd H p (DictO w p o []))
theorem pe_dnew : PE X (.Dict [] [] pos) (tDNew X.w) := ⟨fun pins s σ H Q I h => by
  obtain ⟨o, ho⟩ := dict_empty (P := X.prog) (w := X.w) s.heap (Inv.big I)
  exact wpAny_Dict_empty ⟨.ref s.heap.objs.size, _, I.laid (a := s.heap.objs.size) (o := DictO X.w s.heap.objs.size o []) (t' := s.toks) (fun _ _ q => Heap.get?_push_of_some _ q) (Nat.le_refl _) (ho _), rfl, h _ o (I.hok.fresh (Nat.le_refl _))⟩⟩
theorem mf_dct0 : PE X (.Dict [] [] pos) (tOfF (kw X) eDct0) := pe_dnew.weak fun σ H Q q => by
  obtain ⟨as, O, ρ, S, d, S', R, hf, k⟩ := q
  cases hf
  intro p ob hp
  have q := new_cells (o := DictO X.w p ob []) R.wf R.cells hp
  exact k p _ hp (Same.stp (same_new hp)) q.1 (.dct upd_same .nil .nil rfl rfl)
def sDPut (i : Nat) (f fk : Ev) : Sv := fun ρ S => (f ρ S).bind fun p => (fk ρ p.2).bind fun q => match ρ[i]? with
  | some (.own (.dct kvs)) => if (isTupD q.1 && kyD 7 q.1 && decide (kvs.length < 16777216)) = true then some (.nx (ρ.set i (.own (.dct (stD kvs q.1 p.1)))) q.2) else none
  | _ => none
theorem rp_tup_ref {K : KW} {as : List Addr} {O : Addr → Prop} {H : Hp} {v : V} {d : D} (h : isTupD d = true) (r : Rp K as O H v d) : ∃ b, v = .ref b := by
  cases r with
  | tup _ _ => exact ⟨_, rfl⟩
  | _ => cases h
theorem ms_dput (i : Nat) {x : Str} {px tpos : Pos} (hu : X.A.units + 64 < cLine) (ho : PE X (.Name x px) (tVar i)) (hj : PE X b (tOf (kw X) fb)) (he : PE X e (tOf (kw X) f))
    (ha : ∀ v, assign (.Subscript (.Name x px) b tpos) X.env v = (do
      let ov ← holding [v] (eval (.Name x px) X.env)
      let iv ← holding [v, ov] (eval b X.env)
      standAt tpos
      holding [v, ov, iv] (setItem ov iv v)
      release [v, ov, iv] []) := by intro _; rfl)
    (hs : swapsWithSole [.Subscript (.Name x px) b tpos] e pos.line X.env = pure false := by rfl) (hw : swappedStores [.Subscript (.Name x px) b tpos] e X.env = pure none := by rfl)
    (h1 : (assignEach [.Subscript (.Name x px) b tpos] X.env).map (·.2) = [assign (.Subscript (.Name x px) b tpos) X.env] := by rfl) :
    PS X (.Assign [.Subscript (.Name x px) b tpos] e pos) (tOfS fr (kw X) (sDPut i f fb)) :=
  (ps_asg he (pg_sub ho hj (set_dct hu) ha) hs hw h1).weak fun D σ H q => by
    obtain ⟨as, O, B, G, ρ, S, o, R, hf, k⟩ := q
    unfold sDPut at hf
    obtain ⟨⟨d1, S1⟩, h1, hf⟩ := Option.bind_eq_some_iff.mp hf
    obtain ⟨⟨d2, S2⟩, h2, hf⟩ := Option.bind_eq_some_iff.mp hf
    split at hf
    · rename_i kvs hx
      split at hf
      · rename_i hc
        cases hf
        have hc : (isTupD d2 && kyD 7 d2 && decide (kvs.length < 16777216)) = true := hc
        rw [Bool.and_eq_true] at hc
        have kb := hc.1
        have hlt := of_decide_eq_true hc.2
        obtain ⟨p, h3, nb, ng, cp⟩ := R.own i _ hx
        cases cp with
        | @dct ob xs _ hp t tv ek ok =>
          refine ⟨as, _, ρ, S, d1, S1, R.e, h1, fun v H1 s1 c1 r1 => ⟨.ref p, h3, ?_⟩⟩
          have R1 := R.step s1 c1
          refine ⟨as, _, ρ, S1, d2, S2, R1.e, h2, fun w H2 s2 c2 r2 => ?_⟩
          have R2 := R1.step s2 c2
          rw [Bool.and_eq_true] at kb
          obtain ⟨b', rfl⟩ := rp_tup_ref kb.1 r2
          have hp2 : H2 p = some (DictO X.w p ob xs) := s2 p _ (R.notas nb) (s1 p _ (R.notas nb) hp)
          have t2 := (t.stp R.wf s1).stp R1.wf s2
          have tv2 := (tv.stp R.wf s1).stp R1.wf s2
          have r1' := r1.stp R1.wf s2
          have kk : ∀ o', Kp (OO O ρ σ) H2 (upd H2 p (DictO X.w p o' (putX xs (keyD d2) b' v))) := fun o' c u n e => by
            rw [upd_ne (fun z => n (by rw [z]; exact .inr ⟨i, _, hx, h3⟩))]
            exact e
          have xl : xs.length = kvs.length := by
            have := congrArg List.length ek
            rwa [List.length_map, List.length_map] at this
          refine ⟨as, _, p, b', ob, xs, kvs.map (·.1), d2, rfl, rfl, hp2, t2, by rw [ek, List.map_map]; rfl, keysOk_ky ok, r2, kb.2, by rw [sizeLine_eq]; omega, fun o' => ?_⟩
          have kb2 : (isTupD d2 && kyD 7 d2) = true := by rw [Bool.and_eq_true]; exact kb
          exact k _ _ (R2.mutOwn (o := DictO X.w p o' (putX xs (keyD d2) b' v)) hx h3 trivial (put_cell upd_same (RpL.kp R2.wf.nt (kk o') _ _ t2) (RpL.kp R2.wf.nt (kk o') _ _ tv2) ek ok (Rp.kp R2.wf.nt (kk o') _ _ r2) (Rp.kp R2.wf.nt (kk o') _ _ r1') kb2))
      · cases hf
    · cases hf
def lOfK : D → Option (List D)
  | .dct kvs => some (kvs.map (·.1))
  | _ => none
theorem RpB.dct {K : KW} {as : List Addr} {O : Addr → Prop} {H : Hp} {v : V} {kvs : List (D × D)} (r : RpB K as O H v (.dct kvs)) : ∃ a ob xs, v = .ref a ∧ H a = some (DictO K.w a ob xs) ∧ RpL K as O H (xs.map fun x => V.ref x.2.1) (kvs.map (·.1)) ∧ RpL K as O H (xs.map (·.2.2)) (kvs.map (·.2)) ∧ (xs.map (·.1)) = (kvs.map fun kv => keyD kv.1) ∧ keysOk kvs = true := by
  rcases r with r | ⟨a, e, _, c⟩
  · cases r with
    | dct _ h r t e k => exact ⟨_, _, _, rfl, h, r, t, e, k⟩
  · cases c with
    | dct h r t e1 k => exact ⟨a, _, _, e, h, r, t, e1, k⟩
theorem cd_listK (hc : X.calm = true) : CallR X (.type "list") (rF1 (kw X) lOfK) := by
  intro pins s σ H xs us Q I r q
  obtain ⟨as, O, d, rr, x, rfl, w, rd, hg, k⟩ := q
  unfold lOfK at hg
  split at hg
  · cases hg
    obtain ⟨a, ob, ws, rfl, h, rk, rv, ek, ok⟩ := rd.dct
    obtain ⟨u, rfl, rx⟩ := vals1 r
    obtain rfl : u = Value.ref a := rx
    obtain ⟨hd, hz, ys, xy, dd⟩ := dctOf I h rk (by rw [ek, List.map_map]; rfl) (keysOk_ky ok)
    obtain ⟨es, ep, hr, hes, hat⟩ := dd.raw
    have hl := xy.length
    refine PySem.W.kdl_call (KdlSrc.rawDict hd) (I.ok.hd hc) hr (by rw [hes, hl]; exact hz) fun h' tk acc' c' hkeep hS hacc => ?_
    have vl : Vals (ws.map fun x => V.ref x.2.1) acc'.toList := by
      have el : acc'.toList.length = acc'.size := by simp
      refine L2.vals_of_at (by rw [List.length_map, el, hacc.1, hes, hl]) fun j x v h1 h2 => ?_
      obtain ⟨hj, hv⟩ := hacc.2 j v (by rw [← Array.getElem?_toList]; exact h2)
      obtain ⟨y, hy, hk, _⟩ := hat j hj
      rw [List.getElem?_map] at h1
      have m := congrArg (fun l => l[j]?) xy.maps
      simp only [List.getElem?_map, hy, Option.map_some] at m
      cases hw : ws[j]? with
      | none => rw [hw] at h1; cases h1
      | some z =>
        rw [hw] at h1 m
        cases h1
        simp only [Option.map_some, Option.some.injEq, Prod.mk.injEq] at m
        rw [hv, hk, m.2]
        exact rfl
    exact ⟨.ref s.heap.objs.size, _, I.laid hkeep (Nat.le_refl _) (show ObjOk X.prog X.w _ _ _ (.lst (ws.map fun x => V.ref x.2.1)) from ⟨by rw [List.length_map]; exact hz, acc'.toList, c', vl, by rw [Array.toArray_toList]; exact hS⟩), rfl, k _ _ rk (I.hok.fresh (Nat.le_refl _))⟩
  · cases hg
end
end DL
namespace DL
open PySem PySem.Spec PyProof.Rows L2
def rangeDn (i j : Int) : List D := (List.range (i - j).toNat).map fun k => .int (i + (k : Nat) * (-1))
def iRange3 (fs : Ea) : Ea := fun ρ S => (fs ρ S).bind fun q => match q.1 with
  | [.int i, .int j, .int c] => if (inWord i && (inWord j && decide (c = -1))) = true then some (rangeDn i j, q.2) else none
  | _ => none
theorem rangeDn_len (i j : Int) : (rangeDn i j).length = (i - j).toNat := by simp [rangeDn]
theorem rangeDn_get {lo hi : Int} {i : Nat} {d : D} (h : (rangeDn lo hi)[i]? = some d) : i < (lo - hi).toNat ∧ d = .int (lo + (i : Nat) * (-1)) := by
  unfold rangeDn at h
  rw [List.getElem?_map] at h
  by_cases hi' : i < (lo - hi).toNat
  · rw [List.getElem?_range hi'] at h
    cases h
    exact ⟨hi', rfl⟩
  · rw [List.getElem?_eq_none (by simpa using hi')] at h
    cases h
theorem walk_rangeC {K : KW} {as : List Addr} {O : Addr → Prop} {lo hi : Int} {H1 : Hp} : Walk K as O (Itc lo (-1) (lo - hi).toNat) H1 (rangeDn lo hi) := fun i H2 kp => by
  refine ⟨fun e => ?_, fun d hd => ?_⟩
  · show (lo - hi).toNat ≤ i
    rw [e, rangeDn_len]
    exact Nat.le_refl _
  · obtain ⟨h, rfl⟩ := rangeDn_get hd
    refine ⟨h, fun x H3 y => ?_⟩
    obtain ⟨rfl, rfl⟩ := y
    exact ⟨Same.refl _, .int _⟩
theorem mi_range3 {X : Cx} {tg a b c : Expr} {fs : Ea} {p pos : Pos} (hg : Gl X "range") (hm : X.mg "range" = none) (ha : PA X [a, b, c] (tOfA (kw X) fs))
    (hs : starEach [a, b, c] X.env = (false, eval a X.env) :: starEach [b, c] X.env := by rfl) (hpl : (backTo pos (starEach [b, c] X.env)).any (·.1) = false := by rfl) :
    PI X tg (.Call (.Name "range" p) [a, b, c] [] pos) (tOfI (kw X) (iRange3 fs)) := by
  refine ⟨fun pins s σ H R I h => ?_⟩
  obtain ⟨as, O, ρ, S, ds, S', R0, hf, k⟩ := h
  unfold iRange3 at hf
  obtain ⟨⟨dd, S1⟩, h1, hf⟩ := Option.bind_eq_some_iff.mp hf
  refine (pi_range3 hg hm ha hs hpl).run pins s σ H R I ⟨as, O, ρ, S, dd, S1, R0, h1, fun vs H1 s1 c1 r1 => ?_⟩
  split at hf
  · rename_i i j z e
    have e : dd = [.int i, .int j, .int z] := e
    subst e
    split at hf
    · rename_i hw
      cases hf
      cases r1 with
      | cons ra rr =>
        cases rr with
        | cons rb rr =>
          cases rr with
          | cons rc rr =>
            cases rr
            cases ra
            cases rb
            cases rc
            unfold inWord at hw
            simp only [Bool.and_eq_true, decide_eq_true_eq] at hw
            obtain ⟨⟨w1, w2⟩, ⟨w3, w4⟩, w5⟩ := hw
            subst w5
            exact ⟨i, j, -1, _, rfl, RgC.neg (by omega) (by omega) (by omega) (by omega), k (Itc i (-1) (i - j).toNat) H1 s1 c1 walk_rangeC⟩
    · cases hf
  · cases hf
theorem range3_s {fs : Ea} {i j : Int} {ρ : List Slot} {S S' : List D} (h : fs ρ S = some ([.int i, .int j, .int (-1)], S')) (hw : inWord i = true) (hw2 : inWord j = true) : iRange3 fs ρ S = some (rangeDn i j, S') := by
  unfold iRange3
  rw [h, Option.bind_some]
  have : (inWord i && (inWord j && decide ((-1 : Int) = -1))) = true := by rw [hw, hw2]; rfl
  exact if_pos this
end DL
namespace DL
open PySem PySem.Spec PyProof.Rows L2
theorem XY.get : ∀ {xs : List XE} {ys : List YE} {i : Nat} {x : XE}, XY xs ys → xs[i]? = some x → ∃ y, ys[i]? = some y ∧ x.1 = y.1 ∧ x.2.1 = y.2.1 ∧ RelV x.2.2 y.2.2
  | _, _, 0, _, .cons a b q _, h => by cases h; exact ⟨_, rfl, a, b, q⟩
  | _, _, i + 1, _, .cons _ _ _ t, h => XY.get (i := i) t h
theorem DictRel.entry {w : World} {h : Heap} {a : Addr} {o : Obj} {xs : List XE} (r : DictRel w h a o xs) {es : Array DictEntry} {ep : Nat} (hd : o.data = .dict es ep) :
    (a == sysModules) = false ∧ h.DictRaw a es ep ∧ es.size = xs.length ∧ ∀ (i : Nat) (hi : i < es.size) (x : XE), xs[i]? = some x → es[i].key = .ref x.2.1 ∧ RelV x.2.2 es[i].val := by
  obtain ⟨hs, hz, hn, ys, m, vl, es', ep', h1, h2, h3, h4⟩ := r
  rw [hd] at h3
  cases h3
  have xy := xy_of m vl
  have hl : es.size = ys.length := by
    have := congrArg List.length h4
    rw [List.length_map] at this
    rw [← this]; simp
  refine ⟨hs, ⟨o, h1, h2, hd⟩, by rw [hl, xy.length], fun i hi x hx => ?_⟩
  obtain ⟨y, hy, e1, e2, rv⟩ := xy.get hx
  have e : es[i]? = some ⟨NestedKey.hash w y.1, .ref y.2.1, y.2.2⟩ := by
    rw [← Array.getElem?_toList, h4, List.getElem?_map, hy]; rfl
  rw [Array.getElem?_eq_getElem hi] at e
  have e' := Option.some.inj e
  rw [e', e2]
  exact ⟨rfl, rv⟩
theorem DictRel.data {w : World} {h : Heap} {a : Addr} {o : Obj} {xs : List XE} (r : DictRel w h a o xs) : ∃ es ep, o.data = .dict es ep := by
  obtain ⟨_, _, _, _, _, _, es, ep, _, _, h3, _⟩ := r
  exact ⟨es, ep, h3⟩
theorem rel_of {X : Cx} {pins : List (Addr × Obj)} {σ : L2.St} {H : Hp} {s : Shared} (I : L2.Inv X pins σ H s) {a : Addr} {o : Obj} {xs : List XE} (e : H a = some (DictO X.w a o xs)) : DictRel X.w s.heap a o xs :=
  (show ObjOk X.prog X.w H s.heap a (DictO X.w a o xs) from I.hok a _ e).1
def ItX (w : World) (d : Addr) (o : Obj) (xs : List XE) : It :=
  ⟨fun i H => H d = some (DictO w d o xs) ∧ i < xs.length, fun i H v H' => ∃ T x, v = .ref T ∧ xs[i]? = some x ∧ H T = none ∧ H' = upd H T (.tup [.ref x.2.1, x.2.2]), fun i H => H d = some (DictO w d o xs) ∧ xs.length ≤ i⟩
theorem turn_itX {P : Program} {w : World} {K : PySem.W.Frag} {elts : List Expr} {kk : Nat} {tpos : Pos} {d : Addr} {o : Obj} {xs : List XE} {es : Array DictEntry} {ep : Nat} (it : Addr) (hod : o.data = .dict es ep) :
    Turn P w K (.Tuple elts kk tpos) (ItX w d o xs) [it] it (fun i h => ∃ ok ov, IsItemIter h it d i xs.length ep ok ov) where
  mem := by simp
  obj := fun i h st b hb => by
    have e : b = it := by simpa using hb
    subst e
    obtain ⟨ok, ov, e⟩ := st
    exact ⟨_, e, fun v z => nomatch z⟩
  keep := fun i h h' st k => let ⟨ok, ov, e⟩ := st; ⟨ok, ov, k it (by simp) _ e⟩
  item := by
    intro X hP hw hK hc i pins s σ H E I hf st hg
    subst hP hw hK
    obtain ⟨hd, hi⟩ := hg
    obtain ⟨ok, ov, he⟩ := st
    obtain ⟨hs, hm, hsz, ent⟩ := (rel_of I hd).entry hod
    have hlt : it < s.heap.objs.size := Heap.lt_size he
    have hi' : i < es.size := by omega
    rw [← hsz] at he
    obtain ⟨ek, ev⟩ := ent i hi' xs[i] (List.getElem?_eq_getElem hi)
    refine wpAny_pyNext_items_item_raw he hm hi' fun h' ho hT hz hk => ?_
    refine ⟨_, rfl, wpAny_letOwnedTupleGo_items (s := { s with heap := h' }) ho fun h'' he' sb => ?_⟩
    have hT2 : h''.get? s.heap.objs.size = some { cls := .type "tuple", data := .seq #[es[i].key, es[i].val] } := (sb.2 _ (Nat.ne_of_gt hlt)).trans hT
    have new : ObjOk X.prog X.w (upd H s.heap.objs.size (.tup [.ref xs[i].2.1, xs[i].2.2])) h'' s.heap.objs.size (.tup [.ref xs[i].2.1, xs[i].2.2]) :=
      ⟨by show 2 ≤ sizeLine; decide, [es[i].key, es[i].val], .cons ek (.cons ev .nil), ⟨_, hT2, rfl, _, rfl⟩⟩
    have I1 : Inv X pins σ (upd H s.heap.objs.size (.tup [.ref xs[i].2.1, xs[i].2.2])) { s with heap := h'' } :=
      I.turnedNew (t' := s.toks) (ch := [it]) (fun b ob hb e => (sb.2 b (by simpa using hb)).trans (hk b ob (by simpa using hb) e)) hf (Nat.le_refl _) new
    refine ⟨.ref s.heap.objs.size, _, I1, rfl, ⟨_, xs[i], rfl, List.getElem?_eq_getElem hi, I.hok.fresh (Nat.le_refl _), rfl⟩, ⟨es[i].key, es[i].val, ?_⟩, fun b hb => ?_⟩
    · rw [← hsz]; exact he'
    · have e : b = it := by simpa using hb
      rw [e, upd_ne (Nat.ne_of_lt hlt)]
      exact (hf it (by simp)).1
  done := by
    intro X hP hw hK hc i pins s σ H E I hf st hg
    subst hP hw hK
    obtain ⟨hd, hi⟩ := hg
    obtain ⟨f0, f1, f2, f3, f4, f5⟩ := hf it (by simp)
    obtain ⟨ok, ov, he⟩ := st
    obtain ⟨hs, hm, hsz, ent⟩ := (rel_of I hd).entry hod
    rw [← hsz] at he
    exact wpAny_pyNext_items_end_raw (I.ok.hd hc) he hm (by omega) fun h' eb => ⟨rfl, I.turned (t' := s.toks) (fun b ob hb e => eb b ob hb e) f0 f1 f3 f4 f5⟩
  self := fun A i s Q E st h => let ⟨_, _, e⟩ := st; PySem.W.kcp_self e h
def iItems (f : Ev) : Ea := fun ρ S => (f ρ S).bind fun q => match q.1 with
  | .dct kvs => some (kvs.map fun p => .tup [p.1, p.2], q.2)
  | _ => none
theorem mi_items {X : Cx} {e : Expr} {f : Ev} {elts : List Expr} {kk : Nat} {tpos apos cpos : Pos} (he : PE X e (tOf (kw X) f)) (hbase : attributeBase e "items" X.env (eval e X.env) = eval e X.env := by rfl) (hline : (apos.endLine == cpos.line) = true := by rfl) :
    PI X (.Tuple elts kk tpos) (.Call (.Attribute e "items" apos) [] [] cpos) (tOfI (kw X) (iItems f)) := by
  refine ⟨fun pins s σ H R I h => ?_⟩
  obtain ⟨as, O, ρ, S, ds, S', R0, hf, k⟩ := h
  unfold iItems at hf
  obtain ⟨⟨dd, S1⟩, h1, hf⟩ := Option.bind_eq_some_iff.mp hf
  refine wpAny_Call_method (T := "dict") (id := "dict.items") hbase rfl hline PySem.F.plainAttrs_dict PySem.F.slot_dict_items PySem.F.type_dict_items (thn (he.run pins s σ H (fun v H1 => Stp as H H1 ∧ Cells (kw X) as O H1 S1 ∧ Rp (kw X) as O H1 v dd) I ⟨as, O, ρ, S, dd, S1, R0, h1, fun v H' s c r => ⟨s, c, r⟩⟩) fun u s1 ⟨v, H1, I1, rv, s1', c1, rr⟩ => ?_)
  have w1 := R0.wf.step s1' c1
  split at hf
  case h_2 => cases hf
  case h_1 kvs e =>
  have e : dd = .dct kvs := e
  subst e
  cases hf
  cases rr with
  | @dct a ob xs _ n hq rk rvv ek ok =>
  obtain rfl : u = Value.ref a := rv
  have rel := rel_of I1 hq
  obtain ⟨es, ep, hod⟩ := rel.data
  obtain ⟨hs, hm, hsz, ent⟩ := rel.entry hod
  have ht : s1.TypeIs (.ref a) "dict" := hm.typeIs
  refine ⟨ht, fun b q => ?_, ?_⟩
  · cases q
    obtain ⟨o, ho, hx, _⟩ := hm
    exact ⟨o, ho, hx.2.1⟩
  have I2 : Inv X pins σ H1 { s1 with heap := s1.heap.push { cls := .type "dict_items", data := .fields #[.ref a] } } := I1.kept (t' := s1.toks) fun b ob q => Heap.get?_push_of_some _ q
  have q : R (ItX X.w a ob xs) H1 := by
    refine k _ H1 s1' c1 fun i H2 kp => ?_
    have b1 : H2 a = some (DictO X.w a ob xs) := kp _ _ n hq
    have hl : xs.length = kvs.length := by
      have := congrArg List.length ek
      rwa [List.length_map, List.length_map] at this
    refine ⟨fun z => ⟨b1, by rw [z, List.length_map, hl]; exact Nat.le_refl _⟩, fun d hd => ?_⟩
    rw [List.getElem?_map] at hd
    cases hk : kvs[i]? with
    | none => rw [hk] at hd; cases hd
    | some p =>
      rw [hk] at hd
      cases hd
      obtain ⟨v1, hv1, r1⟩ := rk.get (i := i) (d := p.1) (by rw [List.getElem?_map, hk]; rfl)
      obtain ⟨v2, hv2, r2⟩ := rvv.get (i := i) (d := p.2) (by rw [List.getElem?_map, hk]; rfl)
      have hi : i < xs.length := by rw [hl]; exact (List.getElem?_eq_some_iff.mp hk).1
      refine ⟨⟨b1, hi⟩, fun v H3 yl => ?_⟩
      obtain ⟨T, x, rfl, hx, nT, rfl⟩ := yl
      rw [List.getElem?_map, hx] at hv1 hv2
      cases hv1
      cases hv2
      have sm := same_new (o := .tup [.ref x.2.1, x.2.2]) nT
      have kk : Kp O H1 (upd H2 T (.tup [.ref x.2.1, x.2.2])) := fun a u n e => sm a u (kp a u n e)
      exact ⟨sm, .tup (.inl (.inl upd_same)) (RpL.later w1 kk (.cons r1 (.cons r2 .nil)))⟩
  have fin : wpAny (model X.prog X.w) X.A (pyIter (.ref s1.heap.objs.size)) (PIE X pins σ (.Tuple elts kk tpos) R) X.xe { s1 with heap := s1.heap.push { cls := .type "dict_items", data := .fields #[.ref a] } } := by
    refine wpAny_pyIter_items_raw (d := a) ⟨_, Heap.get?_push_size _ rfl, rfl, rfl⟩ (hm.push _) (pi_one (tk := s1.toks) I2 _ (turn_itX _ hod) ⟨.none, .none, ?_⟩ q)
    rw [← hsz]
    exact Heap.get?_push_size _ rfl
  show wpAny _ _ (callWith cpos (.builtin "dict.items") [.ref a] [] []) _ X.xe s1
  exact method_meetsIn PySem.F.slot_dict_items PySem.F.entry_dict_items rfl (PySem.evalArgs_none ⟨rfl, ht, PySem.F.args_dict_items_1 _, _, meets_dict_items_raw a hs, ⟨es, ep, hm⟩, fin⟩)
def valD (kvs : List (D × D)) (k : D) : Option D := (kvs.find? fun p => decide (keyD p.1 = keyD k)).map (·.2)
def eDGet (fo fk fe : Ev) : Ev := fun ρ S => (fo ρ S).bind fun p => (fk ρ p.2).bind fun q => (fe ρ q.2).bind fun r => match p.1 with
  | .dct kvs => if (isTupD q.1 && kyD 7 q.1) = true then some ((valD kvs q.1).getD r.1, r.2) else none
  | _ => none
theorem val_get {K : KW} {as : List Addr} {O : Addr → Prop} {H : Hp} (k : D) : ∀ {xs : List XE} {ys : List YE} {kvs : List (D × D)}, XY xs ys → xs.map (·.1) = kvs.map (fun kv => keyD kv.1) → RpL K as O H (xs.map (·.2.2)) (kvs.map (·.2)) →
    (atKey ys (keyD k) = none ∧ valD kvs k = none) ∨ ∃ (p : Addr × Value) (v : V) (d : D), atKey ys (keyD k) = some p ∧ valD kvs k = some d ∧ RelV v p.2 ∧ Rp K as O H v d
  | _, _, [], .nil, _, _ => .inl ⟨rfl, rfl⟩
  | _, _, _ :: _, .nil, e, _ => by simp at e
  | _, _, [], .cons _ _ _ _, e, _ => by simp at e
  | x :: xs, y :: ys, p :: kvs, .cons a b q t, e, .cons r rr => by
    simp only [List.map_cons, List.cons.injEq] at e
    by_cases h : y.1 = keyD k
    · have h1 : keyD p.1 = keyD k := by rw [← e.1, a, h]
      refine .inr ⟨y.2, x.2.2, p.2, ?_, ?_, q, r⟩
      · simp [atKey, h]
      · simp [valD, h1]
    · have h1 : ¬ keyD p.1 = keyD k := by rw [← e.1, a]; exact h
      have e1 : atKey (y :: ys) (keyD k) = atKey ys (keyD k) := by simp [atKey, h]
      have e2 : valD (p :: kvs) k = valD kvs k := by simp [valD, h1]
      rw [e1, e2]
      exact val_get k t e.2 rr
section
variable {X : Cx} {pos : Pos} {e b c : Expr} {f fb fc : Ev} {fr : Bool}
theorem me_dget2 {apos cpos : Pos} (hu : X.A.units + 64 < cLine) (ho : PE X e (tOfB (kw X) f)) (hb : PE X b (tOf (kw X) fb)) (hc : PE X c (tOf (kw X) fc))
    (hbase : attributeBase e "get" X.env (eval e X.env) = eval e X.env := by rfl)
    (hfew : ((backTo cpos (starEach [b, c] X.env)).all (fun x => !x.1) && (backToKw cpos (keywordEach [] X.env)).all (fun x => x.1.isSome)
      && decide (([b, c] : List Expr).length + ([] : List Keyword).length + (if ([] : List Keyword).isEmpty then 0 else 1) < 30)) = true := by rfl)
    (hline : (apos.endLine == cpos.line) = true := by rfl) (htr : backTo cpos (starEach [b, c] X.env) = [(false, eval b X.env), (false, eval c X.env)] := by rfl) :
    PE X (.Call (.Attribute e "get" apos) [b, c] [] cpos) (tOf (kw X) (eDGet f fb fc)) := by
  refine ⟨fun pins s σ H Q I h => ?_⟩
  obtain ⟨as, O, ρ, S, d, S', R, hf, k⟩ := h
  unfold eDGet at hf
  obtain ⟨⟨d1, S1⟩, h1, hf⟩ := Option.bind_eq_some_iff.mp hf
  obtain ⟨⟨d2, S2⟩, h2, hf⟩ := Option.bind_eq_some_iff.mp hf
  obtain ⟨⟨d3, S3⟩, h3, hf⟩ := Option.bind_eq_some_iff.mp hf
  obtain ⟨kvs, rfl⟩ : ∃ kvs, d1 = .dct kvs := by
    cases d1 <;> first | exact ⟨_, rfl⟩ | cases hf
  dsimp only at hf
  split at hf
  case isFalse => cases hf
  case isTrue kb =>
  have kb : (isTupD d2 && kyD 7 d2) = true := kb
  rw [Bool.and_eq_true] at kb
  cases hf
  refine wpAny_Call_method hbase hfew hline PySem.F.plainAttrs_dict PySem.F.slot_dict_get PySem.F.type_dict_get (thn (ho.run pins s σ H (fun v H1 => Stp as H H1 ∧ Cells (kw X) as O H1 S1 ∧ RpB (kw X) as O H1 v (.dct kvs)) I ⟨as, O, ρ, S, _, S1, R, h1, fun v H' s c r => ⟨s, c, r⟩⟩) fun u s1 ⟨v, H1, I1, rv, s1', c1, rr⟩ => ?_)
  obtain ⟨a, ob, xs, rfl, hq, rk, rvv, ek, ok⟩ := rr.dct
  obtain rfl : u = Value.ref a := rv
  obtain ⟨es, ep, hod⟩ := (rel_of I1 hq).data
  obtain ⟨hs, hm, hsz, ent⟩ := (rel_of I1 hq).entry hod
  refine ⟨hm.typeIs, fun b q => ?_, ?_⟩
  · cases q
    obtain ⟨o, ho, hx, _⟩ := hm
    exact ⟨o, ho, hx.2.1⟩
  rw [htr]
  have R1 := R.step s1' c1
  refine Calls.callWith_builtin rfl (Calls.evalArgs_plain (Calls.spliced_cons (thn (hb.run pins s1 σ H1 (fun v H2 => Stp as H1 H2 ∧ Cells (kw X) as O H2 S2 ∧ Rp (kw X) as O H2 v d2) I1 ⟨as, O, ρ, S1, d2, S2, R1, h2, fun v H' s c r => ⟨s, c, r⟩⟩) fun iv s2 ⟨y, H2, I2, ry, s2', c2, r2⟩ => ?_)))
  have R2 := R1.step s2' c2
  refine Calls.spliced_cons (thn (hc.run pins s2 σ H2 (fun v H3 => Stp as H2 H3 ∧ Cells (kw X) as O H3 S' ∧ Rp (kw X) as O H3 v d3) I2 ⟨as, O, ρ, S2, d3, S', R2, h3, fun v H' s c r => ⟨s, c, r⟩⟩) fun fv s3 ⟨z, H3, I3, rz, s3', c3, r3⟩ => Calls.spliced_nil ?_)
  have R3 := R2.step s3' c3
  obtain ⟨b', rfl⟩ := rp_tup_ref kb.1 r2
  obtain rfl : iv = Value.ref b' := ry
  have nb : a ∉ as ∨ False := by
    rcases rr with rr | ⟨a', e', n, cc⟩
    · cases rr with
      | dct n _ _ _ _ _ => exact .inl fun m => n (R1.wf.sub _ m)
    · cases e'
      exact .inl n
  have na : a ∉ as := nb.resolve_right id
  have hq3 : H3 a = some (DictO X.w a ob xs) := s3' a _ na (s2' a _ na hq)
  obtain ⟨_, _, ys, xy, dd⟩ := dctOf I3 hq3 ((rk.stp R1.wf s2').stp R2.wf s3') (by rw [ek, List.map_map]; rfl) (keysOk_ky ok)
  have kk := key_is I3 7 _ d2 (.ref b') (r2.stp R2.wf s3') kb.2 rfl
  have tv3 := (rvv.stp R1.wf s2').stp R2.wf s3'
  have st : Stp as H H3 := (s1'.trans s2').trans s3'
  refine call_meetsIn PySem.F.slot_dict_get dd.typeIs PySem.F.entry_dict_get (PySem.F.args_dict_get_3 _ _ _) (meetsH_dict_get_default (nestedKind X.prog X.w) a b' hs fv) ⟨(show X.A.units + 1 + 8 < cLine by omega), keyD d2, ys, ⟨kk, Nat.le_succ_of_le (ky_depth 7 d2 kb.2)⟩, dd, ?_⟩
  rcases val_get d2 xy ek tv3 with ⟨h4, h5⟩ | ⟨p, v0, dv, h4, h5, rv0, rd0⟩
  · rw [h4]
    exact ⟨z, H3, I3.tok _, rz, k _ H3 st c3 (by rw [h5]; exact r3)⟩
  · rw [h4]
    exact ⟨v0, H3, I3.tok _, rv0, k _ H3 st c3 (by rw [h5]; exact rd0)⟩
end
end DL
namespace DL
open PySem PySem.Spec PyProof.Rows L2
section
variable {X : Cx}
theorem d_setX {pins : List (Addr × Obj)} {σ : L2.St} {H : Hp} {s : Shared} {E : Value → Shared → Prop} {D : Addr} {y v : V} {u r : Value} {N : Hp → Prop} {Q : Unit → Shared → Prop} (hu : X.A.units + 64 < cLine) (I : L2.Inv X pins σ H s) (ry : RelV y u) (rv : RelV v r)
    (q : rSetD X (.ref D) y v H N) (h : ∀ s' H', L2.Inv X pins σ H' s' → N H' → Q () s') : wpAny (model X.prog X.w) X.A (dictSet D u r) Q E s := by
  obtain ⟨as, O, a, b, ob, xs, ds, kd, e0, rfl, e, rk, ek, ok, rb, kb, hl, q⟩ := q
  cases e0
  obtain rfl : u = Value.ref b := ry
  obtain ⟨hd, hz, ys, r, dd⟩ := dctOf I e rk ek ok
  have kk := key_is I 7 _ kd (.ref b) rb kb rfl
  refine wpAny_dictSet_heap (knd := nestedKind X.prog X.w) (k := keyD kd) (hsz := by rw [r.length]; exact hz) (show X.A.units + 8 < cLine by omega) ⟨kk, Nat.le_succ_of_le (ky_depth 7 kd kb)⟩ dd fun h' dd' hs => ?_
  have r' := r.put (keyD kd) b rv
  obtain ⟨o', new⟩ : ∃ o', DictRel X.w h' D o' (putX xs (keyD kd) b v) := DictRel.of hd (by have := putX_len xs (keyD kd) b v; omega) r' dd'
  have he : ∃ o, h'.get? D = some o := by
    obtain ⟨o, _, _, h1, _⟩ := dd'
    exact ⟨o, h1⟩
  exact h _ _ (d_write I (by rw [e]; exact True.intro) hs he new.ok) (q o')
def tDx (X : Cx) (wi : TI) (g : TG) (tt : TT) (tk tv : TE) (vs : List Nat) : TE := fun σ H Q => wi σ H fun J H1 => ∀ D o, H1 D = none → ∃ W : Nat → Nat → Hp → Prop, (∃ m, W 0 m (upd H1 D (DictO X.w D o []))) ∧ ∀ i m H, W i m H →
  (J.stop i H ∧ Q (.ref D) H) ∨ (J.go i H ∧ ∃ Nx : Hp → Prop, (∀ H', Nx H' → ∃ m', m' < m ∧ W (i + 1) m' H') ∧ ∀ x H', J.yld i H x H' → g x (wipe σ vs) H' fun σ2 H2 => wipe σ2 vs = wipe σ vs ∧ tt σ2 H2 fun b H3 =>
    if b = true then tk σ2 H3 fun y H4 => tv σ2 H4 fun z H5 => rSetD X (.ref D) y z H5 Nx else Nx H3)
theorem dx_core {pins : List (Addr × Obj)} {s : Shared} {σ : L2.St} {H : Hp} {Q : VK} {kx vx tg iter : Expr} {ifs : List Expr} {scope : Scope} {own : List (Str × Nat)} {pos pos' : Pos} {wi : TI} {g : TG} {tt : TT} {tk tv : TE} {use : Option (Value → Sem Unit)} {Qf : Value → Shared → Prop}
    (hu : X.A.units + 64 < cLine) (hc : X.calm = true) (hN : X.N.Nodup) (I : Inv X pins σ H s) (hi : PI X tg iter wi) (ok : BlkOk X.N X.env.scope scope own)
    (hg : ∀ (s : Shared) (H : Hp) (C : Addr) (cl : List (Str × Addr)) (fp : List Addr), PG (X.blk s H scope (compEnvC scope cl C X.env) fp) tg g) (ht : ∀ (s : Shared) (H : Hp) (C : Addr) (cl : List (Str × Addr)) (fp : List Addr), PTs (X.blk s H scope (compEnvC scope cl C X.env) fp) ifs tt)
    (hk : ∀ (s : Shared) (H : Hp) (C : Addr) (cl : List (Str × Addr)) (fp : List Addr), PE (X.blk s H scope (compEnvC scope cl C X.env) fp) kx tk)
    (he : ∀ (s : Shared) (H : Hp) (C : Addr) (cl : List (Str × Addr)) (fp : List Addr), PE (X.blk s H scope (compEnvC scope cl C X.env) fp) vx tv) (hs : ∀ x, foldedSetIterable iter X.env x = pure x)
    (h : tDx X wi g tt tk tv (own.map (·.2)) σ H Q)
    (hRR : ∀ D C s' m H', Inv X pins σ H' s' → Q (.ref D) H' → s'.heap.Ns C m → FpOk X pins H' C → compPost (model X.prog X.w) X.A X.xe use Qf (.ref D) C (.ok .next) s') :
    wpAny (model X.prog X.w) X.A (comprehension (.DictComp kx vx [⟨tg, iter, ifs, 0⟩] scope pos) scope X.env pos' newDict false (eval iter X.env) use) Qf X.xe s := by
  have hfree : ∀ y ∈ scope.names, y.2 = .free → ∃ c, X.env.cells.lookup y.1 = some c := fun y hy e => by
    rcases ok.free y hy e with k | k
    · exact I.ok.has _ (.inl k)
    · exact I.ok.has _ (.inr k)
  refine wpAny_comprehension_free (use := use) rfl hs (closure_ok hfree) ok.kind (fun y hy e => by rw [ok.uniq y hy, e])
    (thn (hi.run pins s σ H _ I h) fun xv s1 hx => thn hx fun itv s2 h2 => ?_)
  obtain ⟨it, fp, tn, J, H2, e, I2, T, st2, f2, q⟩ := h2
  subst e
  refine wpAny_newObj_type (newEnv_comp ?_)
  generalize hD : s2.heap.objs.size = D
  have hDn : H2 D = none := I2.hok.fresh (Nat.le_of_eq hD)
  obtain ⟨o0, ho0⟩ := dict_empty (P := X.prog) (w := X.w) s2.heap (Inv.big I2)
  rw [hD] at ho0
  obtain ⟨W, ⟨m0, w0⟩, turn⟩ := q D o0 hDn
  generalize hs3 : ({ s2 with heap := s2.heap.push { cls := .type "dict", data := .dict #[] } } : Shared) = s3
  have I3 : Inv X pins σ (upd H2 D (DictO X.w D o0 [])) s3 := by
    rw [← hs3]
    refine I2.laid (t' := s2.toks) (fun b o e => Heap.get?_push_of_some _ e) (Nat.le_of_eq hD) ?_
    exact ho0 _
  have h3 : s3.heap = s2.heap.push { cls := .type "dict", data := .dict #[] } := by rw [← hs3]
  have sz : ∀ b ∈ fp, b < s2.heap.objs.size := fun b hb => by
    obtain ⟨o, e, _⟩ := T.obj _ _ st2 b hb
    exact Heap.lt_size e
  have f3 : ∀ b ∈ fp, FpOk X pins (upd H2 D (DictO X.w D o0 [])) b ∧ b < s3.heap.objs.size := fun b hb => by
    have hlt := sz b hb
    refine ⟨⟨?_, (f2 b hb).2⟩, by rw [h3, Heap.size_push]; exact Nat.lt_succ_of_lt hlt⟩
    rw [upd_ne (by rw [← hD]; exact Nat.ne_of_lt hlt)]
    exact (f2 b hb).1
  have st3 : tn 0 s3.heap := T.keep _ _ _ st2 fun b _ o e => by rw [h3]; exact Heap.get?_push_of_some _ e
  have I4 := block_start I3 ok hN f3
  have pg := hg s3 (upd H2 D (DictO X.w D o0 [])) s3.heap.objs.size (cellsFrom (s3.heap.objs.size + 1) scope.names (cloFrom X.env.cells scope.names [])) fp
  have pt := ht s3 (upd H2 D (DictO X.w D o0 [])) s3.heap.objs.size (cellsFrom (s3.heap.objs.size + 1) scope.names (cloFrom X.env.cells scope.names [])) fp
  have pk := hk s3 (upd H2 D (DictO X.w D o0 [])) s3.heap.objs.size (cellsFrom (s3.heap.objs.size + 1) scope.names (cloFrom X.env.cells scope.names [])) fp
  have pe := he s3 (upd H2 D (DictO X.w D o0 [])) s3.heap.objs.size (cellsFrom (s3.heap.objs.size + 1) scope.names (cloFrom X.env.cells scope.names [])) fp
  show codeAny _ _ (.compStart (.DictComp kx vx [⟨tg, iter, ifs, 0⟩] scope pos) 0 (.ref it) (.ref D) (compEnvC scope (cellsFrom (s3.heap.objs.size + 1) scope.names (cloFrom X.env.cells scope.names [])) s3.heap.objs.size X.env)) (compPost (model X.prog X.w) X.A X.xe use Qf (.ref D) s3.heap.objs.size) { s3 with heap := pushCells (s3.heap.push { cls := .type "dict", data := .dict #[] }) scope.names }
  have nfp : ∀ b ∈ fp, (upd H2 D (DictO X.w D o0 [])) b = none := fun b hb => (f3 b hb).1.1
  generalize hce : compEnvC scope (cellsFrom (s3.heap.objs.size + 1) scope.names (cloFrom X.env.cells scope.names [])) s3.heap.objs.size X.env = ce at I4 pg pt pk pe ⊢
  have cL : ce.locals = s3.heap.objs.size := by subst hce; rfl
  generalize hH3 : upd H2 D (DictO X.w D o0 []) = H3 at I3 I4 pg pt pk pe w0 nfp f3
  generalize hs4 : ({ s3 with heap := pushCells (s3.heap.push { cls := .type "dict", data := .dict #[] }) scope.names } : Shared) = s4 at I4 ⊢
  have st4 : tn 0 s4.heap := T.keep _ _ _ st3 fun b _ o e => by rw [← hs4]; exact pushCells_keeps _ _ _ _ (Heap.get?_push_of_some _ e)
  have stat : ∀ {σ' : L2.St} {H' : Hp} {s' : Shared}, Inv (X.blk s3 H3 scope ce fp) [] σ' H' s' → (∀ b ∈ fp, H' b = none) → ∀ b ∈ fp, FpOk (X.blk s3 H3 scope ce fp) [] H' b := fun {σ' H' s'} I' hn b hb =>
    ⟨hn b hb, (I'.ok.exf b hb).1, I'.ok.exfs b hb, .inl hb, fun x c e => (I'.ok.exf b hb).2 x c e, fun p hp => absurd (show p ∈ ([] : List (Addr × Obj)) ++ [] from hp) (by simp)⟩
  have loop : codeAny (model X.prog X.w) X.A (.compLoop (.DictComp kx vx [⟨tg, iter, ifs, 0⟩] scope pos) 0 (.ref it) (.ref D) ce) (compPost (model X.prog X.w) X.A X.xe use Qf (.ref D) s3.heap.objs.size) s4 := by
    refine compLoop_anyD (fun n s' => ∃ i H', Inv (X.blk s3 H3 scope ce fp) [] (wipe σ (own.map (·.2))) H' s' ∧ tn i s'.heap ∧ (∀ b ∈ fp, H' b = none) ∧ W i n H') ?_ m0 ⟨0, H3, I4, st4, nfp, w0⟩
    rintro n s5 ⟨i, H5, I5, st5, n5, w5⟩
    rcases turn i n H5 w5 with ⟨stop, qq⟩ | ⟨go, Nx, hNx, step⟩
    · have td := T.done (X.blk s3 H3 scope ce fp) rfl rfl rfl hc i [] s5 _ H5 (fun _ _ => False) I5 (stat I5 n5) st5 stop
      refine thnF td fun r s6 ⟨hr, I6⟩ => ?_
      subst hr
      have I7 : Inv X pins σ H5 s6 := I3.call' (ch := fp) I6.os I6.base I6.hok I6.bare fun b hb => ⟨(f3 b hb).1.2.2.2.1, (f3 b hb).1.2.1, (f3 b hb).1.2.2.2.2.1, (f3 b hb).1.2.2.2.2.2⟩
      have nC : H5 s3.heap.objs.size = none := by
        have z : H5 ce.locals = none := I6.free
        rw [cL] at z
        exact z
      obtain ⟨m, hn, _⟩ := I6.loc
      have hn : s6.heap.Ns ce.locals m := hn
      rw [cL] at hn
      exact hRR D s3.heap.objs.size s6 m H5 I7 qq hn (I3.fpOk (Nat.le_refl _) nC)
    · have ti := T.item (X.blk s3 H3 scope ce fp) rfl rfl rfl hc i [] s5 _ H5 (fun _ _ => False) I5 (stat I5 n5) st5 go
      refine thnF ti fun r s6 ⟨u, hr, h6⟩ => ?_
      subst hr
      refine thnF h6 fun _ s7 ⟨x, H7, I7, r7, y7, st7, n7⟩ => ?_
      have I7' := I7.pinned (stat I7 n7) (T.obj _ _ st7)
      refine thnF (pg.run _ s7 _ H7 x u _ I7' r7 (step x H7 y7)) fun _ s8 ⟨σ8, H8, I8, hw8, q8⟩ => ?_
      refine thnF (pt.run _ s8 σ8 H8 _ I8 q8) fun b s9 ⟨H9, I9, q9⟩ => ?_
      have fin : ∀ {s' : Shared} {H' : Hp}, Inv (X.blk s3 H3 scope ce fp) ([] ++ pinsAt fp s7.heap) σ8 H' s' → Nx H' → ∃ m, m < n ∧ ∃ i H', Inv (X.blk s3 H3 scope ce fp) [] (wipe σ (own.map (·.2))) H' s' ∧ tn i s'.heap ∧ (∀ b ∈ fp, H' b = none) ∧ W i m H' := fun {s' H'} I' nx => by
        obtain ⟨m', hm, w'⟩ := hNx H' nx
        have pin' : ∀ b ∈ fp, ∀ o, s7.heap.get? b = some o → s'.heap.get? b = some o ∧ H' b = none := fun b hb o e =>
          let z := I'.pin (b, o) (List.mem_append_right _ (List.mem_append_right _ (mem_pinsAt hb e)))
          ⟨z.1, z.2.1⟩
        have hl : (wipe σ (own.map (·.2))).length = σ8.length := by rw [← hw8, wipe_length]
        refine ⟨m', hm, i + 1, H', (I'.unpinned (pins := [])).weak hl (fun j v e => ?_), T.keep _ _ _ st7 fun b hb o e => (pin' b hb o e).1, fun b hb => ?_, w'⟩
        · rw [← hw8] at e
          exact (wipe_some e).1
        · obtain ⟨o, e, _⟩ := T.obj _ _ st7 b hb
          exact (pin' b hb o e).2
      cases b with
      | false =>
        simp only [Bool.false_eq_true, if_false] at q9 ⊢
        exact fin I9 q9
      | true =>
        simp only [if_true] at q9 ⊢
        refine thnF (pk.run _ s9 σ8 H9 _ I9 q9) fun z s10 ⟨yk, H10, I10, r10, q10⟩ => ?_
        refine thnF (pe.run _ s10 σ8 H10 _ I10 q10) fun z2 s11 ⟨yv, H11, I11, r11, nx⟩ => ?_
        exact d_setX (X := X.blk s3 H3 scope ce fp) hu I11 r10 r11 nx fun s12 H12 I12 nx => fin I12 nx
  exact codeAny_compStart_dict loop (T.self X.A 0 _ _ _ st4 loop)
theorem pe_dx {kx vx tg iter : Expr} {ifs : List Expr} {scope : Scope} {own : List (Str × Nat)} {pos : Pos} {wi : TI} {g : TG} {tt : TT} {tk tv : TE} (hu : X.A.units + 64 < cLine) (hc : X.calm = true) (hN : X.N.Nodup) (hi : PI X tg iter wi) (ok : BlkOk X.N X.env.scope scope own)
    (hg : ∀ (s : Shared) (H : Hp) (C : Addr) (cl : List (Str × Addr)) (fp : List Addr), PG (X.blk s H scope (compEnvC scope cl C X.env) fp) tg g) (ht : ∀ (s : Shared) (H : Hp) (C : Addr) (cl : List (Str × Addr)) (fp : List Addr), PTs (X.blk s H scope (compEnvC scope cl C X.env) fp) ifs tt)
    (hk : ∀ (s : Shared) (H : Hp) (C : Addr) (cl : List (Str × Addr)) (fp : List Addr), PE (X.blk s H scope (compEnvC scope cl C X.env) fp) kx tk)
    (he : ∀ (s : Shared) (H : Hp) (C : Addr) (cl : List (Str × Addr)) (fp : List Addr), PE (X.blk s H scope (compEnvC scope cl C X.env) fp) vx tv) (hs : ∀ x, foldedSetIterable iter X.env x = pure x := by intro _; rfl) :
    PE X (.DictComp kx vx [⟨tg, iter, ifs, 0⟩] scope pos) (tDx X wi g tt tk tv (own.map (·.2))) := by
  refine ⟨fun pins s σ H Q I h => ?_⟩
  rw [arm_eval_DictComp]
  refine dx_core hu hc hN I hi ok hg ht hk he hs h fun D C s' m H' I' q hn f => ⟨m, hn, fun h'' sb => ?_⟩
  obtain ⟨f0, f1, f2, f3, f4, f5⟩ := f
  exact ⟨.ref D, H', I'.turned (t' := s'.toks) (fun b o hb e => (sb.2 b hb).trans e) f0 f1 f3 f4 f5, rfl, q⟩
theorem ps_setDx {i : Nat} {y : Str} {py : Pos} {kx vx tg iter : Expr} {ifs : List Expr} {scope : Scope} {own : List (Str × Nat)} {pos spos : Pos} {wi : TI} {g : TG} {tt : TT} {tk tv : TE} (hu : X.A.units + 64 < cLine) (hc : X.calm = true) (hN : X.N.Nodup) (hy : X.N[i]? = some y) (hyl : X.env.scope.names.lookup y = some .local)
    (hsw : swapsWith (.DictComp kx vx [⟨tg, iter, ifs, 0⟩] scope pos) (some (.Name y py)) spos.line X.env = pure true) (hi : PI X tg iter wi) (ok : BlkOk X.N X.env.scope scope own)
    (hg : ∀ (s : Shared) (H : Hp) (C : Addr) (cl : List (Str × Addr)) (fp : List Addr), PG (X.blk s H scope (compEnvC scope cl C X.env) fp) tg g) (ht : ∀ (s : Shared) (H : Hp) (C : Addr) (cl : List (Str × Addr)) (fp : List Addr), PTs (X.blk s H scope (compEnvC scope cl C X.env) fp) ifs tt)
    (hk : ∀ (s : Shared) (H : Hp) (C : Addr) (cl : List (Str × Addr)) (fp : List Addr), PE (X.blk s H scope (compEnvC scope cl C X.env) fp) kx tk)
    (he : ∀ (s : Shared) (H : Hp) (C : Addr) (cl : List (Str × Addr)) (fp : List Addr), PE (X.blk s H scope (compEnvC scope cl C X.env) fp) vx tv) (hs : ∀ x, foldedSetIterable iter X.env x = pure x := by intro _; rfl) :
    PS X (.Assign [.Name y py] (.DictComp kx vx [⟨tg, iter, ifs, 0⟩] scope pos) spos) (tAsg (tDx X wi g tt tk tv (own.map (·.2))) (gName i)) := by
  refine ⟨fun pins s σ H D I h => ?_⟩
  rw [exec_Assign_Name_used _ _ _ _ hsw]
  refine wpAny_bind (wpAny_standAt (wpAny_bind ?_))
  show wpAny _ X.A (do let _ ← comprehension (.DictComp kx vx [⟨tg, iter, ifs, 0⟩] scope pos) scope X.env (firstIterPos [⟨tg, iter, ifs, 0⟩] pos) newDict false (eval iter X.env) (some (assign (.Name y py) X.env))) _ _ s
  have h : tDx X wi g tt tk tv (own.map (·.2)) σ H (fun x H1 => gName i x σ H1 D.nx) := h
  refine wpAny_bind (thn (dx_core (Qf := fun _ s' => SP X pins D .next s') hu hc hN I hi ok hg ht hk he hs h fun L C s' m H' I' q hn f => ?_) fun _ s' hq => wpAny_pure (wpAny_pure hq))
  show wpAny _ _ (assign (.Name y py) X.env (.ref L)) _ _ _
  refine wpAny_assign_Name (store_ok2 (v := V.ref L) I' hN hy (.inl hyl) rfl (fun s2 I2 ⟨a, sb, ha⟩ => ?_) (.inr hyl))
  obtain ⟨f0, f1, f2, f3, f4, f5⟩ := f
  have haC : C ≠ a := by
    rcases ha with z | z
    · rw [z]; exact f1
    · exact fun e => f4 y a z e.symm
  refine ⟨m, hn.sameBut sb haC, fun h3 sb3 => ?_⟩
  exact ⟨_, H', I2.turned (t' := s2.toks) (fun b o hb e => (sb3.2 b hb).trans e) f0 f1 f3 f4 f5, q⟩
theorem swD_true {kx vx : Expr} {gs : List Comprehension} {scope : Scope} {pos py : Pos} {y : Str} {l : Nat} {env : Env} (hk : env.scope.kind = .function) (hy : env.scope.names.lookup y = some .local) (hl : (py.line == pos.line) = true)
    (ha : (scope.names.any fun (n, k) => n == y && (k == .local || k == .cell)) = false) : swapsWith (.DictComp kx vx gs scope pos) (some (.Name y py)) l env = pure true := by
  have ky : env.kindOf y = some .local := hy
  have hb : env.blockKind = .function := by unfold Env.blockKind; rw [hk]; rfl
  unfold swapsWith
  simp only [hb, ky, ha, Expr.pos, hl]
  rfl
end
end DL
namespace DL
open PySem PySem.Spec PyProof.Rows L2
section
variable {X : Cx} {pos : Pos} {e a b c : Expr} {f fa fb fk fv : Ev} {fc : Et} {fr : Bool} {it : Ea} {p : Pat}
theorem RelE.newO {K : KW} {as : List Addr} {O : Addr → Prop} {σ : L2.St} {H : Hp} {ρ : List Slot} {S : List D} {p : Addr} {ob : HO} (mo : Mut (some ob)) (R : RelE K as O σ H ρ S) (hp : H p = none) : RelE K as (ad O p) σ (upd H p ob) ρ S := by
  have sm := same_new (o := ob) hp
  have kk : Kp (ad O p) H (upd H p ob) := fun a u _ e => sm a u e
  have m1 : ∀ a, ad O p a → Nt (H a) := fun a o => by
    rcases o with o | o
    · exact R.wf.nt a o
    · rw [o, hp]; exact nt_none
  have rp : ∀ {v : V} {d : D}, Rp K as O H v d → Rp K as (ad O p) (upd H p ob) v d := fun r => Rp.kp m1 kk _ _ (Rp.ad hp _ _ r)
  have cr : ∀ {a : Addr} {d : D}, CellR K as O H a d → CellR K as (ad O p) (upd H p ob) a d := fun q => by
    cases q with
    | lst h r => exact .lst (sm _ _ h) (RpL.kp m1 kk _ _ (RpL.ad hp _ _ r))
    | dct h r t9 e9 k9 => exact .dct (sm _ _ h) (RpL.kp m1 kk _ _ (RpL.ad hp _ _ r)) (RpL.kp m1 kk _ _ (RpL.ad hp _ _ t9)) e9 k9
  refine ⟨⟨fun a m => .inl (R.wf.sub a m), fun a o => ?_, R.wf.nd⟩, ⟨R.cells.len, fun i a d e1 e2 => cr (R.cells.ix i a d e1 e2)⟩, R.len, fun i d h => ?_, fun i d h => ?_⟩
  · rcases o with o | o
    · rw [Same.eq sm (R.wf.trk o)]; exact R.wf.mt a o
    · rw [o, upd_same]; exact mo
  · obtain ⟨v, h2, r⟩ := R.val i d h
    exact ⟨v, h2, rp r⟩
  · obtain ⟨a, h2, n, c⟩ := R.own i d h
    exact ⟨a, h2, n, cr c⟩
structure CompD (K : KW) (as : List Addr) (O : Addr → Prop) (σ : L2.St) (H1 : Hp) (q : Addr) (vs : List Nat) (ρ : List Slot) (H : Hp) (kvs : List (D × D)) (S : List D) : Prop where
  rel : RelE K as (ad O q) (wipe σ vs) H (wipeD ρ vs) S
  cell : CellR K as (ad O q) H q (.dct kvs)
  kept : ∀ a u, a ∉ as → a ≠ q → H1 a = some u → H a = some u
section
variable {K : KW} {as : List Addr} {O : Addr → Prop} {σ : L2.St} {H0 H1 H H' : Hp} {q : Addr} {vs : List Nat} {ρ : List Slot} {kvs : List (D × D)} {S S' : List D}
theorem CompD.start {o : Obj} (R : RelE K as O σ H1 ρ S) (hp : H1 q = none) : CompD K as O σ H1 q vs ρ (upd H1 q (DictO K.w q o [])) [] S :=
  ⟨(RelE.newO (ob := DictO K.w q o []) trivial R hp).wipe vs, .dct upd_same .nil .nil rfl rfl, fun a u _ n h => (upd_ne n).trans h⟩
theorem CompD.step (C : CompD K as O σ H1 q vs ρ H kvs S) (hq : q ∉ as) (s : Stp as H H') (c : Cells K as (ad O q) H' S') : CompD K as O σ H1 q vs ρ H' kvs S' :=
  ⟨C.rel.step s c, C.cell.stp C.rel.wf s hq, fun a u n m e => s a u n (C.kept a u n m e)⟩
theorem CompD.push {o' : Obj} {xs : List XE} {bb : Addr} {k vd : D} {v : V} (C : CompD K as O σ H1 q vs ρ H kvs S) (R : RelE K as O σ H1 ρ S') (hp : H1 q = none)
    (rk : RpL K as (ad O q) H (xs.map fun x => V.ref x.2.1) (kvs.map (·.1))) (rv : RpL K as (ad O q) H (xs.map (·.2.2)) (kvs.map (·.2))) (ek : xs.map (·.1) = kvs.map fun kv => keyD kv.1) (ok : keysOk kvs = true)
    (rb : Rp K as (ad O q) H (.ref bb) k) (r : Rp K as (ad O q) H v vd) (kb : (isTupD k && kyD 7 k) = true) :
    CompD K as O σ H1 q vs ρ (upd H q (DictO K.w q o' (putX xs (keyD k) bb v))) (stD kvs k vd) S := by
  have hq : q ∉ as := fun m => R.wf.trk (R.wf.sub q m) hp
  have kk : Kp (ad O q) H (upd H q (DictO K.w q o' (putX xs (keyD k) bb v))) := fun a u n e => by
    rw [upd_ne (fun z => n (by rw [z]; exact .inr rfl))]
    exact e
  refine ⟨C.rel.growL (.inr rfl) hq (fun i d h e => ?_) trivial, put_cell upd_same (RpL.kp C.rel.wf.nt kk _ _ rk) (RpL.kp C.rel.wf.nt kk _ _ rv) ek ok (Rp.kp C.rel.wf.nt kk _ _ rb) (Rp.kp C.rel.wf.nt kk _ _ r) kb, fun a u n m e => (upd_ne m).trans (C.kept a u n m e)⟩
  obtain ⟨h1, h2⟩ := wipeD_some (x := .own d) (fun z => nomatch z) h
  rw [wipe_out h2] at e
  exact own_ne R hp i d h1 e
end
def dcompL (p : Pat) (c : Et) (fk fv : Ev) (ρ : List Slot) : List D → List (D × D) → List D → Option (List (D × D) × List D)
  | [], acc, S => some (acc, S)
  | x :: xs, acc, S => (binds p x).bind fun l => (c (putD ρ l) S).bind fun b => if b.1 = true then (fk (putD ρ l) b.2).bind fun k => (fv (putD ρ l) k.2).bind fun v =>
      if (isTupD k.1 && kyD 7 k.1) = true then dcompL p c fk fv ρ xs (stD acc k.1 v.1) v.2 else none
    else dcompL p c fk fv ρ xs acc b.2
def eDComp (p : Pat) (it : Ea) (c : Et) (fk fv : Ev) (vs : List Nat) : Ev := fun ρ S => (it ρ S).bind fun q => if q.1.length ≤ 16777216 then (dcompL p c fk fv (wipeD ρ vs) q.1 [] q.2).bind fun t => some (.dct t.1, t.2) else none
theorem stD_len (kvs : List (D × D)) (k v : D) : (stD kvs k v).length ≤ kvs.length + 1 := by
  unfold stD
  split
  · rw [List.length_map]; omega
  · rw [List.length_append]; exact Nat.le_refl _
theorem dcomp_weak {σ : L2.St} {H0 : Hp} {Q : VK} {vs : List Nat} (hv : p.ixs.all (fun i => decide (i ∈ vs)) = true) (h : tOfF (kw X) (eDComp p it fc fk fv vs) σ H0 Q) : tDx X (tOfI (kw X) it) (gOf (kw X) p) (tOfT (kw X) fc) (tOf (kw X) fk) (tOf (kw X) fv) vs σ H0 Q := by
  obtain ⟨as, O, ρ, S, d, S', R, hf, k⟩ := h
  unfold eDComp at hf
  obtain ⟨⟨ds, S1⟩, h1, hf⟩ := Option.bind_eq_some_iff.mp hf
  split at hf
  case isFalse => cases hf
  case isTrue hl =>
  obtain ⟨⟨ys, S2⟩, h2, hf⟩ := Option.bind_eq_some_iff.mp hf
  cases hf
  refine ⟨as, O, ρ, S, ds, S1, R, h1, fun J H1 s1 c1 wk D o hD => ?_⟩
  have R1 := R.step s1 c1
  have hDas : D ∉ as := fun m => R1.wf.trk (R1.wf.sub D m) hD
  have hD0 : H0 D = none := by
    cases z : H0 D with
    | none => rfl
    | some u => rw [s1 D u hDas z] at hD; cases hD
  refine ⟨fun i m H => m = ds.length - i ∧ i ≤ ds.length ∧ ∃ acc S, acc.length ≤ i ∧ CompD (kw X) as O σ H1 D vs ρ H acc S ∧ dcompL p fc fk fv (wipeD ρ vs) (ds.drop i) acc S = some (ys, S2), ⟨ds.length, rfl, Nat.zero_le _, [], S1, Nat.zero_le _, CompD.start R1 hD, h2⟩, ?_⟩
  rintro i m H ⟨rfl, hi, acc, Sx, ha, C, hc⟩
  have kp : Kp O H1 H := fun a u n e => C.kept a u (fun m => n (R1.wf.sub a m)) (fun z => by rw [z, hD] at e; cases e) e
  obtain ⟨wstop, wgo⟩ := wk i H kp
  by_cases hlt : i < ds.length
  · rw [List.drop_eq_getElem_cons hlt] at hc
    unfold dcompL at hc
    obtain ⟨l, hb, hc⟩ := Option.bind_eq_some_iff.mp hc
    obtain ⟨⟨b, S3⟩, hb2, hc⟩ := Option.bind_eq_some_iff.mp hc
    obtain ⟨go, yld⟩ := wgo ds[i] (List.getElem?_eq_getElem hlt)
    refine .inr ⟨go, fun H' => ∃ acc S, acc.length ≤ i + 1 ∧ CompD (kw X) as O σ H1 D vs ρ H' acc S ∧ dcompL p fc fk fv (wipeD ρ vs) (ds.drop (i + 1)) acc S = some (ys, S2), fun H' h' => ⟨ds.length - (i + 1), by omega, rfl, hlt, h'⟩, fun x H2 y => ?_⟩
    obtain ⟨sm, rx⟩ := yld x H2 y
    have C2 := C.step hDas (Same.stp sm) (C.rel.cells.same C.rel.wf sm)
    have rx2 : Rp (kw X) as (ad O D) H2 x ds[i] := Rp.anti (fun a o => o.elim .inl fun z => .inr (z ▸ hD)) _ _ rx
    refine ⟨as, _, ds[i], l, rx2, hb, fun vl rv => ⟨?_, ?_⟩⟩
    · rw [wipe_put, wipe_idem]
      rw [rv.ix, binds_ix _ _ _ hb]
      intro j hj
      exact of_decide_eq_true (List.all_eq_true.mp hv j hj)
    · have R2 := C2.rel.put rv
      refine ⟨as, _, putD (wipeD ρ vs) l, Sx, b, S3, R2, hb2, fun H3 s3 c3 => ?_⟩
      have C3 := C2.step hDas s3 c3
      cases b with
      | false => exact ⟨acc, S3, Nat.le_succ_of_le ha, C3, hc⟩
      | true =>
        rw [if_pos rfl] at hc
        obtain ⟨⟨d4, S4⟩, h4, hc⟩ := Option.bind_eq_some_iff.mp hc
        obtain ⟨⟨d5, S5⟩, h5, hc⟩ := Option.bind_eq_some_iff.mp hc
        split at hc
        case isFalse => cases hc
        case isTrue kb =>
        have kb : (isTupD d4 && kyD 7 d4) = true := kb
        have R3 := R2.step s3 c3
        refine ⟨as, _, putD (wipeD ρ vs) l, S3, d4, S4, R3, h4, fun y H4 s4 c4 ry => ?_⟩
        have C4 := C3.step hDas s4 c4
        have R4 := R3.step s4 c4
        refine ⟨as, _, putD (wipeD ρ vs) l, S4, d5, S5, R4, h5, fun z H5 s5 c5 rz => ?_⟩
        have C5 := C4.step hDas s5 c5
        have ry5 := ry.stp C4.rel.wf s5
        have kb2 := kb
        rw [Bool.and_eq_true] at kb2
        obtain ⟨b', rfl⟩ := rp_tup_ref kb2.1 ry5
        cases C5.cell with
        | @dct ob xs _ hp t tv ek ok =>
        have xl : xs.length = acc.length := by
          have := congrArg List.length ek
          rwa [List.length_map, List.length_map] at this
        have hl' : ds.length ≤ 16777216 := hl
        refine ⟨as, _, D, b', ob, xs, acc.map (·.1), d4, rfl, rfl, hp, t, by rw [ek, List.map_map]; rfl, keysOk_ky ok, ry5, kb2.2, by rw [sizeLine_eq]; omega, fun o' => ?_⟩
        refine ⟨stD acc d4 d5, S5, by have := stD_len acc d4 d5; omega, C5.push R1 hD t tv ek ok ry5 rz kb, hc⟩
  · have e : i = ds.length := by omega
    subst e
    rw [List.drop_length] at hc
    unfold dcompL at hc
    cases hc
    refine .inl ⟨wstop rfl, k D H hD0 (s1.trans fun a u n e => ?_) C.rel.cells C.cell⟩
    exact C.kept a u n (fun z => by rw [z, hD] at e; cases e) e
section
variable {tg iter kx vx : Expr} {ifs : List Expr} {scope : Scope} {own : List (Str × Nat)} {vs : List Nat}
theorem mf_dcomp (hu : X.A.units + 64 < cLine) (hc : X.calm = true) (hN : X.N.Nodup) (hi : PI X tg iter (tOfI (kw X) it)) (ok : BlkOk X.N X.env.scope scope own)
    (hg : ∀ (s : Shared) (H : Hp) (C : Addr) (cl : List (Str × Addr)) (fp : List Addr), PG (X.blk s H scope (compEnvC scope cl C X.env) fp) tg (gOf (kw X) p))
    (ht : ∀ (s : Shared) (H : Hp) (C : Addr) (cl : List (Str × Addr)) (fp : List Addr), PTs (X.blk s H scope (compEnvC scope cl C X.env) fp) ifs (tOfT (kw X) fc))
    (hk : ∀ (s : Shared) (H : Hp) (C : Addr) (cl : List (Str × Addr)) (fp : List Addr), PE (X.blk s H scope (compEnvC scope cl C X.env) fp) kx (tOf (kw X) fk))
    (he : ∀ (s : Shared) (H : Hp) (C : Addr) (cl : List (Str × Addr)) (fp : List Addr), PE (X.blk s H scope (compEnvC scope cl C X.env) fp) vx (tOf (kw X) fv))
    (ev : own.map (·.2) = vs := by rfl) (hv : p.ixs.all (fun i => decide (i ∈ vs)) = true := by rfl) (hs : ∀ x, foldedSetIterable iter X.env x = pure x := by intro _; rfl) :
    PE X (.DictComp kx vx [⟨tg, iter, ifs, 0⟩] scope pos) (tOfF (kw X) (eDComp p it fc fk fv vs)) :=
  (pe_dx hu hc hN hi ok hg ht hk he hs).weak fun σ H Q h => by
    rw [ev]
    exact dcomp_weak hv h
theorem ms_setDx {i : Nat} {y : Str} {py spos : Pos} (hu : X.A.units + 64 < cLine) (hc : X.calm = true) (hN : X.N.Nodup) (hy : X.N[i]? = some y) (hyl : X.env.scope.names.lookup y = some .local)
    (hsw : swapsWith (.DictComp kx vx [⟨tg, iter, ifs, 0⟩] scope pos) (some (.Name y py)) spos.line X.env = pure true) (hi : PI X tg iter (tOfI (kw X) it)) (ok : BlkOk X.N X.env.scope scope own)
    (hg : ∀ (s : Shared) (H : Hp) (C : Addr) (cl : List (Str × Addr)) (fp : List Addr), PG (X.blk s H scope (compEnvC scope cl C X.env) fp) tg (gOf (kw X) p))
    (ht : ∀ (s : Shared) (H : Hp) (C : Addr) (cl : List (Str × Addr)) (fp : List Addr), PTs (X.blk s H scope (compEnvC scope cl C X.env) fp) ifs (tOfT (kw X) fc))
    (hk : ∀ (s : Shared) (H : Hp) (C : Addr) (cl : List (Str × Addr)) (fp : List Addr), PE (X.blk s H scope (compEnvC scope cl C X.env) fp) kx (tOf (kw X) fk))
    (he : ∀ (s : Shared) (H : Hp) (C : Addr) (cl : List (Str × Addr)) (fp : List Addr), PE (X.blk s H scope (compEnvC scope cl C X.env) fp) vx (tOf (kw X) fv))
    (ev : own.map (·.2) = vs := by rfl) (hv : p.ixs.all (fun i => decide (i ∈ vs)) = true := by rfl) (hs : ∀ x, foldedSetIterable iter X.env x = pure x := by intro _; rfl) :
    PS X (.Assign [.Name y py] (.DictComp kx vx [⟨tg, iter, ifs, 0⟩] scope pos) spos) (tOfS fr (kw X) (sSet i (eDComp p it fc fk fv vs))) :=
  (ps_setDx hu hc hN hy hyl hsw hi ok hg ht hk he hs).weak fun D σ H h => by
    rw [ev]
    obtain ⟨as, O, B, G, ρ, S, o, R, hf, k⟩ := h
    unfold sSet at hf
    obtain ⟨⟨d1, S1⟩, h1, hf⟩ := Option.bind_eq_some_iff.mp hf
    cases hf
    refine dcomp_weak hv ⟨as, _, ρ, S, d1, S1, R.e, h1, fun q H1 n s1 c1 r1 => ?_⟩
    exact k _ _ ((R.step s1 (c1.anti ad_sub)).set i (r1.val (R.wf.nel n) ad_sub))
end
mutual
def noTx : NestedKey → Bool
  | .text _ => false
  | .tup ks => noTxs ks
  | _ => true
def noTxs : List NestedKey → Bool
  | [] => true
  | k :: ks => noTx k && noTxs ks
end
mutual
def hashN : NestedKey → Int
  | .none => reduceHash 0xFCA86420
  | .num i => hashInt i
  | .text _ => 0
  | .tup ks => reduceHash (Builtin.Tuple.tupleHashOf (hashNs ks))
def hashNs : List NestedKey → List Int
  | [] => []
  | k :: ks => hashN k :: hashNs ks
end
mutual
theorem hash_eq (w : World) : ∀ k : NestedKey, noTx k = true → NestedKey.hash w k = hashN k
  | .none, _ => by simp [NestedKey.hash, hashN]
  | .num i, _ => by simp [NestedKey.hash, hashN]
  | .text _, h => by simp [noTx] at h
  | .tup ks, h => by
    have := hashes_eq w ks (by simpa [noTx] using h)
    rw [NestedKey.hash, hashN, this]
theorem hashes_eq (w : World) : ∀ ks : List NestedKey, noTxs ks = true → NestedKey.hashes w ks = hashNs ks
  | [], _ => by simp [NestedKey.hashes, hashNs]
  | k :: ks, h => by
    have h : noTx k = true ∧ noTxs ks = true := by simpa [noTxs] using h
    rw [NestedKey.hashes, hashNs, hash_eq w k h.1, hashes_eq w ks h.2]
end
def apartD (kvs : List (D × D)) : Bool := kvs.all (fun p => noTx (keyD p.1)) && decide ((kvs.map fun p => hashN (keyD p.1)).Nodup)
def dCopy : D → Option D
  | .dct kvs => if apartD kvs = true then some (.dct kvs) else none
  | _ => none
def rDCopy (X : Cx) : List V → Hp → VK → Prop := fun vs H Q => ∃ as O x a ob xs kvs, vs = [x] ∧ x = .ref a ∧ Wf as O H ∧ H a = some (DictO X.w a ob xs) ∧ RpL (kw X) as O H (xs.map fun x => V.ref x.2.1) (kvs.map (·.1)) ∧
  (xs.map (·.1)) = (kvs.map fun kv => keyD kv.1) ∧ keysOk kvs = true ∧ apartD kvs = true ∧ ∀ p o, H p = none → Q (.ref p) (upd H p (DictO X.w p o xs))
theorem cr_dcopy (hu : X.A.units + 64 < cLine) : CallR X (.type "dict") (rDCopy X) := by
  intro pins s σ H vs us Q I r q
  obtain ⟨as, O, x, a, ob, xs, kvs, rfl, rfl, wf, hq, rk, ek, ok, ap, k⟩ := q
  obtain ⟨u, rfl, rx⟩ := vals1 r
  obtain rfl : u = Value.ref a := rx
  obtain ⟨hd, hz, ys, xy, dd⟩ := dctOf I hq rk (by rw [ek, List.map_map]; rfl) (keysOk_ky ok)
  refine callType_codes (Q₁ := fun obj s₁ => obj = .ref s.heap.objs.size ∧ s₁ = { s with heap := s.heap.push { cls := .type "dict", data := .dict #[] } }) PySem.F.kt_called_dict (PySem.F.kt_typeCall_dict_1 _) PySem.F.entry_dict_init (kt_code_dict_new _ ⟨rfl, rfl⟩) ?_
  rintro obj s₁ ⟨rfl, rfl⟩
  have hnew : (s.heap.push { cls := .type "dict", data := .dict #[] }).DictOfH (nestedKind X.prog X.w) s.heap.objs.size [] := Heap.DictOfH.new s.heap
  have I2 : Inv X pins σ H { s with heap := s.heap.push { cls := .type "dict", data := .dict #[] } } := I.kept (t' := s.toks) fun b ob q => Heap.get?_push_of_some _ q
  obtain ⟨_, _, ys2, xy2, dd2⟩ := dctOf I2 hq rk (by rw [ek, List.map_map]; rfl) (keysOk_ky ok)
  have hdo : s.heap.objs.size ≠ a := by
    obtain ⟨_, _, _, hg, _⟩ := dd
    exact fun e => absurd (Heap.lt_size hg) (by rw [e]; exact Nat.lt_irrefl _)
  refine ⟨hnew.typeIs, PySem.F.args_dict_init_2 _ _, ?_⟩
  unfold Builtin.«dict.__init__»
  refine wpAny_bind ?_
  unfold Builtin.Dict.selfAndRest
  refine wpAny_bind (wpAny_notOrdered_dict hnew.typeIs ?_)
  show wpAny _ _ (pure (s.heap.objs.size, [Value.ref a])) _ _ _
  refine wpAny_pure ?_
  show wpAny _ _ (Builtin.Dict.updateFrom "dict.__init__" s.heap.objs.size (.ref a) [] .none) _ _ _
  have hl2 := xy2.length
  have hap : (ys2.map fun x => (nestedKind X.prog X.w).hash x.1).Nodup := by
    have ap' := ap
    unfold apartD at ap'
    rw [Bool.and_eq_true] at ap'
    have nd := of_decide_eq_true ap'.2
    have e1 : (ys2.map fun x => (nestedKind X.prog X.w).hash x.1) = (ys2.map (·.1)).map (NestedKey.hash X.w) := by rw [List.map_map]; rfl
    rw [e1, xy2.keys, ek, List.map_map]
    refine (List.map_congr_left fun p hp => ?_) ▸ nd
    exact (hash_eq X.w _ (List.all_eq_true.mp ap'.1 p hp)).symm
  have hn : (ys2.map (·.1)).Nodup := dd2.nodup
  refine updateFrom_dictH (knd := nestedKind X.prog X.w) .none (show X.A.units + 1 + 1 + 8 < cLine by omega) hdo hd hnew dd2 (.inr ⟨keyed_apart nestedKind_stays dd2, hap⟩) (by simp; omega) fun h' hd' _ hs' => ?_
  rw [storedAllH_nil_of_nodup ys2 hn] at hd'
  have hb : (s.heap.objs.size == sysModules) = false := beq_eq_false_iff_ne.mpr (Ne.symm (Nat.ne_of_lt (Inv.big I)))
  obtain ⟨o', new⟩ : ∃ o', DictRel X.w h' s.heap.objs.size o' xs := DictRel.of hb hz xy2 hd'
  refine ⟨rfl, .ref s.heap.objs.size, _, I.laid (t' := s.toks) (fun b o q => ?_) (Nat.le_refl _) new.ok, rfl, k _ o' (I.hok.fresh (Nat.le_refl _))⟩
  exact (hs'.2 b (Nat.ne_of_lt (Heap.lt_size q))).trans (Heap.get?_push_of_some _ q)
theorem dcopy_weak {σ : L2.St} {H : Hp} {Q : VK} (q : tOfF (kw X) (eUn dCopy fa) σ H Q) : tCB (rDCopy X) (tCons (tOfB (kw X) fa) tNil) σ H Q := by
  obtain ⟨as, O, ρ, S, d, S', R, hf, k⟩ := q
  unfold eUn at hf
  obtain ⟨⟨d1, S1⟩, h1, hf⟩ := Option.bind_eq_some_iff.mp hf
  obtain ⟨r, h3, hf⟩ := Option.bind_eq_some_iff.mp hf
  cases hf
  refine ⟨as, O, ρ, S, d1, S1, R, h1, fun v H1 s1 c1 r1 => ?_⟩
  have R1 := R.step s1 c1
  obtain ⟨kvs, rfl⟩ : ∃ kvs, d1 = .dct kvs := by
    cases d1 <;> first | exact ⟨_, rfl⟩ | cases h3
  dsimp only [dCopy] at h3
  split at h3
  case isFalse => cases h3
  case isTrue ap =>
  cases h3
  obtain ⟨a, ob, xs, rfl, hq, rk, rv, ek, ok⟩ := r1.dct
  refine ⟨as, O, _, a, ob, xs, kvs, rfl, rfl, R1.wf, hq, rk, ek, ok, ap, fun p o hp => ?_⟩
  have q := new_cells (o := DictO X.w p o xs) R1.wf c1 hp
  exact k p _ (R.free s1 c1 hp) (s1.trans (Same.stp (same_new hp))) q.1 (.dct upd_same (q.2 _ _ rk) (q.2 _ _ rv) ek ok)
theorem mf_dcopy {x : Str} {p : Pos} (hu : X.A.units + 64 < cLine) (hg : Gl X x) (hm : X.mg x = none) (hv : bootBuiltins x = some (.type "dict")) (ha : PE X a (tOfB (kw X) fa)) (hn : x ≠ "__name__" := by decide) (hdb : (x == ("__debug__" : Str)) = false := by decide)
    (he : starEach [a] X.env = (false, eval a X.env) :: starEach [] X.env := by rfl) : PE X (.Call (.Name x p) [a] [] pos) (tOfF (kw X) (eUn dCopy fa)) := (pe_callTy (cr_dcopy hu) hg hm hv (pa_cons ha pa_nil he) hn hdb he rfl).weak fun _ _ _ => dcopy_weak
def eDisp (fk fv : Ev) : Ev := fun ρ S => (fk ρ S).bind fun k => (fv ρ k.2).bind fun v => if (isTupD k.1 && kyD 7 k.1) = true then some (.dct [(k.1, v.1)], v.2) else none
theorem mf_disp {dpos : Pos} (hu : X.A.units + 64 < cLine) (hk : PE X a (tOf (kw X) fk)) (hv : PE X b (tOf (kw X) fv))
    (hsh : (evalEachOpt [some a] X.env).zip ((evalEach [b] X.env).map fun v => do let x ← v; standAt dpos; pure x) = [((eval a X.env), (do let x ← eval b X.env; standAt dpos; pure x))].map fun p => (some p.1, p.2) := by rfl) :
    PE X (.Dict [some a] [b] dpos) (tOfF (kw X) (eDisp fk fv)) := by
  refine ⟨fun pins s σ H Q I h => ?_⟩
  obtain ⟨as, O, ρ, S, d, S', R, hf, k⟩ := h
  unfold eDisp at hf
  obtain ⟨⟨d1, S1⟩, h1, hf⟩ := Option.bind_eq_some_iff.mp hf
  obtain ⟨⟨d2, S2⟩, h2, hf⟩ := Option.bind_eq_some_iff.mp hf
  split at hf
  case isFalse => cases hf
  case isTrue kb =>
  cases hf
  dsimp only at k
  have kb : (isTupD d1 && kyD 7 d1) = true := kb
  have kb2 := kb
  rw [Bool.and_eq_true] at kb2
  rw [arm_eval_Dict, hsh, dictDisplay_pairs _ (by simp) (by simp)]
  refine wpAny_bind (wpAny_standAt (wpAny_bind ?_))
  have hb : (s.heap.objs.size == sysModules) = false := beq_eq_false_iff_ne.mpr (Ne.symm (Nat.ne_of_lt (Inv.big I)))
  have hp : H s.heap.objs.size = none := I.hok.fresh (Nat.le_refl _)
  obtain ⟨o, ho⟩ := dict_empty (P := X.prog) (w := X.w) s.heap (Inv.big I)
  have I1 := I.laid (a := s.heap.objs.size) (o := DictO X.w s.heap.objs.size o []) (t' := s.toks) (fun _ _ q => Heap.get?_push_of_some _ q) (Nat.le_refl _) (ho _)
  have R0 := RelE.newO (ob := DictO X.w s.heap.objs.size o []) trivial R hp
  have hpas : s.heap.objs.size ∉ as := fun m => R.wf.trk (R.wf.sub _ m) hp
  refine wpAny_subDictH (knd := nestedKind X.prog X.w) (show X.A.units + 8 < cLine by omega) (by simp) ?_
  show wpAny _ _ (eval a X.env >>= _) _ _ _
  refine wpAny_bind (thn (hk.run pins _ σ _ (fun v H1 => Stp as (upd H s.heap.objs.size (DictO X.w s.heap.objs.size o [])) H1 ∧ Cells (kw X) as (ad O s.heap.objs.size) H1 S1 ∧ Rp (kw X) as (ad O s.heap.objs.size) H1 v d1) I1 ⟨as, _, ρ, S, d1, S1, R0, h1, fun v H' s c r => ⟨s, c, r⟩⟩) fun u s1 ⟨v, H1, I2, rv, s1', c1, r1⟩ => ?_)
  have R1 := R0.step s1' c1
  refine wpAny_bind (wpAny_holding ?_)
  show wpAny _ _ (eval b X.env >>= _) _ _ _
  refine wpAny_bind (thn (hv.run pins _ σ _ (fun v H2 => Stp as H1 H2 ∧ Cells (kw X) as (ad O s.heap.objs.size) H2 S2 ∧ Rp (kw X) as (ad O s.heap.objs.size) H2 v d2) I2 ⟨as, _, ρ, S1, d2, S2, R1, h2, fun v H' s c r => ⟨s, c, r⟩⟩) fun u2 s2 ⟨v2, H2, I3, rv2, s2', c2, r2⟩ => ?_)
  have R2 := R1.step s2' c2
  refine wpAny_bind (wpAny_standAt (wpAny_pure ?_))
  refine wpAny_bind (wpAny_holding (wpAny_pure (wpAny_pure ?_)))
  have r1' := r1.stp R1.wf s2'
  obtain ⟨b', rfl⟩ := rp_tup_ref kb2.1 r1'
  obtain rfl : u = Value.ref b' := rv
  have kk := key_is I3 7 _ d1 (.ref b') r1' kb2.2 rfl
  have hD2 : H2 s.heap.objs.size = some (DictO X.w s.heap.objs.size o []) := s2' _ _ hpas (s1' _ _ hpas upd_same)
  obtain ⟨_, _, ys, xy, dd⟩ := dctOf (as := as) (O := O) I3 hD2 (ds := []) .nil rfl (fun _ h => nomatch h)
  cases xy
  refine ⟨[(keyD d1, b', u2)], ⟨rfl, rfl, ⟨kk, Nat.le_succ_of_le (ky_depth 7 d1 kb2.2)⟩, trivial⟩, dd, fun h' tk hd' hs' => ?_⟩
  have hst : storedAllH [] [(keyD d1, b', u2)] = [(keyD d1, b', u2)] := rfl
  rw [hst] at hd'
  obtain ⟨o', new⟩ : ∃ o', DictRel X.w h' s.heap.objs.size o' [(keyD d1, b', v2)] := DictRel.of hb (by show 1 ≤ sizeLine; decide) (.cons rfl rfl rv2 .nil) hd'
  have he : ∃ o, h'.get? s.heap.objs.size = some o := by
    obtain ⟨o, _, _, h1, _⟩ := hd'
    exact ⟨o, h1⟩
  have I4 := d_write (t' := tk) I3 (by rw [hD2]; exact True.intro) hs' he (new.ok (P := X.prog) (H := upd H2 s.heap.objs.size (DictO X.w s.heap.objs.size o' [(keyD d1, b', v2)])))
  have kk2 : Kp (ad O s.heap.objs.size) H2 (upd H2 s.heap.objs.size (DictO X.w s.heap.objs.size o' [(keyD d1, b', v2)])) := fun c u n e => by
    rw [upd_ne (fun z => n (by rw [z]; exact .inr rfl))]
    exact e
  refine wpAny_pure ⟨.ref s.heap.objs.size, _, I4, rfl, k s.heap.objs.size _ hp (fun c u n e => ?_) ?_ ?_⟩
  · have hc : c ≠ s.heap.objs.size := fun z => by rw [z, hp] at e; cases e
    rw [upd_ne hc]
    exact s2' c u n (s1' c u n ((upd_ne hc).trans e))
  · refine ⟨c2.len, fun i a d e1 e2 => ?_⟩
    have na : a ≠ s.heap.objs.size := fun z => hpas (by rw [← z]; exact List.mem_of_getElem? e1)
    cases c2.ix i a d e1 e2 with
    | lst h r => exact .lst ((upd_ne na).trans h) (RpL.kp R2.wf.nt kk2 _ _ r)
    | dct h r t e k => exact .dct ((upd_ne na).trans h) (RpL.kp R2.wf.nt kk2 _ _ r) (RpL.kp R2.wf.nt kk2 _ _ t) e k
  · exact .dct upd_same (.cons (Rp.kp R2.wf.nt kk2 _ _ r1') .nil) (.cons (Rp.kp R2.wf.nt kk2 _ _ r2) .nil) rfl (by simp [keysOk, kb2.1, kb2.2])
end
def dNotB : D → D → Option D
  | .bl a, .bl b => some (.bl (!decide (a = b)))
  | _, _ => none
theorem od_notB {X : Cx} : OpR X (compareOp .IsNot) (r2D (kw X) dNotB) := by
  intro pins s σ H x y v u Q I rx ry q
  obtain ⟨as, O, d, e, r, w, rd, re, hg, k⟩ := q
  unfold dNotB at hg
  split at hg
  · rename_i a b
    cases hg
    have e1 : x = .bl a := RpB.bl rd
    have e2 : y = .bl b := RpB.bl re
    subst e1 e2
    exact op_notBl pins s σ H _ _ v u Q I rx ry ⟨a, b, rfl, rfl, k _ H (Same.refl H) (.bl _)⟩
  · cases hg
end DL
namespace K
def fr (q : Rat) : Rat := q - q.floor
theorem fr_nonneg (q : Rat) : 0 ≤ fr q := by
  have := Rat.floor_le q
  unfold fr
  grind
theorem fr_lt (q : Rat) : fr q < 1 := by
  have := Rat.lt_floor_add_one q
  unfold fr
  have h : ((q.floor + 1 : Int) : Rat) = (q.floor : Rat) + 1 := by rw [Rat.intCast_add]; rfl
  grind
def Eqv (q r : Rat) : Prop := ∃ n : Int, q = r + n
theorem Eqv.refl (q : Rat) : Eqv q q := ⟨0, by grind⟩
theorem Eqv.symm {q r : Rat} (h : Eqv q r) : Eqv r q := by
  obtain ⟨n, h⟩ := h
  exact ⟨-n, by rw [Rat.intCast_neg]; grind⟩
theorem Eqv.trans {q r s : Rat} (h : Eqv q r) (h' : Eqv r s) : Eqv q s := by
  obtain ⟨n, h⟩ := h
  obtain ⟨m, h'⟩ := h'
  exact ⟨n + m, by rw [Rat.intCast_add]; grind⟩
theorem Eqv.add {q r q' r' : Rat} (h : Eqv q r) (h' : Eqv q' r') : Eqv (q + q') (r + r') := by
  obtain ⟨n, h⟩ := h
  obtain ⟨m, h'⟩ := h'
  exact ⟨n + m, by rw [Rat.intCast_add]; grind⟩
theorem Eqv.mul {q r : Rat} (h : Eqv q r) (k : Int) : Eqv (q * k) (r * k) := by
  obtain ⟨n, h⟩ := h
  exact ⟨n * k, by rw [Rat.intCast_mul]; grind⟩
theorem fr_eqv (q : Rat) : Eqv (fr q) q := ⟨-q.floor, by rw [Rat.intCast_neg]; unfold fr; grind⟩
theorem eqv_eq {q r : Rat} (h : Eqv q r) (h1 : 0 ≤ q) (h2 : q < 1) (h3 : 0 ≤ r) (h4 : r < 1) : q = r := by
  obtain ⟨n, h⟩ := h
  have a : ((-1 : Int) : Rat) < n := by grind
  have b : (n : Rat) < ((1 : Int) : Rat) := by grind
  rw [Rat.intCast_lt_intCast] at a b
  have : n = 0 := by omega
  subst this
  grind
theorem fr_eq_iff {q r : Rat} : fr q = fr r ↔ Eqv q r := by
  constructor
  · intro h
    exact (fr_eqv q).symm.trans (h ▸ fr_eqv r)
  · intro h
    exact eqv_eq (((fr_eqv q).trans h).trans (fr_eqv r).symm) (fr_nonneg q) (fr_lt q) (fr_nonneg r) (fr_lt r)
theorem fr_self {q : Rat} (h1 : 0 ≤ q) (h2 : q < 1) : fr q = q := eqv_eq (fr_eqv q) (fr_nonneg q) (fr_lt q) h1 h2
theorem fr_fr (q : Rat) : fr (fr q) = fr q := fr_self (fr_nonneg q) (fr_lt q)
theorem fr_zero : fr 0 = 0 := fr_self (by decide) (by decide)
theorem den_pos (q : Rat) : (0 : Int) < q.den := by have := q.den_nz; omega
theorem num_div_den (q : Rat) : (q.num : Rat) / (q.den : Rat) = q := by
  have := Rat.num_divInt_den q
  rw [Rat.divInt_eq_div] at this
  exact this
end K
namespace K
def has (n : Int) (p t : Rat) : Prop := Eqv (t * (n : Rat)) p
theorem Eqv.of_eq {q r : Rat} (h : q = r) : Eqv q r := h ▸ Eqv.refl q
theorem Eqv.neg {q r : Rat} (h : Eqv q r) : Eqv (-q) (-r) := by
  obtain ⟨n, h⟩ := h
  exact ⟨-n, by rw [Rat.intCast_neg]; grind⟩
theorem Eqv.sub {q r q' r' : Rat} (h : Eqv q r) (h' : Eqv q' r') : Eqv (q - q') (r - r') := by
  obtain ⟨n, h⟩ := h
  obtain ⟨m, h'⟩ := h'
  exact ⟨n - m, by rw [Rat.intCast_sub]; grind⟩
theorem Eqv.int (n : Int) : Eqv (n : Rat) 0 := ⟨n, by grind⟩
theorem has_eqv {n : Int} {p p' t : Rat} (h : Eqv p p') : has n p t ↔ has n p' t := ⟨fun q => q.trans h, fun q => q.trans h.symm⟩
theorem has_fr {n : Int} {p t : Rat} : has n (fr p) t ↔ has n p t := has_eqv (fr_eqv p)
theorem has_t {n : Int} {p t t' : Rat} (h : Eqv t t') : has n p t ↔ has n p t' := ⟨fun q => ((h.mul n).symm).trans q, fun q => (h.mul n).trans q⟩
theorem has_neg {n : Int} {p t : Rat} : has (-n) (-p) t ↔ has n p t := by
  have e : t * ((-n : Int) : Rat) = -(t * (n : Rat)) := by rw [Rat.intCast_neg]; grind
  unfold has
  rw [e]
  constructor
  · intro h
    have := h.neg
    rwa [Rat.neg_neg, Rat.neg_neg] at this
  · exact Eqv.neg
theorem has_zero {p t : Rat} : has 0 p t ↔ Eqv p 0 := by
  have e : t * ((0 : Int) : Rat) = 0 := by grind
  unfold has
  rw [e]
  exact ⟨Eqv.symm, Eqv.symm⟩
section
variable {n1 n2 g x y a b : Int} {p1 p2 t : Rat}
theorem meet_in (hg : x * n1 + y * n2 = g) (h1 : has n1 p1 t) (h2 : has n2 p2 t) : has g (p1 * x + p2 * y) t := by
  have e : t * (g : Rat) = t * (n1 : Rat) * x + t * (n2 : Rat) * y := by
    rw [← hg, Rat.intCast_add, Rat.intCast_mul, Rat.intCast_mul]; grind
  unfold has
  rw [e]
  exact (h1.mul x).add (h2.mul y)
theorem meet_out {c : Int} {n : Int} {p q : Rat} (hc : n = g * c) (h : has g q t) (h1 : Eqv (q * c) p) : has n p t := by
  have e : t * (n : Rat) = t * (g : Rat) * c := by rw [hc, Rat.intCast_mul]; grind
  unfold has
  rw [e]
  exact (h.mul c).trans h1
theorem meet_chk {c : Int} {n : Int} {p q : Rat} (hc : n = g * c) (h : has g q t) (h1 : has n p t) : Eqv (q * c) p := by
  have e : t * (n : Rat) = t * (g : Rat) * c := by rw [hc, Rat.intCast_mul]; grind
  unfold has at h1
  rw [e] at h1
  exact ((h.mul c).symm).trans h1
end
theorem frac_add {a b c d : Rat} (h1 : c ≠ 0) (h2 : d ≠ 0) : (a * d + b * c) / (c * d) = a / c + b / d := by
  have u := Rat.mul_inv_cancel c h1
  have v := Rat.mul_inv_cancel d h2
  rw [Rat.div_def, Rat.div_def, Rat.div_def, Rat.inv_mul_rev]
  grind
theorem int_pos_rat {n : Int} (h : 0 < n) : (0 : Rat) < n := by
  have : ((0 : Int) : Rat) < n := Rat.intCast_lt_intCast.mpr h
  exact this
theorem int_nn_rat {n : Int} (h : 0 ≤ n) : (0 : Rat) ≤ n := by
  have : ((0 : Int) : Rat) ≤ n := Rat.intCast_le_intCast.mpr h
  exact this
theorem ne_of_pos_rat {q : Rat} (h : 0 < q) : q ≠ 0 := fun e => by rw [e] at h; exact absurd h (by decide)
theorem row_time {n : Int} (hn : 0 < n) {p : Rat} (k : Int) : has n p ((p + k) / n) := by
  have := ne_of_pos_rat (int_pos_rat hn)
  refine ⟨k, ?_⟩
  rw [Rat.div_mul_cancel this]
theorem row_times {n : Int} (hn : 0 < n) {p t : Rat} (hp0 : 0 ≤ p) (hp1 : p < 1) (ht0 : 0 ≤ t) (ht1 : t < 1) : has n p t ↔ ∃ k : Int, 0 ≤ k ∧ k < n ∧ t = (p + k) / n := by
  have np := int_pos_rat hn
  have nz := ne_of_pos_rat np
  constructor
  · rintro ⟨k, hk⟩
    have e : t = (p + k) / n := by rw [← hk, Rat.mul_div_cancel nz]
    refine ⟨k, ?_, ?_, e⟩
    · have h1 : (0 : Rat) ≤ t * n := Rat.mul_nonneg ht0 (Rat.le_of_lt np)
      rw [hk] at h1
      have h2 : ((-1 : Int) : Rat) < k := by have : ((-1 : Int) : Rat) = -1 := rfl; grind
      rw [Rat.intCast_lt_intCast] at h2
      omega
    · have h1 : t * n < 1 * n := Rat.mul_lt_mul_of_pos_right ht1 np
      rw [hk] at h1
      have h2 : (k : Rat) < n := by grind
      rw [Rat.intCast_lt_intCast] at h2
      exact h2
  · rintro ⟨k, _, _, rfl⟩
    exact row_time hn k
theorem row_time_range {n : Int} (hn : 0 < n) {p : Rat} (hp0 : 0 ≤ p) (hp1 : p < 1) {k : Int} (h0 : 0 ≤ k) (h1 : k < n) : 0 ≤ (p + k) / n ∧ (p + k) / n < 1 := by
  have np := int_pos_rat hn
  have k0 := int_nn_rat h0
  have k1 : ((k + 1 : Int) : Rat) ≤ n := Rat.intCast_le_intCast.mpr (by omega)
  rw [Rat.intCast_add] at k1
  have e1 : ((1 : Int) : Rat) = 1 := rfl
  rw [e1] at k1
  constructor
  · rw [Rat.div_def]; exact Rat.mul_nonneg (by grind) (Rat.le_of_lt (Rat.inv_pos.mpr np))
  · rw [Rat.div_lt_iff np, Rat.one_mul]; grind
end K
namespace K
def IsEx {α : Type} (a b : List α) (e : List Nat) : Prop := e.Nodup ∧ e.map (fun k => b[k]?) = a.map some
def dnI (k i : Nat) : Nat := if k < i then i - 1 else i
def upI (k i : Nat) : Nat := if i < k then i else i + 1
theorem erase_up {α : Type} (m : List α) (k i : Nat) : (m.eraseIdx k)[i]? = m[upI k i]? := by
  rw [List.getElem?_eraseIdx]
  unfold upI
  split <;> rfl
theorem up_dn {k i : Nat} (h : i ≠ k) : upI k (dnI k i) = i := by
  unfold upI dnI
  split <;> split <;> omega
theorem up_ne (k i : Nat) : upI k i ≠ k := by
  unfold upI
  split <;> omega
theorem up_inj {k i j : Nat} (h : upI k i = upI k j) : i = j := by
  unfold upI at h
  split at h <;> split at h <;> omega
theorem dn_inj {k i j : Nat} (hi : i ≠ k) (hj : j ≠ k) (h : dnI k i = dnI k j) : i = j := by
  unfold dnI at h
  split at h <;> split at h <;> omega
theorem nodup_map_on {α β : Type} {f : α → β} : ∀ {l : List α}, (∀ x ∈ l, ∀ y ∈ l, f x = f y → x = y) → l.Nodup → (l.map f).Nodup
  | [], _, _ => List.nodup_nil
  | x :: l, h, n => by
    rw [List.map_cons, List.nodup_cons]
    rw [List.nodup_cons] at n
    refine ⟨fun m => ?_, nodup_map_on (fun a ha b hb => h a (List.mem_cons_of_mem _ ha) b (List.mem_cons_of_mem _ hb)) n.2⟩
    obtain ⟨y, hy, e⟩ := List.mem_map.mp m
    have := h y (List.mem_cons_of_mem _ hy) x List.mem_cons_self e
    subst this
    exact n.1 hy
theorem perm_erase {α : Type} : ∀ {m : List α} {k : Nat} {x : α}, m[k]? = some x → m.Perm (x :: m.eraseIdx k)
  | [], k, x, h => by simp at h
  | y :: m, 0, x, h => by
    have : y = x := by simpa using h
    subst this
    exact List.Perm.refl _
  | y :: m, k + 1, x, h => by
    have h' : m[k]? = some x := by simpa using h
    have := perm_erase h'
    exact (List.Perm.cons y this).trans (List.Perm.swap x y _)
theorem isEx_perm {α : Type} : ∀ {l m : List α} {e : List Nat}, IsEx l m e → ∃ r, m.Perm (l ++ r)
  | [], m, _, _ => ⟨m, List.Perm.refl _⟩
  | x :: l, m, [], h => by
    have := h.2
    simp at this
  | x :: l, m, k :: e, h => by
    obtain ⟨n, q⟩ := h
    rw [List.map_cons, List.map_cons] at q
    obtain ⟨q1, q2⟩ := List.cons.inj q
    rw [List.nodup_cons] at n
    have hk : ∀ i ∈ e, i ≠ k := fun i hi c => n.1 (c ▸ hi)
    have : IsEx l (m.eraseIdx k) (e.map (dnI k)) := by
      refine ⟨nodup_map_on (fun a ha b hb => dn_inj (hk a ha) (hk b hb)) n.2, ?_⟩
      rw [List.map_map, ← q2]
      refine List.map_congr_left fun i hi => ?_
      show (m.eraseIdx k)[dnI k i]? = m[i]?
      rw [erase_up, up_dn (hk i hi)]
    obtain ⟨r, hr⟩ := isEx_perm this
    exact ⟨r, (perm_erase q1).trans (List.Perm.cons x hr)⟩
theorem isEx_of_perm {α : Type} : ∀ {l m : List α}, l.Perm m → ∃ e, IsEx l m e
  | [], m, h => ⟨[], List.nodup_nil, rfl⟩
  | x :: l, m, h => by
    have hx : x ∈ m := h.mem_iff.mp List.mem_cons_self
    obtain ⟨k, hk⟩ := List.mem_iff_getElem?.mp hx
    have hp := h.trans (perm_erase hk)
    obtain ⟨e, n, q⟩ := isEx_of_perm hp.cons_inv
    refine ⟨k :: e.map (upI k), ?_, ?_⟩
    · rw [List.nodup_cons]
      refine ⟨fun c => ?_, nodup_map_on (fun a _ b _ => up_inj) n⟩
      obtain ⟨i, _, c⟩ := List.mem_map.mp c
      exact up_ne k i c
    · rw [List.map_cons, List.map_cons, hk, List.map_map, ← q]
      congr 1
      refine List.map_congr_left fun i hi => ?_
      show m[upI k i]? = (m.eraseIdx k)[i]?
      rw [erase_up]
theorem isEx_len {α : Type} {l m : List α} {e : List Nat} (h : IsEx l m e) : e.length = l.length := by
  have := congrArg List.length h.2
  simpa using this
theorem isEx_iff {α : Type} {l m : List α} (hl : l.length = m.length) : (∃ e, IsEx l m e) ↔ l.Perm m := by
  constructor
  · rintro ⟨e, h⟩
    obtain ⟨r, hr⟩ := isEx_perm h
    have := hr.length_eq
    rw [List.length_append] at this
    have : r = [] := List.eq_nil_of_length_eq_zero (by omega)
    subst this
    rw [List.append_nil] at hr
    exact hr.symm
  · exact isEx_of_perm
theorem zip_get {α β : Type} : ∀ (a : List α) (b : List β) (k : Nat), (a.zip b)[k]? = (match a[k]?, b[k]? with | some x, some y => some (x, y) | _, _ => none)
  | [], b, k => by simp
  | x :: a, [], k => by
    rw [List.zip_nil_right]
    simp
  | x :: a, y :: b, 0 => rfl
  | x :: a, y :: b, k + 1 => by
    simp only [List.zip_cons_cons, List.getElem?_cons_succ]
    exact zip_get a b k
theorem isEx_zip {α β : Type} {a a' : List α} {b b' : List β} {e : List Nat} (h1 : a.length = b.length) (h2 : a'.length = b'.length) : IsEx (a.zip b) (a'.zip b') e ↔ IsEx a a' e ∧ e.map (fun k => b'[k]?) = b.map some := by
  have key : ∀ (e : List Nat) (a : List α) (b : List β), a.length = b.length → (e.map (fun k => (a'.zip b')[k]?) = (a.zip b).map some ↔ e.map (fun k => a'[k]?) = a.map some ∧ e.map (fun k => b'[k]?) = b.map some) := by
    intro e
    induction e with
    | nil =>
      intro a b h
      cases a with
      | nil => cases b with
        | nil => simp
        | cons _ _ => simp at h
      | cons x a => cases b with
        | nil => simp at h
        | cons y b => simp
    | cons k e ih =>
      intro a b h
      cases a with
      | nil => cases b with
        | nil => simp
        | cons _ _ => simp at h
      | cons x a => cases b with
        | nil => simp at h
        | cons y b =>
          have h' : a.length = b.length := by simpa using h
          simp only [List.map_cons, List.zip_cons_cons]
          have t : ((a'.zip b')[k]? = some (x, y)) ↔ a'[k]? = some x ∧ b'[k]? = some y := by
            rw [zip_get]
            constructor
            · intro q
              split at q
              · cases q; exact ⟨‹_›, ‹_›⟩
              · cases q
            · rintro ⟨q1, q2⟩
              rw [q1, q2]
          constructor
          · intro q
            obtain ⟨q1, q2⟩ := List.cons.inj q
            obtain ⟨r1, r2⟩ := (ih a b h').mp q2
            obtain ⟨s1, s2⟩ := t.mp q1
            rw [s1, s2, r1, r2]
            exact ⟨rfl, rfl⟩
          · rintro ⟨q, r⟩
            obtain ⟨q1, q2⟩ := List.cons.inj q
            obtain ⟨r1, r2⟩ := List.cons.inj r
            rw [t.mpr ⟨q1, r1⟩, (ih a b h').mpr ⟨q2, r2⟩]
  unfold IsEx
  rw [key e a b h1]
  constructor
  · rintro ⟨n, p, q⟩; exact ⟨⟨n, p⟩, q⟩
  · rintro ⟨⟨n, p⟩, q⟩; exact ⟨n, p, q⟩
end K
namespace K
def plc (hands : List Int) (t : Rat) : List Rat := hands.map fun (h : Int) => fr (t * (h : Rat))
def trn (xs : List Rat) (c : Rat) : List Rat := xs.map fun x => fr (x + c)
def SeenBy (hands : List Int) (e : List Nat) (seen : List Rat) (c t : Rat) : Prop := ∀ p ∈ seen.zip e, has (hands.getD p.2 0) (p.1 + c) t
def stp (m s : Nat) : Rat := (s : Rat) / (m : Rat)
def Shows {α : Type} (hands : List Int) (L0 L : List α) (m : Nat) (seen : List Rat) (t : Rat) : Prop := ∃ e, IsEx L0 L e ∧ ∃ s, s < m ∧ SeenBy hands e seen (stp m s) t
theorem seenBy_iff {hands : List Int} {c t : Rat} : ∀ {seen : List Rat} {e : List Nat}, e.length = seen.length → (∀ k ∈ e, k < hands.length) → (SeenBy hands e seen c t ↔ e.map (fun k => (plc hands t)[k]?) = (trn seen c).map some)
  | [], [], _, _ => by simp [SeenBy, trn]
  | [], _ :: _, h, _ => by simp at h
  | _ :: _, [], h, _ => by simp at h
  | x :: seen, k :: e, h, hk => by
    have ih := seenBy_iff (hands := hands) (c := c) (t := t) (seen := seen) (e := e) (by simpa using h) (fun i hi => hk i (List.mem_cons_of_mem _ hi))
    have hk' := hk k List.mem_cons_self
    have e1 : hands.getD k 0 = hands[k] := by rw [List.getD_eq_getElem?_getD, List.getElem?_eq_getElem hk', Option.getD_some]
    have e2 : (plc hands t)[k]? = some (fr (t * (hands[k] : Rat))) := by
      unfold plc
      rw [List.getElem?_map, List.getElem?_eq_getElem hk', Option.map_some]
    have t1 : has (hands.getD k 0) (x + c) t ↔ fr (t * (hands[k] : Rat)) = fr (x + c) := by
      rw [e1, fr_eq_iff]
      rfl
    unfold SeenBy at ih ⊢
    unfold trn at ih ⊢
    simp only [List.zip_cons_cons, List.map_cons, e2]
    constructor
    · intro q
      have a := t1.mp (q (x, k) List.mem_cons_self)
      have b := ih.mp fun p hp => q p (List.mem_cons_of_mem _ hp)
      rw [a, b]
    · intro q
      obtain ⟨q1, q2⟩ := List.cons.inj q
      intro p hp
      rcases List.mem_cons.mp hp with rfl | hp
      · exact t1.mpr (Option.some.inj q1)
      · exact ih.mpr q2 p hp
theorem isEx_lt {α : Type} {l m : List α} {e : List Nat} (h : IsEx l m e) : ∀ k ∈ e, k < m.length := by
  intro k hk
  have : m[k]? ∈ e.map (fun k => m[k]?) := List.mem_map.mpr ⟨k, hk, rfl⟩
  rw [h.2] at this
  obtain ⟨x, _, e⟩ := List.mem_map.mp this
  exact (List.getElem?_eq_some_iff.mp e.symm).1
theorem shows_perm {α : Type} {hands : List Int} {L0 L : List α} {m : Nat} {seen : List Rat} {t : Rat} (hh : hands.length = L.length) (hs : seen.length = L0.length) (hL : L0.length = L.length) :
    Shows hands L0 L m seen t ↔ ∃ s, s < m ∧ (L0.zip (trn seen (stp m s))).Perm (L.zip (plc hands t)) := by
  have l1 : ∀ c, L0.length = (trn seen c).length := fun c => by unfold trn; rw [List.length_map, hs]
  have l2 : L.length = (plc hands t).length := by unfold plc; rw [List.length_map, hh]
  have key : ∀ e s, IsEx (L0.zip (trn seen (stp m s))) (L.zip (plc hands t)) e ↔ IsEx L0 L e ∧ SeenBy hands e seen (stp m s) t := by
    intro e s
    rw [isEx_zip (l1 _) l2]
    constructor
    · rintro ⟨a, b⟩
      refine ⟨a, (seenBy_iff ?_ ?_).mpr b⟩
      · rw [isEx_len a, hs]
      · intro k hk; rw [hh]; exact isEx_lt a k hk
    · rintro ⟨a, b⟩
      refine ⟨a, (seenBy_iff ?_ ?_).mp b⟩
      · rw [isEx_len a, hs]
      · intro k hk; rw [hh]; exact isEx_lt a k hk
  constructor
  · rintro ⟨e, he, s, hs', q⟩
    exact ⟨s, hs', (isEx_iff (by rw [List.length_zip, List.length_zip, ← l1, ← l2, hL])).mp ⟨e, (key e s).mpr ⟨he, q⟩⟩⟩
  · rintro ⟨s, hs', q⟩
    obtain ⟨e, he⟩ := isEx_of_perm q
    obtain ⟨a, b⟩ := (key e s).mp he
    exact ⟨e, a, s, hs', b⟩
def rws {α : Type} (L : List α) (xs : List Rat) (m s : Nat) : List (α × Rat) := L.zip (trn xs (stp m s))
theorem fr_add_fr (x c : Rat) : fr (fr x + c) = fr (x + c) := fr_eq_iff.mpr ((fr_eqv x).add (Eqv.refl c))
theorem trn_plc (hands : List Int) (t : Rat) (m : Nat) : trn (plc hands t) (stp m 0) = plc hands t := by
  unfold trn plc stp
  rw [List.map_map]
  refine List.map_congr_left fun h _ => ?_
  show fr (fr _ + ((0 : Nat) : Rat) / (m : Rat)) = _
  have : ((0 : Nat) : Rat) / (m : Rat) = 0 := by rw [Rat.div_def]; exact Rat.zero_mul _
  rw [this, Rat.add_zero, fr_fr]
theorem stp_add {m : Nat} (hm : 0 < m) (s j : Nat) : Eqv (stp m s + stp m j) (stp m ((s + j) % m)) := by
  have mz : (m : Rat) ≠ 0 := by
    intro h
    have : m = 0 := by exact_mod_cast h
    omega
  refine ⟨((s + j) / m : Nat), ?_⟩
  have h := Nat.mod_add_div (s + j) m
  have h2 : (((s + j) % m + m * ((s + j) / m) : Nat) : Rat) = ((s + j : Nat) : Rat) := by rw [h]
  rw [Rat.natCast_add, Rat.natCast_mul, Rat.natCast_add] at h2
  unfold stp
  have e : (((((s + j) / m : Nat) : Int)) : Rat) = (((s + j) / m : Nat) : Rat) := Rat.intCast_natCast _
  rw [e]
  rw [Rat.div_def, Rat.div_def, Rat.div_def]
  have : (m : Rat) * (m : Rat)⁻¹ = 1 := Rat.mul_inv_cancel _ mz
  grind
theorem trn_trn {m : Nat} (hm : 0 < m) (xs : List Rat) (s j : Nat) : trn (trn xs (stp m s)) (stp m j) = trn xs (stp m ((s + j) % m)) := by
  unfold trn
  rw [List.map_map]
  refine List.map_congr_left fun x _ => ?_
  show fr (fr (x + stp m s) + stp m j) = fr (x + stp m ((s + j) % m))
  rw [fr_add_fr, Rat.add_assoc]
  exact fr_eq_iff.mpr ((Eqv.refl x).add (stp_add hm s j))
theorem zip_trn {α : Type} (L : List α) (xs : List Rat) (c : Rat) : L.zip (trn xs c) = (L.zip xs).map fun p => (p.1, fr (p.2 + c)) := by
  unfold trn
  rw [List.zip_map_right]
  rfl
theorem rot_perm : ∀ m, m ≤ 6 → ∀ s, s < m → ((List.range m).map fun j => (s + j) % m).Perm (List.range m) := by
  intro m hm s hs
  have key : ∀ m ∈ List.range 7, ∀ s ∈ List.range 6, s < m → ((List.range m).map fun j => (s + j) % m).isPerm (List.range m) = true := by decide +kernel
  exact List.isPerm_iff.mp (key m (List.mem_range.mpr (by omega)) s (List.mem_range.mpr (by omega)) hs)
theorem looks_iff {α γ δ : Type} {m : Nat} (hm : m ≤ 6) {L0 L : List α} {xs ys : List Rat} (hys : trn ys (stp m 0) = ys) (hl : L0.length = L.length)
    {G : List (α × Rat) → γ} {F : List γ → δ} (hG : ∀ a b : List (α × Rat), G a = G b ↔ a.Perm b) (hF : ∀ a b : List γ, F a = F b ↔ a.Perm b) (h0 : 0 < m) :
    F ((List.range m).map fun s => G (rws L ys m s)) = F ((List.range m).map fun s => G (rws L0 xs m s)) ↔ ∃ s, s < m ∧ (L0.zip (trn xs (stp m s))).Perm (L.zip ys) := by
  rw [hF]
  constructor
  · intro h
    have : G (rws L ys m 0) ∈ (List.range m).map fun s => G (rws L0 xs m s) := h.mem_iff.mp (List.mem_map.mpr ⟨0, List.mem_range.mpr h0, rfl⟩)
    obtain ⟨s, hs, e⟩ := List.mem_map.mp this
    refine ⟨s, List.mem_range.mp hs, ?_⟩
    have := (hG _ _).mp e
    unfold rws at this
    rw [hys] at this
    exact this
  · rintro ⟨s, hs, q⟩
    have e : ((List.range m).map fun j => G (rws L ys m j)) = ((List.range m).map fun j => (s + j) % m).map fun i => G (rws L0 xs m i) := by
      rw [List.map_map]
      refine List.map_congr_left fun j _ => ?_
      show G _ = G _
      rw [hG]
      unfold rws
      rw [← trn_trn h0 xs s j, zip_trn L0 (trn xs (stp m s)), zip_trn L ys]
      exact (q.map _).symm
    rw [e]
    exact (rot_perm m hm s hs).map _
end K
namespace K
def SW (a b : Int) : Prop := (0 ≤ a ∧ 0 ≤ b) ∨ (a ≤ 0 ∧ b ≤ 0)
theorem fm_eq (a b : Int) : a - a.fdiv b * b = a.fmod b := by rw [Int.fmod_def, Int.mul_comm]
theorem fm_small (a b : Int) (hb : b ≠ 0) : (a.fmod b).natAbs < b.natAbs ∧ SW b (a.fmod b) := by
  rcases Int.lt_or_gt_of_ne hb with h | h
  · have e := Int.neg_fmod_neg (-a) (-b)
    rw [Int.neg_neg, Int.neg_neg] at e
    have h1 := Int.fmod_lt_of_pos (-a) (show 0 < -b by omega)
    have h2 := Int.fmod_nonneg_of_pos (-a) (show 0 < -b by omega)
    rw [e]
    exact ⟨by omega, .inr ⟨by omega, by omega⟩⟩
  · have h1 := Int.fmod_lt_of_pos a h
    have h2 := Int.fmod_nonneg_of_pos a h
    exact ⟨by omega, .inl ⟨by omega, by omega⟩⟩
theorem sw_div {a b : Int} (h : SW a b) : 0 ≤ a.fdiv b := by
  rcases h with h | h
  · exact Int.fdiv_nonneg h.1 h.2
  · have e := Int.neg_fdiv_neg a b
    rw [← e]
    exact Int.fdiv_nonneg (by omega) (by omega)
theorem sw_abs {a b : Int} (h : SW a b) (hb : b ≠ 0) : a.natAbs = (a.fdiv b).natAbs * b.natAbs + (a.fmod b).natAbs := by
  have e := Int.mul_fdiv_add_fmod a b
  have q := sw_div h
  have s := (fm_small a b hb).2
  have key : ∀ (q b m : Int), 0 ≤ q → SW b m → (b * q + m).natAbs = q.natAbs * b.natAbs + m.natAbs := by
    intro q b m hq hs
    have e1 : q.natAbs * b.natAbs = (b * q).natAbs := by rw [Int.natAbs_mul, Nat.mul_comm]
    rw [e1]
    rcases hs with hs | hs
    · have := Int.mul_nonneg hs.1 hq
      omega
    · have := Int.mul_nonneg (show 0 ≤ -b by omega) hq
      rw [Int.neg_mul] at this
      omega
  have := key (a.fdiv b) b (a.fmod b) q s
  rw [e] at this
  exact this
theorem gcd_fm (a b : Int) : Nat.gcd b.natAbs (a.fmod b).natAbs = Nat.gcd a.natAbs b.natAbs := by
  have e1 : Int.gcd b (a.fmod b) = Int.gcd b a := by
    rw [← fm_eq]
    have := Int.gcd_add_mul_left_right b a (-(a.fdiv b))
    have e2 : a - a.fdiv b * b = a + b * -(a.fdiv b) := by rw [Int.mul_neg, Int.mul_comm b]; omega
    rw [e2]
    exact this
  have : Int.gcd b a = Int.gcd a b := Int.gcd_comm b a
  rw [this] at e1
  exact e1
structure Eq3 where
  a : Int
  b : Int
  c : Rat
def Eq3.sat (e : Eq3) (t u : Rat) : Prop := Eqv (u * (e.a : Rat) + t * (e.b : Rat)) e.c
def Eq3.less (e f : Eq3) (q : Int) : Eq3 := ⟨e.a - q * f.a, e.b - q * f.b, fr (e.c + fr (f.c * ((-q : Int) : Rat)))⟩
theorem less_sat {e f : Eq3} {q : Int} {t u : Rat} : (f.sat t u ∧ (e.less f q).sat t u) ↔ (e.sat t u ∧ f.sat t u) := by
  have c1 : Eqv (e.less f q).c (e.c - f.c * (q : Rat)) := by
    have h1 := fr_eqv (e.c + fr (f.c * ((-q : Int) : Rat)))
    have h2 := (Eqv.refl e.c).add (fr_eqv (f.c * ((-q : Int) : Rat)))
    refine (h1.trans h2).trans (Eqv.of_eq ?_)
    rw [Rat.intCast_neg]; grind
  have c2 : u * ((e.less f q).a : Rat) + t * ((e.less f q).b : Rat) = (u * (e.a : Rat) + t * (e.b : Rat)) - (u * (f.a : Rat) + t * (f.b : Rat)) * (q : Rat) := by
    show u * ((e.a - q * f.a : Int) : Rat) + t * ((e.b - q * f.b : Int) : Rat) = _
    rw [Rat.intCast_sub, Rat.intCast_sub, Rat.intCast_mul, Rat.intCast_mul]
    grind
  unfold Eq3.sat
  rw [c2]
  constructor
  · rintro ⟨hf, h⟩
    refine ⟨?_, hf⟩
    have h1 := (h.trans c1).add (hf.mul q)
    exact ((Eqv.of_eq (by grind)).trans h1).trans (Eqv.of_eq (by grind))
  · rintro ⟨he, hf⟩
    exact ⟨hf, (he.sub (hf.mul q)).trans c1.symm⟩
def MN (N : Nat) (c : Rat) : Prop := ∃ k : Int, c = fr ((k : Rat) / (N : Rat))
theorem MN.less {N : Nat} (hN : 0 < N) {c d : Rat} (q : Int) (h : MN N c) (h' : MN N d) : MN N (fr (c + fr (d * (q : Rat)))) := by
  obtain ⟨k, rfl⟩ := h
  obtain ⟨l, rfl⟩ := h'
  refine ⟨k + l * q, fr_eq_iff.mpr ?_⟩
  have h1 := (fr_eqv ((k : Rat) / (N : Rat))).add ((fr_eqv (fr ((l : Rat) / (N : Rat)) * (q : Rat))).trans ((fr_eqv ((l : Rat) / (N : Rat))).mul q))
  refine h1.trans (Eqv.of_eq ?_)
  rw [Rat.intCast_add, Rat.intCast_mul, Rat.div_def, Rat.div_def, Rat.div_def]
  grind
theorem MN.mul {N : Nat} {d : Rat} (q : Int) (h' : MN N d) : MN N (fr (d * (q : Rat))) := by
  obtain ⟨l, rfl⟩ := h'
  refine ⟨l * q, fr_eq_iff.mpr ?_⟩
  refine ((fr_eqv ((l : Rat) / (N : Rat))).mul q).trans (Eqv.of_eq ?_)
  rw [Rat.intCast_mul, Rat.div_def, Rat.div_def]
  grind
theorem MN.zero {N : Nat} : MN N 0 := ⟨0, by
  have : ((0 : Int) : Rat) / (N : Rat) = 0 := by rw [Rat.div_def]; exact Rat.zero_mul _
  rw [this, fr_zero]⟩
theorem euc_step {a0 a1 b0 b1 : Int} {B : Nat} (hs : SW a0 a1) (h1 : a1 ≠ 0) (h : b1.natAbs * a0.natAbs + b0.natAbs * a1.natAbs ≤ B) :
    (b0 - a0.fdiv a1 * b1).natAbs * a1.natAbs + b1.natAbs * (a0.fmod a1).natAbs ≤ B ∧ (b0 - a0.fdiv a1 * b1).natAbs ≤ B := by
  have a : (b0 - a0.fdiv a1 * b1).natAbs ≤ b0.natAbs + (a0.fdiv a1).natAbs * b1.natAbs := by
    have := Int.natAbs_sub_le b0 (a0.fdiv a1 * b1)
    rw [Int.natAbs_mul] at this
    exact this
  have e := sw_abs hs h1
  have hp : 0 < a1.natAbs := by omega
  generalize (b0 - a0.fdiv a1 * b1).natAbs = X at *
  generalize (a0.fdiv a1).natAbs = q at *
  generalize (a0.fmod a1).natAbs = m at *
  generalize a1.natAbs = r at *
  generalize b1.natAbs = y at *
  generalize b0.natAbs = x at *
  rw [e] at h
  have c := Nat.mul_le_mul_right r a
  rw [Nat.add_mul] at c
  rw [Nat.mul_add] at h
  have e3 : y * (q * r) = q * y * r := by rw [← Nat.mul_assoc, Nat.mul_comm y q]
  rw [e3] at h
  have b : X * r + y * m ≤ B := by omega
  refine ⟨b, ?_⟩
  have := Nat.mul_le_mul_left X hp
  omega
theorem euc_first {a0 a1 b0 b1 : Int} {A H : Nat} (h1 : a1 ≠ 0) (ha0 : a0.natAbs ≤ A) (ha1 : a1.natAbs ≤ A) (hb0 : b0.natAbs ≤ H) (hb1 : b1.natAbs ≤ H) :
    (b0 - a0.fdiv a1 * b1).natAbs * a1.natAbs + b1.natAbs * (a0.fmod a1).natAbs ≤ H * ((2 * A + 2) * (A + 1)) ∧ (b0 - a0.fdiv a1 * b1).natAbs ≤ H * ((2 * A + 2) * (A + 1)) := by
  have a : (b0 - a0.fdiv a1 * b1).natAbs ≤ b0.natAbs + (a0.fdiv a1).natAbs * b1.natAbs := by
    have := Int.natAbs_sub_le b0 (a0.fdiv a1 * b1)
    rw [Int.natAbs_mul] at this
    exact this
  have hm := (fm_small a0 a1 h1).1
  have hq : (a0.fdiv a1).natAbs ≤ 2 * A := by
    have e := Int.mul_fdiv_add_fmod a0 a1
    have e1 : (a1 * a0.fdiv a1).natAbs ≤ a0.natAbs + (a0.fmod a1).natAbs := by omega
    rw [Int.natAbs_mul] at e1
    have hp : 0 < a1.natAbs := by omega
    have := Nat.mul_le_mul_right (a0.fdiv a1).natAbs hp
    omega
  generalize (b0 - a0.fdiv a1 * b1).natAbs = X at *
  generalize (a0.fdiv a1).natAbs = q at *
  generalize (a0.fmod a1).natAbs = m at *
  generalize a1.natAbs = r at *
  generalize b1.natAbs = y at *
  generalize b0.natAbs = x at *
  have s1 : q * y ≤ 2 * A * H := Nat.mul_le_mul hq hb1
  have s2 : X ≤ H * (2 * A + 1) := by
    have : H * (2 * A + 1) = 2 * A * H + H := by rw [Nat.mul_add, Nat.mul_one, Nat.mul_comm]
    omega
  have s3 : X * r ≤ H * (2 * A + 1) * A := Nat.mul_le_mul s2 ha1
  have s4 : y * m ≤ H * A := Nat.mul_le_mul hb1 (by omega)
  have s5 : H * ((2 * A + 2) * (A + 1)) = H * (2 * A + 1) * A + H * A + H * (2 * A + 2) := by
    have : (2 * A + 2) * (A + 1) = (2 * A + 1) * A + A + (2 * A + 2) := by
      rw [Nat.mul_add (2 * A + 2) A 1, Nat.mul_one, Nat.add_mul, Nat.add_mul]
      omega
    rw [this, Nat.mul_add, Nat.mul_add, Nat.mul_assoc]
  have s6 : H * (2 * A + 1) ≤ H * (2 * A + 2) := Nat.mul_le_mul_left H (by omega)
  generalize H * (2 * A + 1) * A = z1 at *
  generalize H * A = z2 at *
  generalize H * (2 * A + 2) = z3 at *
  generalize H * (2 * A + 1) = z4 at *
  omega
end K
namespace K
theorem nodup_sub_len {α : Type} [DecidableEq α] : ∀ {a b : List α}, a.Nodup → (∀ x ∈ a, x ∈ b) → a.length ≤ b.length
  | [], _, _, _ => Nat.zero_le _
  | x :: a, b, n, h => by
    rw [List.nodup_cons] at n
    have hx := h x List.mem_cons_self
    have := nodup_sub_len (a := a) (b := b.erase x) n.2 fun y hy => by
      have : y ≠ x := fun e => n.1 (e ▸ hy)
      exact (List.mem_erase_of_ne this).mpr (h y (List.mem_cons_of_mem _ hy))
    rw [List.length_erase_of_mem hx] at this
    have : 0 < b.length := List.length_pos_of_mem hx
    rw [List.length_cons]
    omega
def Asc (r : List Rat) : Prop := r.Pairwise (· < ·)
theorem asc_uniq : ∀ {a b : List Rat}, Asc a → Asc b → (∀ x, x ∈ a ↔ x ∈ b) → a = b := fun {a b} ha hb h => by
  have irr : ∀ x : Rat, ¬ x < x := fun x => Rat.lt_irrefl
  have na : a.Nodup := ha.imp fun h e => by subst e; exact irr _ h
  have nb : b.Nodup := hb.imp fun h e => by subst e; exact irr _ h
  have p := (List.perm_ext_iff_of_nodup na nb).mpr h
  exact List.Perm.eq_of_pairwise (le := fun x y : Rat => x < y) (fun x y _ _ h1 h2 => absurd (by grind : x < x) (irr x)) ha hb p
def lcmL (ds : List Nat) : Nat := ds.foldl Nat.lcm 1
theorem lcm_acc : ∀ (ds : List Nat) (l : Nat), l ∣ ds.foldl Nat.lcm l ∧ ∀ d ∈ ds, d ∣ ds.foldl Nat.lcm l
  | [], l => ⟨Nat.dvd_refl _, fun _ h => nomatch h⟩
  | d :: ds, l => by
    obtain ⟨a, b⟩ := lcm_acc ds (Nat.lcm l d)
    refine ⟨Nat.dvd_trans (Nat.dvd_lcm_left l d) a, fun x hx => ?_⟩
    rcases List.mem_cons.mp hx with rfl | hx
    · exact Nat.dvd_trans (Nat.dvd_lcm_right l x) a
    · exact b x hx
theorem dvd_lcmL {ds : List Nat} {d : Nat} (h : d ∈ ds) : d ∣ lcmL ds := (lcm_acc ds 1).2 d h
theorem lcm_bd (n : Nat) : ∀ (ds : List Nat) (l k : Nat), (∀ d ∈ ds, 0 < d ∧ d < 2 ^ n) → 0 < l → l ≤ 2 ^ k → 0 < ds.foldl Nat.lcm l ∧ ds.foldl Nat.lcm l ≤ 2 ^ (k + ds.length * n)
  | [], l, k, _, h0, h1 => ⟨h0, by simpa using h1⟩
  | d :: ds, l, k, h, h0, h1 => by
    obtain ⟨d0, d1⟩ := h d List.mem_cons_self
    have e : Nat.lcm l d ≤ 2 ^ (k + n) := by
      have := Nat.le_of_dvd (Nat.mul_pos h0 d0) (Nat.lcm_dvd_mul l d)
      rw [Nat.pow_add]
      exact Nat.le_trans this (Nat.mul_le_mul h1 (Nat.le_of_lt d1))
    obtain ⟨a, b⟩ := lcm_bd n ds (Nat.lcm l d) (k + n) (fun x hx => h x (List.mem_cons_of_mem _ hx)) (Nat.lcm_pos h0 d0) e
    refine ⟨a, ?_⟩
    rw [List.length_cons, Nat.add_mul, Nat.one_mul]
    have : k + (ds.length * n + n) = k + n + ds.length * n := by omega
    rw [this]
    exact b
theorem lcm_div {l d : Nat} : l / Nat.gcd l d * d = Nat.lcm l d := by
  unfold Nat.lcm
  exact (Nat.div_mul_right_comm (Nat.gcd_dvd_left l d) d)
def numOver (L : Nat) (t : Rat) : Int := t.num * ((L / t.den : Nat) : Int)
theorem numOver_eq {L : Nat} {t : Rat} (hL : 0 < L) (h : t.den ∣ L) : (numOver L t : Rat) / (L : Rat) = t := by
  obtain ⟨k, hk⟩ := h
  have dp : 0 < t.den := Nat.pos_of_ne_zero t.den_nz
  have kp : 0 < k := by
    rcases Nat.eq_zero_or_pos k with z | z
    · subst z; rw [Nat.mul_zero] at hk; omega
    · exact z
  have e1 : L / t.den = k := by rw [hk]; exact Nat.mul_div_cancel_left k dp
  unfold numOver
  rw [e1, hk, Rat.intCast_mul, Rat.natCast_mul, Rat.intCast_natCast]
  have h1 : (t.den : Rat) ≠ 0 := by exact_mod_cast t.den_nz
  have h2 : (k : Rat) ≠ 0 := by
    intro z
    have : k = 0 := by exact_mod_cast z
    omega
  have e2 := num_div_den t
  have u := Rat.mul_inv_cancel _ h1
  have v := Rat.mul_inv_cancel _ h2
  rw [Rat.div_def, Rat.inv_mul_rev]
  rw [Rat.div_def] at e2
  have : (t.num : Rat) * (k : Rat) * ((k : Rat)⁻¹ * (t.den : Rat)⁻¹) = (t.num : Rat) * (t.den : Rat)⁻¹ := by grind
  rw [this, e2]
theorem numOver_inj {L : Nat} {t u : Rat} (hL : 0 < L) (h : t.den ∣ L) (h' : u.den ∣ L) (e : numOver L t = numOver L u) : t = u := by
  rw [← numOver_eq hL h, e, numOver_eq hL h']
end K
namespace K
theorem eqv_gcd (w : Rat) : ∀ (m n : Nat), Eqv (w * (m : Rat)) 0 → Eqv (w * (n : Rat)) 0 → Eqv (w * (Nat.gcd m n : Rat)) 0 := by
  intro m n
  induction m, n using Nat.gcd.induction with
  | H0 n => intro _ h; rw [Nat.gcd_zero_left]; exact h
  | H1 m n hm ih =>
    intro h1 h2
    rw [Nat.gcd_rec]
    refine ih ?_ h1
    have e := Nat.mod_add_div n m
    have e2 : ((n % m : Nat) : Rat) = (n : Rat) - (m : Rat) * ((n / m : Nat) : Rat) := by
      have : ((n % m + m * (n / m) : Nat) : Rat) = (n : Rat) := by rw [e]
      rw [Rat.natCast_add, Rat.natCast_mul] at this
      grind
    rw [e2]
    have h3 := h1.mul ((n / m : Nat) : Int)
    rw [Rat.intCast_natCast] at h3
    have h4 := h2.sub h3
    refine (Eqv.of_eq ?_).trans (h4.trans (Eqv.of_eq ?_)) <;> grind
theorem eqv_abs {w : Rat} {h : Int} (q : Eqv (w * (h : Rat)) 0) : Eqv (w * (h.natAbs : Rat)) 0 := by
  rcases Int.natAbs_eq h with e | e
  · rw [e, Rat.intCast_natCast] at q
    exact q
  · rw [e, Rat.intCast_neg, Rat.intCast_natCast] at q
    have := q.neg
    refine (Eqv.of_eq ?_).trans (this.trans (Eqv.of_eq ?_)) <;> grind
def gcdF (l : List Int) : Nat := l.foldl (fun g h => Nat.gcd g h.natAbs) 0
theorem eqv_gcdF (w : Rat) : ∀ (l : List Int) (g : Nat), Eqv (w * (g : Rat)) 0 → (∀ h ∈ l, Eqv (w * (h : Rat)) 0) → Eqv (w * ((l.foldl (fun g h => Nat.gcd g h.natAbs) g : Nat) : Rat)) 0
  | [], g, hg, _ => hg
  | x :: l, g, hg, h => eqv_gcdF w l (Nat.gcd g x.natAbs) (eqv_gcd w g x.natAbs hg (eqv_abs (h x List.mem_cons_self))) fun y hy => h y (List.mem_cons_of_mem _ hy)
theorem eqv_one {w : Rat} {l : List Int} (h1 : gcdF l = 1) (h : ∀ x ∈ l, Eqv (w * (x : Rat)) 0) : Eqv w 0 := by
  have q := eqv_gcdF w l 0 ⟨0, by grind⟩ h
  have e : (l.foldl (fun g h => Nat.gcd g h.natAbs) 0) = 1 := h1
  rw [e] at q
  exact (Eqv.of_eq (by show w = w * (1 : Rat); grind)).trans q
theorem seen_uniq {hands : List Int} {e : List Nat} {seen : List Rat} {c u v : Rat} (g : gcdF hands = 1) (cov : ∀ k, k < hands.length → k ∈ e) (hl : e.length = seen.length) (hu : SeenBy hands e seen c u) (hv : SeenBy hands e seen c v) (u0 : 0 ≤ u) (u1 : u < 1) (v0 : 0 ≤ v) (v1 : v < 1) : u = v := by
  have w : Eqv (u - v) 0 := by
    refine eqv_one g fun h hh => ?_
    obtain ⟨k, hk, rfl⟩ := List.getElem_of_mem hh
    have hke := cov k hk
    obtain ⟨i, hi, ei⟩ := List.getElem_of_mem hke
    have hm : (seen[i]'(by omega), k) ∈ seen.zip e := by
      rw [List.mem_iff_getElem]
      exact ⟨i, by rw [List.length_zip]; omega, by rw [List.getElem_zip, ei]⟩
    have a := hu _ hm
    have b := hv _ hm
    unfold has at a b
    have e1 : hands.getD k 0 = hands[k] := by rw [List.getD_eq_getElem?_getD, List.getElem?_eq_getElem hk, Option.getD_some]
    simp only [e1] at a b
    have := a.sub b
    refine (Eqv.of_eq ?_).trans (this.trans (Eqv.of_eq ?_)) <;> grind
  have q := w.add (Eqv.refl v)
  exact eqv_eq ((Eqv.of_eq (by grind)).trans (q.trans (Eqv.of_eq (by grind)))) u0 u1 v0 v1
theorem isEx_cov {α : Type} {a b : List α} {e : List Nat} (h : IsEx a b e) (hl : a.length = b.length) : ∀ k, k < b.length → k ∈ e := by
  intro k hk
  have h1 : e.Perm (List.range b.length) := by
    have : IsEx e (List.range b.length) e := by
      refine ⟨h.1, List.map_congr_left fun i hi => ?_⟩
      rw [List.getElem?_range (isEx_lt h i hi)]
    exact (isEx_iff (by rw [isEx_len h, List.length_range, hl])).mp ⟨e, this⟩
  exact h1.mem_iff.mpr (List.mem_range.mpr hk)
open Classical in
theorem shows_cov {α : Type} {hands : List Int} {L0 L : List α} {m : Nat} {seen : List Rat} (es : List (List Nat)) (hes : ∀ e, IsEx L0 L e → e ∈ es) (g : gcdF hands = 1) (hh : hands.length = L.length) (hs : seen.length = L0.length) (hL : L0.length = L.length) :
    ∃ cov : List Rat, cov.length ≤ es.length * m ∧ ∀ u, 0 ≤ u → u < 1 → Shows hands L0 L m seen u → u ∈ cov := by
  refine ⟨es.flatMap fun e => (List.range m).map fun s => if h : ∃ u : Rat, (0 ≤ u ∧ u < 1) ∧ SeenBy hands e seen (stp m s) u then h.choose else 0, ?_, ?_⟩
  · rw [List.length_flatMap]
    have : ∀ l : List (List Nat), (l.map fun e => ((List.range m).map fun s => if h : ∃ u : Rat, (0 ≤ u ∧ u < 1) ∧ SeenBy hands e seen (stp m s) u then h.choose else 0).length).sum ≤ l.length * m := by
      intro l
      induction l with
      | nil => simp
      | cons x l ih =>
        rw [List.map_cons, List.sum_cons, List.length_cons, Nat.add_mul, Nat.one_mul, List.length_map, List.length_range]
        omega
    exact this es
  · intro u u0 u1 ⟨e, he, s, hs', q⟩
    rw [List.mem_flatMap]
    refine ⟨e, hes e he, List.mem_map.mpr ⟨s, List.mem_range.mpr hs', ?_⟩⟩
    have ex : ∃ u : Rat, (0 ≤ u ∧ u < 1) ∧ SeenBy hands e seen (stp m s) u := ⟨u, ⟨u0, u1⟩, q⟩
    rw [dif_pos ex]
    exact seen_uniq g (fun k hk => isEx_cov he hL k (by omega)) (by rw [isEx_len he, hs]) ex.choose_spec.2 q ex.choose_spec.1.1 ex.choose_spec.1.2 u0 u1
theorem hand_times {h : Int} (hz : h ≠ 0) {x u : Rat} (u0 : 0 ≤ u) (u1 : u < 1) (q : has h x u) : ∃ w : Nat, w < h.natAbs ∧ u = fr ((x + (w : Rat)) / (h : Rat)) := by
  obtain ⟨k, hk⟩ := q
  have hr : (h : Rat) ≠ 0 := by
    intro z
    have : h = 0 := by exact_mod_cast z
    exact hz this
  have e1 : u = (x + k) / h := by rw [← hk, Rat.mul_div_cancel hr]
  have ha : (h.natAbs : Int) ≠ 0 := by omega
  have m0 := Int.emod_nonneg k ha
  have m1 := Int.emod_lt_of_pos k (show (0 : Int) < (h.natAbs : Int) by omega)
  refine ⟨(k % (h.natAbs : Int)).toNat, by omega, ?_⟩
  have e2 : (((k % (h.natAbs : Int)).toNat : Nat) : Rat) = ((k % (h.natAbs : Int) : Int) : Rat) := by
    rw [← Rat.intCast_natCast, Int.toNat_of_nonneg m0]
  rw [e2, ← fr_self u0 u1, e1]
  refine fr_eq_iff.mpr ?_
  have dv := Int.emod_add_mul_ediv k (h.natAbs : Int)
  have e3 : (k : Rat) = ((k % (h.natAbs : Int) : Int) : Rat) + ((h.natAbs : Int) : Rat) * ((k / (h.natAbs : Int) : Int) : Rat) := by
    rw [← Rat.intCast_mul, ← Rat.intCast_add, dv]
  obtain ⟨g, hg⟩ : ∃ g : Int, ((h.natAbs : Int) : Rat) = (h : Rat) * (g : Rat) := by
    rcases Int.natAbs_eq h with e | e
    · exact ⟨1, by rw [← e]; show (h : Rat) = (h : Rat) * (1 : Rat); grind⟩
    · refine ⟨-1, ?_⟩
      have : (h.natAbs : Int) = -h := by omega
      rw [this, Rat.intCast_neg, Rat.intCast_neg]
      show -(h : Rat) = (h : Rat) * (-(1 : Rat))
      grind
  refine ⟨g * (k / (h.natAbs : Int)), ?_⟩
  rw [e3, hg, Rat.intCast_mul, Rat.div_def, Rat.div_def]
  have := Rat.mul_inv_cancel _ hr
  grind
end K
namespace K
open DL
def dR (q : Rat) : D := .tup [.int q.num, .int q.den]
theorem dR_inj {q r : Rat} (h : dR q = dR r) : q = r := by
  unfold dR at h
  injection h with h
  injection h with h1 h2
  injection h1 with h1
  injection h2 with h2 _
  injection h2 with h2
  exact Rat.ext h1 (by omega)
theorem part_q (t b : Int) (hb : 0 < b) : D.tup [.int (t % b / (Int.gcd (t % b) b : Int)), .int (b / (Int.gcd (t % b) b : Int))] = dR (fr ((t : Rat) / (b : Rat))) := by
  have hb' : (b : Rat) ≠ 0 := by
    intro h
    have : b = 0 := by exact_mod_cast Rat.intCast_eq_zero_iff.mp h
    omega
  have e : fr ((t : Rat) / (b : Rat)) = ((t % b : Int) : Rat) / (b : Rat) := by
    have h0 := Int.emod_nonneg t (show b ≠ 0 by omega)
    have h1 := Int.emod_lt_of_pos t hb
    have hbp : (0 : Rat) < b := by
      have : ((0 : Int) : Rat) < b := Rat.intCast_lt_intCast.mpr hb
      exact this
    have h0' : (0 : Rat) ≤ ((t % b : Int) : Rat) := by
      have : ((0 : Int) : Rat) ≤ ((t % b : Int) : Rat) := Rat.intCast_le_intCast.mpr h0
      exact this
    have h1' : ((t % b : Int) : Rat) < b := Rat.intCast_lt_intCast.mpr h1
    refine eqv_eq ((fr_eqv _).trans ⟨t / b, ?_⟩) (fr_nonneg _) (fr_lt _) ?_ ?_
    · have q := Int.emod_add_mul_ediv t b
      have q2 : ((t % b + b * (t / b) : Int) : Rat) = (t : Rat) := by rw [q]
      rw [Rat.intCast_add, Rat.intCast_mul] at q2
      grind
    · rw [Rat.div_def]; exact Rat.mul_nonneg h0' (Rat.le_of_lt (Rat.inv_pos.mpr hbp))
    · rw [Rat.div_lt_iff hbp, Rat.one_mul]; exact h1'
  rw [e, ← Rat.divInt_eq_div]
  unfold dR
  have hg : 0 < b.gcd (t % b) := Int.gcd_pos_of_ne_zero_left _ (by omega)
  rw [Rat.num_divInt, Rat.den_divInt, Int.sign_eq_one_of_pos hb, Int.one_mul, if_neg (by omega), Int.gcd_comm (t % b) b]
  have hd : (b.gcd (t % b) : Int) ∣ b := Int.gcd_dvd_left ..
  have e2 : b / ((b.gcd (t % b) : Nat) : Int) = ((b.natAbs / b.gcd (t % b) : Nat) : Int) := by
    rw [Int.natCast_ediv, Int.natAbs_of_nonneg (by omega)]
  rw [e2]
end K
namespace K
open PySem PySem.Spec PyProof.Rows L2 DL
def topS (i : Nat) : Stmt := PySem.Challenge.pw_unclearhands_k07_whole_two_hands.main.body.getD i (.Pass ⟨0, 0, 0, 0⟩)
def k_ALL : D := (.tup [(.int (0)), (.tup [(.int (0)), (.int (1))])])
def txT : List (Str × CD) := [("ALL", (.tup [(.int (0)), (.tup [(.int (0)), (.int (1))])]))]
def g_divisor : Sv :=
  (sSeq (sPar 2 3 (eUn dAbs (eB 0)) (eUn dAbs (eB 1))) (sSeq (sWhile (fun ρ => natAt 3 ρ + 1) (cV (eBin dGt (eB 3) (eC (.int 0)))) (sPar 2 3 (eV 3) (eBin dMod (eB 2) (eB 3)))) (sRet (eV 2))))
def m_divisor : List D → List D → Option (D × List D) := runB false 4 g_divisor
def g_factors : Sv :=
  (sSeq (sPar 2 3 (eTup (aC (eV 0) (aC (eC (.int 1)) (aC (eC (.int 0)) aN)))) (eTup (aC (eV 1) (aC (eC (.int 0)) (aC (eC (.int 1)) aN))))) (sSeq (sWhile (fun ρ => natFst 3 ρ + 1) (cV (eBin dNe (eIx (eB 3) (eC (.int 0))) (eC (.int 0)))) (sSeq (sSet 4 (eBin dDiv (eIx (eB 2) (eC (.int 0))) (eIx (eB 3) (eC (.int 0))))) (sPar 2 3 (eV 3) (eUn dTup (eComp (.tup [(.nm 5), (.nm 6)]) (iZip (aC (eV 2) (aC (eV 3) aN))) cYes (eBin dSub (eB 5) (eBin dMul (eB 4) (eB 6))) [5, 6]))))) (sRet (eTup (aC (eIx (eB 2) (eC (.int 1))) (aC (eIx (eB 2) (eC (.int 2))) aN))))))
def m_factors : List D → List D → Option (D × List D) := runB false 7 g_factors
def g_count_to : Sv :=
  (sSeq (sAsg (.tup [(.nm 3), (.tup [(.nm 4), (.nm 5)])]) (eV 0)) (sSeq (sSet 6 (eBin dSub (eBin dMul (eBin dMul (eB 3) (eIx (eB 1) (eC (.int 0)))) (eB 5)) (eBin dMul (eB 4) (eIx (eB 1) (eC (.int 1)))))) (sSeq (sSet 7 (eBin dMul (eIx (eB 1) (eC (.int 1))) (eB 5))) (sRet (eBin dMax2 (eC (.int 0)) (eBin dMin2 (eB 3) (eIf (cV (eV 2)) (eBin dAdd (eBin dDiv (eB 6) (eB 7)) (eC (.int 1))) (eBin dAdd (eBin dDiv (eBin dSub (eB 6) (eC (.int 1))) (eB 7)) (eC (.int 1))))))))))
def m_count_to : List D → List D → Option (D × List D) := runB false 8 g_count_to
def g_exchanges : Sv :=
  (sSeq (sSet 2 (eLst (aC (eTup aN) aN))) (sSeq (sFor (.nm 3) (iAny (eV 0)) (sSet 2 (eComp2 (.nm 4) (iAny (eV 2)) cYes (iEnum (aC (eV 1) aN)) (.tup [(.nm 5), (.nm 6)]) (cAnd (cV (eBin dEq (eB 6) (eB 3))) (cV (eBin dNi (eB 5) (eB 4)))) (eTup (aS (eB 4) (aC (eV 5) aN))) [4, 5, 6] [5, 6]))) (sRet (eV 2))))
def m_exchanges : List D → List D → Option (D × List D) := runB false 7 g_exchanges
def g_is_endless : Sv :=
  (sRet (eBin dIn (eC k_ALL) (eComp (.tup [(.nm 1), (.nm 2)]) (iAny (eV 0)) cYes (eV 1) [1, 2])))
def m_is_endless : List D → List D → Option (D × List D) := runB false 3 g_is_endless
def g_law_draw : Sv :=
  (sSeq (sSet 2 (eC (.int 2305843009213693951))) (sSeq (sIf (cV (eBin dLt (eIx (eB 0) (eC (.int 2))) (eB 1))) (sSeq (sSet 3 (eC (.int 0))) (sSeq (sIf (cV (eBin dGt (eUn dLen (eIx (eB 0) (eC (.int 0)))) (eC (.int 0)))) (sSet 3 (eIx (eIx (eB 0) (eC (.int 0))) (eBin dMod (eUn dInt (eIx (eB 0) (eC (.int 1)))) (eUn dLen (eIx (eB 0) (eC (.int 0))))))) sNil) (sSeq (sIf (cOr (cV (eBin dGe (eIx (eB 0) (eC (.int 1))) (eUn dLen (eIx (eB 0) (eC (.int 0)))))) (cV (eBin dLt (eB 3) (eBin dPow (eC (.int 10)) (eC (.int 18)))))) (sSeq (sSet 3 (eBin dMod (eUn dInt (eBin dAdd (eB 3) (eBin dMul (eC (.int 1000003)) (eIx (eB 0) (eC (.int 1)))))) (eB 2))) (sSeq (sSet 3 (eBin dMod (eUn dInt (eBin dAdd (eBin dAdd (eBin dMul (eB 3) (eB 3)) (eBin dMul (eC (.int 1181783497276652981)) (eB 3))) (eC (.int 2049848353892358983)))) (eB 2))) (sSet 3 (eBin dMod (eUn dInt (eBin dAdd (eBin dMul (eB 3) (eB 3)) (eC (.int 1442695040888963407)))) (eB 2))))) sNil) (sSeq (sIxC (eV 0) (eBin dAdd (eIx (eB 0) (eC (.int 1))) (eC (.int 1))) (eC (.int 1))) (sIxC (eV 0) (eV 3) (eC (.int 2))))))) sNil) (sSeq (sSet 4 (eBin dMod (eUn dInt (eIx (eB 0) (eC (.int 2)))) (eB 1))) (sSeq (sIxC (eV 0) (eBin dDiv (eIx (eB 0) (eC (.int 2))) (eB 1)) (eC (.int 2))) (sRet (eV 4))))))
def m_law_draw : List D → List D → Option (D × List D) := runB false 5 g_law_draw
def g_law_gcd : Sv :=
  (sSeq (sPar 2 3 (eUn dAbs (eB 0)) (eUn dAbs (eB 1))) (sSeq (sWhile (fun ρ => natAt 3 ρ + 1) (cV (eBin dGt (eB 3) (eC (.int 0)))) (sPar 2 3 (eV 3) (eBin dMod (eUn dInt (eB 2)) (eB 3)))) (sRet (eV 2))))
def m_law_gcd : List D → List D → Option (D × List D) := runB false 4 g_law_gcd
def g_part : Sv :=
  (sSeq (sSet 2 (eCall 2 m_divisor (aC (eBin dMod (eB 0) (eB 1)) (aC (eV 1) aN)))) (sRet (eTup (aC (eBin dDiv (eBin dMod (eB 0) (eB 1)) (eB 2)) (aC (eBin dDiv (eB 1) (eB 2)) aN)))))
def m_part : List D → List D → Option (D × List D) := runB false 3 g_part
def g_count_until : Sv :=
  (sRet (eUn dSum (eComp (.tup [(.nm 3), (.nm 4)]) (iAny (eV 0)) cYes (eBin dMul (eCall 3 m_count_to (aC (eV 3) (aC (eV 1) (aC (eV 2) aN)))) (eB 4)) [3, 4])))
def m_count_until : List D → List D → Option (D × List D) := runB false 5 g_count_until
def g_law_part : Sv :=
  (sSeq (sSet 2 (eBin dMod (eUn dInt (eB 0)) (eB 1))) (sSeq (sSet 3 (eCall 2 m_law_gcd (aC (eV 2) (aC (eV 1) aN)))) (sRet (eTup (aC (eBin dDiv (eB 2) (eB 3)) (aC (eBin dDiv (eB 1) (eB 3)) aN))))))
def m_law_part : List D → List D → Option (D × List D) := runB false 4 g_law_part
def g_turned : Sv :=
  (sRet (eCall 2 m_part (aC (eBin dMul (eIx (eB 0) (eC (.int 0))) (eB 1)) (aC (eIx (eB 0) (eC (.int 1))) aN))))
def m_turned : List D → List D → Option (D × List D) := runB false 2 g_turned
def g_together : Sv :=
  (sRet (eCall 2 m_part (aC (eBin dAdd (eBin dMul (eIx (eB 0) (eC (.int 0))) (eIx (eB 1) (eC (.int 1)))) (eBin dMul (eIx (eB 1) (eC (.int 0))) (eIx (eB 0) (eC (.int 1))))) (aC (eBin dMul (eIx (eB 0) (eC (.int 1))) (eIx (eB 1) (eC (.int 1)))) aN))))
def m_together : List D → List D → Option (D × List D) := runB false 2 g_together
def g_equations : Sv :=
  (sSeq (sSet 4 (eCall 2 m_part (aC (eV 3) (aC (eIx (eB 0) (eC (.int 2))) aN)))) (sRet (eComp (.tup [(.nm 5), (.nm 6)]) (iZip (aC (eIx (eB 0) (eC (.int 0))) (aC (eV 2) aN))) cYes (eTup (aC (eIx (eIx (eB 1) (eC (.int 0))) (eB 6)) (aC (eUn dNeg (eB 5)) (aC (eV 4) aN)))) [5, 6])))
def m_equations : List D → List D → Option (D × List D) := runB false 7 g_equations
def g_law_sum : Sv :=
  (sRet (eCall 2 m_law_part (aC (eBin dAdd (eBin dMul (eIx (eB 0) (eC (.int 0))) (eIx (eB 1) (eC (.int 1)))) (eBin dMul (eIx (eB 1) (eC (.int 0))) (eIx (eB 0) (eC (.int 1))))) (aC (eBin dMul (eIx (eB 0) (eC (.int 1))) (eIx (eB 1) (eC (.int 1)))) aN))))
def m_law_sum : List D → List D → Option (D × List D) := runB false 2 g_law_sum
def g_row_of : Sv :=
  (sSeq (sIf (cV (eBin dEq (eB 0) (eC (.int 0)))) (sRet (eIf (cV (eBin dEq (eB 1) (eTup (aC (eC (.int 0)) (aC (eC (.int 1)) aN))))) (eC k_ALL) (eC .non))) sNil) (sRet (eIf (cV (eBin dGt (eB 0) (eC (.int 0)))) (eTup (aC (eV 0) (aC (eV 1) aN))) (eTup (aC (eUn dNeg (eB 0)) (aC (eCall 2 m_turned (aC (eV 1) (aC (eUn dNeg (eC (.int 1))) aN))) aN))))))
def m_row_of : List D → List D → Option (D × List D) := runB false 2 g_row_of
def g_meet : Sv :=
  (sSeq (sIf (cOr (cV (eBin dIsN (eB 0) (eC .non))) (cV (eBin dIsN (eB 1) (eC .non)))) (sRet (eC .non)) sNil) (sSeq (sSet 2 (eCall 2 m_divisor (aC (eIx (eB 0) (eC (.int 0))) (aC (eIx (eB 1) (eC (.int 0))) aN)))) (sSeq (sIf (cV (eBin dEq (eB 2) (eC (.int 0)))) (sRet (eC k_ALL)) sNil) (sSeq (sAsg (.tup [(.nm 3), (.nm 4)]) (eCall 2 m_factors (aC (eIx (eB 0) (eC (.int 0))) (aC (eIx (eB 1) (eC (.int 0))) aN)))) (sSeq (sSet 5 (eCall 2 m_together (aC (eCall 2 m_turned (aC (eIx (eB 0) (eC (.int 1))) (aC (eV 3) aN))) (aC (eCall 2 m_turned (aC (eIx (eB 1) (eC (.int 1))) (aC (eV 4) aN))) aN)))) (sSeq (sSet 6 (eAnd (eBin dEq (eCall 2 m_turned (aC (eV 5) (aC (eBin dDiv (eIx (eB 0) (eC (.int 0))) (eB 2)) aN))) (eIx (eB 0) (eC (.int 1)))) (eBin dEq (eCall 2 m_turned (aC (eV 5) (aC (eBin dDiv (eIx (eB 1) (eC (.int 0))) (eB 2)) aN))) (eIx (eB 1) (eC (.int 1)))))) (sRet (eIf (cV (eV 6)) (eTup (aC (eV 2) (aC (eV 5) aN))) (eC .non)))))))))
def m_meet : List D → List D → Option (D × List D) := runB false 7 g_meet
def g_less : Sv :=
  (sRet (eTup (aC (eBin dSub (eIx (eB 0) (eC (.int 0))) (eBin dMul (eB 2) (eIx (eB 1) (eC (.int 0))))) (aC (eBin dSub (eIx (eB 0) (eC (.int 1))) (eBin dMul (eB 2) (eIx (eB 1) (eC (.int 1))))) (aC (eCall 2 m_together (aC (eIx (eB 0) (eC (.int 2))) (aC (eCall 2 m_turned (aC (eIx (eB 1) (eC (.int 2))) (aC (eUn dNeg (eB 2)) aN))) aN))) aN)))))
def m_less : List D → List D → Option (D × List D) := runB false 3 g_less
def g_solved : Sv :=
  (sSeq (sPar 1 2 (eTup (aC (eC (.int 0)) (aC (eC (.int 0)) (aC (eTup (aC (eC (.int 0)) (aC (eC (.int 1)) aN))) aN)))) (eC k_ALL)) (sSeq (sFor (.nm 3) (iAny (eV 0)) (sSeq (sSet 4 (eV 3)) (sSeq (sWhile (fun ρ => natFst 4 ρ + 1) (cV (eBin dNe (eIx (eB 4) (eC (.int 0))) (eC (.int 0)))) (sPar 1 4 (eV 4) (eCall 3 m_less (aC (eV 1) (aC (eV 4) (aC (eBin dDiv (eIx (eB 1) (eC (.int 0))) (eIx (eB 4) (eC (.int 0)))) aN)))))) (sSet 2 (eCall 2 m_meet (aC (eV 2) (aC (eCall 2 m_row_of (aC (eIx (eB 4) (eC (.int 1))) (aC (eIx (eB 4) (eC (.int 2))) aN))) aN))))))) (sSeq (sIf (cV (eBin dIsN (eB 2) (eC .non))) (sRet (eC .non)) sNil) (sSeq (sIf (cV (eBin dLt (eIx (eB 1) (eC (.int 0))) (eC (.int 0)))) (sSet 1 (eTup (aC (eUn dNeg (eIx (eB 1) (eC (.int 0)))) (aC (eUn dNeg (eIx (eB 1) (eC (.int 1)))) (aC (eCall 2 m_turned (aC (eIx (eB 1) (eC (.int 2))) (aC (eUn dNeg (eC (.int 1))) aN))) aN))))) sNil) (sRet (eTup (aC (eV 2) (aC (eIx (eB 1) (eC (.int 1))) (aC (eIx (eB 1) (eC (.int 2))) aN)))))))))
def m_solved : List D → List D → Option (D × List D) := runB false 5 g_solved
def g_kept : Sv :=
  (sRet (eCall 2 m_meet (aC (eIx (eB 0) (eC (.int 0))) (aC (eCall 2 m_row_of (aC (eBin dAdd (eC (.int 1)) (eIx (eB 0) (eC (.int 1)))) (aC (eIx (eB 0) (eC (.int 2))) aN))) aN))))
def m_kept : List D → List D → Option (D × List D) := runB false 1 g_kept
def g_signed : Sv :=
  (sSeq (sSet 1 (eDisp (eC k_ALL) (eC (.int 1)))) (sSeq (sFor (.tup [(.nm 2), (.nm 3)]) (iAny (eV 0)) (sSeq (sSetO 4 (eUn dCopy (eB 1))) (sSeq (sFor (.tup [(.nm 5), (.nm 6)]) (iItems (eV 1)) (sFor (.tup [(.nm 7), (.nm 8)]) (iAny (eTup (aC (eTup (aC (eV 2) (aC (eUn dNeg (eC (.int 1))) aN))) (aC (eTup (aC (eV 3) (aC (eC (.int 1)) aN))) aN)))) (sSeq (sSet 9 (eCall 2 m_meet (aC (eV 5) (aC (eV 7) aN)))) (sIf (cV (eBin dNotN (eB 9) (eC .non))) (sDPut 4 (eBin dAdd (eDGet (eB 4) (eV 9) (eC (.int 0))) (eBin dMul (eB 8) (eB 6))) (eV 9)) sNil)))) (sFrz 4 (sSet 1 (eDComp (.tup [(.nm 5), (.nm 6)]) (iItems (eV 4)) (cV (eBin dNe (eB 6) (eC (.int 0)))) (eV 5) (eV 6) [5, 6])))))) (sRet (eV 1))))
def m_signed : List D → List D → Option (D × List D) := runB false 10 g_signed
def g_matches : Sv :=
  (sSeq (sSet 2 (eLst aN)) (sSeq (sFor (.nm 3) (iAny (eCall 2 m_exchanges (aC (eIx (eB 0) (eC (.int 1))) (aC (eIx (eB 1) (eC (.int 1))) aN)))) (sFor (.nm 4) (iRange1 (aC (eIx (eB 0) (eC (.int 2))) aN)) (sSeq (sSet 5 (eCall 1 m_solved (aC (eCall 4 m_equations (aC (eV 0) (aC (eV 1) (aC (eV 3) (aC (eV 4) aN))))) aN))) (sSet 2 (eIf (cV (eBin dIsN (eB 5) (eC .non))) (eV 2) (eLst (aS (eB 2) (aC (eV 5) aN)))))))) (sRet (eV 2))))
def m_matches : List D → List D → Option (D × List D) := runB false 6 g_matches
def g_rows_of : Sv :=
  (sRet (eComp (.tup [(.nm 1), (.nm 2)]) (iItems (eCall 1 m_signed (aC (eV 0) aN))) (cV (eBin dNe (eB 1) (eC k_ALL))) (eTup (aC (eV 1) (aC (eUn dNeg (eB 2)) aN))) [1, 2]))
def m_rows_of : List D → List D → Option (D × List D) := runB false 3 g_rows_of
def g_count_all : Sv :=
  (sSeq (sIf (cV (eCall 1 m_is_endless (aC (eV 0) aN))) (sRet (eC .non)) sNil) (sRet (eUn dSum (eComp (.tup [(.nm 1), (.nm 2)]) (iAny (eCall 1 m_rows_of (aC (eV 0) aN))) cYes (eBin dMul (eIx (eB 1) (eC (.int 0))) (eB 2)) [1, 2]))))
def m_count_all : List D → List D → Option (D × List D) := runB false 3 g_count_all
def g_time_at : Sv :=
  (sSeq (sSet 2 (eCall 1 m_rows_of (aC (eV 0) aN))) (sSeq (sIf (cV (eBin dGe (eB 1) (eUn dSum (eComp (.tup [(.nm 11), (.nm 4)]) (iAny (eV 2)) cYes (eBin dMul (eIx (eB 11) (eC (.int 0))) (eB 4)) [11, 4])))) (sRet (eC .non)) sNil) (sSeq (sSet 3 (eC (.int 1))) (sSeq (sFor (.tup [(.tup [(.nm 4), (.tup [(.nm 5), (.nm 6)])]), (.nm 7)]) (iAny (eV 2)) (sSet 3 (eBin dMul (eBin dMul (eBin dDiv (eB 3) (eCall 2 m_divisor (aC (eV 3) (aC (eBin dMul (eB 4) (eB 6)) aN)))) (eB 4)) (eB 6)))) (sSeq (sPar 8 9 (eC (.int 0)) (eBin dSub (eB 3) (eC (.int 1)))) (sSeq (sWhile (fun ρ => natGap 8 9 ρ + 1) (cV (eBin dLt (eB 8) (eB 9))) (sSeq (sSet 10 (eBin dDiv (eBin dAdd (eB 8) (eB 9)) (eC (.int 2)))) (sIf (cV (eBin dGt (eCall 3 m_count_until (aC (eV 2) (aC (eTup (aC (eV 10) (aC (eV 3) aN))) (aC (eC (.bl true)) aN)))) (eB 1))) (sSet 9 (eV 10)) (sSet 8 (eBin dAdd (eB 10) (eC (.int 1))))))) (sRet (eCall 2 m_part (aC (eV 8) (aC (eV 3) aN))))))))))
def m_time_at : List D → List D → Option (D × List D) := runB false 12 g_time_at
def g_families : Sv :=
  (sSeq (sSetO 1 eDct0) (sSeq (sFor (.nm 2) (iAny (eCall 2 m_matches (aC (eV 0) (aC (eV 0) aN)))) (sSeq (sSet 3 (eCall 1 m_kept (aC (eV 2) aN))) (sIf (cV (eBin dNe (eB 3) (eIx (eB 2) (eC (.int 0))))) (sDPut 1 (eC (.bl true)) (eTup (aC (eIx (eB 2) (eC (.int 0))) (aC (eV 3) aN)))) sNil))) (sRet (eUnF lOfK (eB 1)))))
def m_families : List D → List D → Option (D × List D) := runB false 4 g_families
def g_is_clear : Sv :=
  (sRet (eBin dEq (eCall 1 m_families (aC (eV 0) aN)) (eLst aN)))
def m_is_clear : List D → List D → Option (D × List D) := runB false 1 g_is_clear
def g_count_unclear : Sv :=
  (sRet (eCall 1 m_count_all (aC (eCall 1 m_families (aC (eV 0) aN)) aN)))
def m_count_unclear : List D → List D → Option (D × List D) := runB false 1 g_count_unclear
def g_unclear_at : Sv :=
  (sSeq (sSet 2 (eCall 1 m_families (aC (eV 0) aN))) (sRet (eIf (cV (eCall 1 m_is_endless (aC (eV 2) aN))) (eC .non) (eCall 2 m_time_at (aC (eV 2) (aC (eV 1) aN))))))
def m_unclear_at : List D → List D → Option (D × List D) := runB false 3 g_unclear_at
def g_law_like (m : List D → List D → Option (D × List D)) : Sv :=
  (sSeq (sIf (cV (eUn (dIs isLT) (eB 0))) (sSeq (sIf (cOr (cV (eBin dNe (eUn (dIs isL) (eB 0)) (eUn (dIs isL) (eB 1)))) (cV (eBin dNe (eUn (dIs isTp) (eB 0)) (eUn (dIs isTp) (eB 1))))) (sRet (eC (.bl false))) sNil) (sSeq (sIf (cV (eBin dNe (eUn dLen (eB 0)) (eUn dLen (eB 1)))) (sRet (eC (.bl false))) sNil) (sRet (eBin dEq (eComp (.nm 2) (iRange1 (aC (eUn dLen (eB 0)) aN)) (cNot (cV (eCall 2 m (aC (eIx (eB 0) (eB 2)) (aC (eIx (eB 1) (eB 2)) aN))))) (eV 2) [2]) (eLst aN))))) sNil) (sSeq (sIf (cV (eUn (dIs isLT) (eB 1))) (sRet (eC (.bl false))) sNil) (sRet (eAnd (eBin dEq (eUn (dIs isBo) (eB 0)) (eUn (dIs isBo) (eB 1))) (eBin dEq (eB 0) (eB 1))))))
def m_law_like : Nat → List D → List D → Option (D × List D)
  | 0 => fun _ _ => none
  | n + 1 => runB false 3 (g_law_like (m_law_like n))
def g_law : Sv :=
  (sCell 1 (eLst (aC (eUnF lOf (eB 0)) (aC (eC (.int 0)) (aC (eC (.int 0)) aN)))) (sSeq (sFor (.nm 2) (iRange1 (aC (eC (.int 20)) aN)) (sSeq (sSet 3 (eIx (eLst (aC (eC (.int 9)) (aC (eBin dPow (eC (.int 10)) (eC (.int 3))) (aC (eBin dPow (eC (.int 10)) (eC (.int 6))) aN)))) (eCall 2 m_law_draw (aC (eV 1) (aC (eC (.int 3)) aN))))) (sSeq (sPar 4 5 (eBin dAdd (eC (.int 1)) (eCall 2 m_law_draw (aC (eV 1) (aC (eV 3) aN)))) (eBin dAdd (eC (.int 1)) (eCall 2 m_law_draw (aC (eV 1) (aC (eV 3) aN))))) (sSeq (sSet 6 (eCall 2 m_law_gcd (aC (eV 4) (aC (eV 5) aN)))) (sSeq (sPar 4 5 (eBin dDiv (eB 4) (eB 6)) (eBin dMul (eBin dDiv (eB 5) (eB 6)) (eIx (eLst (aC (eC (.int 1)) (aC (eC (.int 1)) (aC (eUn dNeg (eC (.int 1))) aN)))) (eCall 2 m_law_draw (aC (eV 1) (aC (eC (.int 3)) aN)))))) (sSeq (sSet 7 (eTup (aC (eTup (aC (eV 4) (aC (eV 5) aN))) (aC (eC (.str "aa")) (aC (eC (.int 1)) aN))))) (sSeq (sSet 8 (eIf (cV (eBin dEq (eBin dAdd (eB 4) (eB 5)) (eC (.int 0)))) (eC .non) (eBin dMul (eUn dAbs (eBin dSub (eB 4) (eB 5))) (eBin dSub (eUn dAbs (eBin dAdd (eB 4) (eB 5))) (eC (.int 1)))))) (sSeq (sIf (cOr (cNot (cV (eCall 2 (m_law_like 8) (aC (eCall 1 m_count_unclear (aC (eV 7) aN)) (aC (eV 8) aN))))) (cV (eBin dNe (eCall 1 m_count_unclear (aC (eTup (aC (eTup (aC (eUn dNeg (eB 5)) (aC (eUn dNeg (eB 4)) aN))) (aC (eC (.str "bb")) (aC (eC (.int 1)) aN)))) aN)) (eB 8)))) (sRet (eC (.bl false))) sNil) (sSeq (sIf (cOr (cNot (cV (eCall 2 (m_law_like 8) (aC (eCall 1 m_is_clear (aC (eV 7) aN)) (aC (eBin dEq (eB 8) (eC (.int 0))) aN))))) (cV (eBin dNotB (eCall 1 m_is_clear (aC (eTup (aC (eTup (aC (eV 4) (aC (eV 5) aN))) (aC (eC (.str "ab")) (aC (eC (.int 1)) aN)))) aN)) (eC (.bl true))))) (sRet (eC (.bl false))) sNil) (sIf (cAnd (cV (eBin dNotN (eB 8) (eC .non))) (cV (eBin dGt (eB 8) (eC (.int 0))))) (sSeq (sPar 9 10 (eCall 2 m_unclear_at (aC (eV 7) (aC (eC (.int 0)) aN))) (eCall 2 m_unclear_at (aC (eV 7) (aC (eBin dSub (eB 8) (eC (.int 1))) aN)))) (sIf (cOr (cV (eBin dNe (eCall 2 m_law_sum (aC (eV 9) (aC (eV 10) aN))) (eTup (aC (eC (.int 0)) (aC (eC (.int 1)) aN))))) (cV (eBin dNotN (eCall 2 m_unclear_at (aC (eV 7) (aC (eV 8) aN))) (eC .non)))) (sRet (eC (.bl false))) sNil)) sNil)))))))))) (sRet (eBin dEq (eCall 1 m_count_unclear (aC (eTup (aC (eTup (aC (eBin dPow (eC (.int 10)) (eC (.int 6))) (aC (eUn dNeg (eC (.int 7))) aN))) (aC (eC (.str "aa")) (aC (eC (.int 1)) aN)))) aN)) (eC (.int 999998999944))))))
def m_law : List D → List D → Option (D × List D) := runB false 11 g_law
section
variable {P : Program} {w : World} {K : PySem.W.Frag} {mg : Str → Option Value} {base : Heap}
abbrev s_divisor : Stmt := topS 2
theorem sc_divisor : FnScope ["one", "other", "first", "second"] ["one", "other"] (defScope s_divisor) := ⟨rfl, rfl, rfl, by decide +kernel, rfl, by decide +kernel, by decide +kernel⟩
theorem ok_divisor {f : Addr} {fd : FuncData} (F : FnP K "divisor" s_divisor f fd) (hg : mg "divisor" = some (.ref f)) (z_abs : mg "abs" = none) : FnM P w K mg base 1 "divisor" f fd ["one", "other"] false m_divisor := by
  have nd := sc_divisor.nd
  refine def_ok (k := 0) F sc_divisor hg (F.bindsN (ps := ["one", "other"]) fun _ _ _ _ _ _ us hl => match us, hl with | [_, _], _ => rfl) (fun _ _ _ => rfl) (fun cdv A outer s H E hr => ?_)
  exact (mss_cons (ms_par (i := 2) (j := 3) rfl nd rfl rfl (by decide) rfl rfl (me_b1 cd_abs (by rfl) z_abs boot_abs (me_bv 0)) (me_b1 cd_abs (by rfl) z_abs boot_abs (me_bv 1)) (by rfl)) (mss_cons (ms_while PassesOwn.never (mt_cmp od_gt (me_bv 3) (me_b me_int) (nomark _)) (mss_one (ms_par (i := 2) (j := 3) rfl nd rfl rfl (by decide) rfl rfl (me_v 3) (me_bin od_mod (me_bv 2) (me_bv 3)) (by rfl)))) (mss_one (ms_ret (me_v 2)))))
abbrev s_factors : Stmt := topS 7
theorem sc_factors : FnScope ["one", "other", "first", "second", "many", "own", "less"] ["one", "other"] (defScope s_factors) := ⟨rfl, rfl, rfl, by decide +kernel, rfl, by decide +kernel, by decide +kernel⟩
theorem ok_factors {f : Addr} {fd : FuncData} (F : FnP K "factors" s_factors f fd) (hg : mg "factors" = some (.ref f)) (z_tuple : mg "tuple" = none) (z_zip : mg "zip" = none) : FnM P w K mg base 1 "factors" f fd ["one", "other"] false m_factors := by
  have nd := sc_factors.nd
  refine def_ok (k := 0) F sc_factors hg (F.bindsN (ps := ["one", "other"]) fun _ _ _ _ _ _ us hl => match us, hl with | [_, _], _ => rfl) (fun _ _ _ => rfl) (fun cdv A outer s H E hr => ?_)
  have hu := hu64 hr
  have hu5 := hu65 hr
  exact (mss_cons (ms_par (i := 2) (j := 3) rfl nd rfl rfl (by decide) rfl rfl (me_tup (ma_cons (me_v 0) (ma_cons me_int (ma_cons me_int ma_nil)))) (me_tup (ma_cons (me_v 1) (ma_cons me_int (ma_cons me_int ma_nil)))) (by rfl)) (mss_cons (ms_while PassesOwn.never (mt_cmp (od_ne hu) (me_b (me_ix (me_bv 3) (me_b me_int))) (me_b me_int) (nomark _)) (mss_cons (ms_set (i := 4) nd rfl (by first | exact .inl rfl | exact .inr rfl) (me_bin od_div (me_b (me_ix (me_bv 2) (me_b me_int))) (me_b (me_ix (me_bv 3) (me_b me_int))))) (mss_one (ms_par (i := 2) (j := 3) rfl nd rfl rfl (by decide) rfl rfl (me_v 3) (me_t1 cd_tuple (by rfl) z_tuple boot_tuple (me_b (me_f (mf_comp (own := [("own", 5), ("less", 6)]) (vs := [5, 6]) (p := (.tup [(.nm 5), (.nm 6)])) rfl nd (mi_zip (by rfl) z_zip (ma_cons (me_v 2) (ma_cons (me_v 3) ma_nil))) (blkOk_by (N := ["one", "other", "first", "second", "many", "own", "less"]) (sc := defScope s_factors) (by decide +kernel)) (fun _ _ _ _ _ => (mg_tup rfl (mgs_cons (mg_name (i := 5) nd rfl (by first | exact .inl rfl | exact .inr rfl)) (mgs_cons (mg_name (i := 6) nd rfl (by first | exact .inl rfl | exact .inr rfl)) mgs_nil)))) (fun _ _ _ _ _ => mts_nil) (fun _ _ _ _ _ => (me_bin od_sub (me_bv 5) (me_b (me_bin od_mul (me_bv 4) (me_bv 6))))))))) (by rfl))))) (mss_one (ms_ret (me_tup (ma_cons (me_ix (me_bv 2) (me_b me_int)) (ma_cons (me_ix (me_bv 2) (me_b me_int)) ma_nil)))))))
abbrev s_count_to : Stmt := topS 9
theorem sc_count_to : FnScope ["row", "time", "after", "many", "top", "bottom", "gap", "whole"] ["row", "time", "after"] (defScope s_count_to) := ⟨rfl, rfl, rfl, by decide +kernel, rfl, by decide +kernel, by decide +kernel⟩
theorem ok_count_to {f : Addr} {fd : FuncData} (F : FnP K "count_to" s_count_to f fd) (hg : mg "count_to" = some (.ref f)) (z_max : mg "max" = none) (z_min : mg "min" = none) : FnM P w K mg base 1 "count_to" f fd ["row", "time", "after"] false m_count_to := by
  have nd := sc_count_to.nd
  refine def_ok (k := 0) F sc_count_to hg (F.bindsN (ps := ["row", "time", "after"]) fun _ _ _ _ _ _ us hl => match us, hl with | [_, _, _], _ => rfl) (fun _ _ _ => rfl) (fun cdv A outer s H E hr => ?_)
  exact (mss_cons (ms_asg (p := (.tup [(.nm 3), (.tup [(.nm 4), (.nm 5)])])) (me_v 0) (mg_tup rfl (mgs_cons (mg_name (i := 3) nd rfl (by first | exact .inl rfl | exact .inr rfl)) (mgs_cons (mg_tup rfl (mgs_cons (mg_name (i := 4) nd rfl (by first | exact .inl rfl | exact .inr rfl)) (mgs_cons (mg_name (i := 5) nd rfl (by first | exact .inl rfl | exact .inr rfl)) mgs_nil))) mgs_nil)))) (mss_cons (ms_set (i := 6) nd rfl (by first | exact .inl rfl | exact .inr rfl) (me_bin od_sub (me_b (me_bin od_mul (me_b (me_bin od_mul (me_bv 3) (me_b (me_ix (me_bv 1) (me_b me_int))))) (me_bv 5))) (me_b (me_bin od_mul (me_bv 4) (me_b (me_ix (me_bv 1) (me_b me_int))))))) (mss_cons (ms_set (i := 7) nd rfl (by first | exact .inl rfl | exact .inr rfl) (me_bin od_mul (me_b (me_ix (me_bv 1) (me_b me_int))) (me_bv 5))) (mss_one (ms_ret (me_b2 (cd_max2 rfl) (by rfl) z_max boot_max (me_b me_int) (me_b (me_b2 (cd_min2 rfl) (by rfl) z_min boot_min (me_bv 3) (me_b (me_if (mt_val (me_v 2)) (me_bin od_add (me_b (me_bin od_div (me_bv 6) (me_bv 7))) (me_b me_int)) (me_bin od_add (me_b (me_bin od_div (me_b (me_bin od_sub (me_bv 6) (me_b me_int))) (me_bv 7))) (me_b me_int))))))))))))
abbrev s_exchanges : Stmt := topS 11
theorem sc_exchanges : FnScope ["first", "second", "found", "look", "row", "at", "other"] ["first", "second"] (defScope s_exchanges) := ⟨rfl, rfl, rfl, by decide +kernel, rfl, by decide +kernel, by decide +kernel⟩
theorem ok_exchanges {f : Addr} {fd : FuncData} (F : FnP K "exchanges" s_exchanges f fd) (hg : mg "exchanges" = some (.ref f)) (z_enumerate : mg "enumerate" = none) : FnM P w K mg base 1 "exchanges" f fd ["first", "second"] false m_exchanges := by
  have nd := sc_exchanges.nd
  refine def_ok (k := 0) F sc_exchanges hg (F.bindsN (ps := ["first", "second"]) fun _ _ _ _ _ _ us hl => match us, hl with | [_, _], _ => rfl) (fun _ _ _ => rfl) (fun cdv A outer s H E hr => ?_)
  have hu := hu64 hr
  have hu5 := hu65 hr
  exact (mss_cons (ms_set (i := 2) nd rfl (by first | exact .inl rfl | exact .inr rfl) (me_f (mf_lst (ma_cons (me_tup ma_nil) ma_nil)))) (mss_cons (ms_for (p := (.nm 3)) PassesOwn.never rfl (mi_any (me_v 0)) (mg_name (i := 3) nd rfl (by first | exact .inl rfl | exact .inr rfl)) (mss_one (ms_setC2 (i := 2) (own := [("row", 4), ("at", 5), ("other", 6)]) (vs := [4, 5, 6]) (vs1 := [5, 6]) (p := (.nm 4)) (p2 := (.tup [(.nm 5), (.nm 6)])) rfl nd rfl rfl (sw_true rfl rfl rfl (by decide +kernel)) (mi_any (me_v 2)) (blkOk_by (N := ["first", "second", "found", "look", "row", "at", "other"]) (sc := defScope s_exchanges) (by decide +kernel)) (by decide) (fun _ _ _ _ _ => (mg_name (i := 4) nd rfl (by first | exact .inl rfl | exact .inr rfl))) (fun _ _ _ _ _ => mts_nil) (fun _ _ _ _ _ => (mi_enum (by rfl) z_enumerate (ma_cons (me_v 1) ma_nil))) (fun _ _ _ _ _ => (mg_tup rfl (mgs_cons (mg_name (i := 5) nd rfl (by first | exact .inl rfl | exact .inr rfl)) (mgs_cons (mg_name (i := 6) nd rfl (by first | exact .inl rfl | exact .inr rfl)) mgs_nil)))) (fun _ _ _ _ _ => (mts_one (PW.pt (mw_and (mt_cmp (od_eq hu) (me_bv 6) (me_bv 3) (nomark _)) (mw_and1 (mt_cmp (od_ni hu5) (me_bv 5) (me_bv 4) (by rfl))))))) (fun _ _ _ _ _ => (me_tup (ma_star (me_bv 4) (ma_cons (me_v 5) ma_nil))))))) (mss_one (ms_ret (me_v 2)))))
abbrev s_is_endless : Stmt := topS 20
theorem sc_is_endless : FnScope ["families", "row", "less"] ["families"] (defScope s_is_endless) := ⟨rfl, rfl, rfl, by decide +kernel, rfl, by decide +kernel, by decide +kernel⟩
theorem ok_is_endless {f : Addr} {fd : FuncData} (F : FnP K "is_endless" s_is_endless f fd) (hg : mg "is_endless" = some (.ref f)) (c_ALL : KC K mg "ALL" k_ALL) : FnM P w K mg base 1 "is_endless" f fd ["families"] false m_is_endless := by
  have nd := sc_is_endless.nd
  refine def_ok (k := 0) F sc_is_endless hg (F.bindsN (ps := ["families"]) fun _ _ _ _ _ _ us hl => match us, hl with | [_], _ => rfl) (fun _ _ _ => rfl) (fun cdv A outer s H E hr => ?_)
  have hu := hu64 hr
  have hu5 := hu65 hr
  exact (mss_one (ms_ret (me_cmp (od_in hu5) (me_b (me_glob (by rfl) c_ALL.mg c_ALL.rv c_ALL.kd)) (me_b (me_f (mf_comp (own := [("row", 1), ("less", 2)]) (vs := [1, 2]) (p := (.tup [(.nm 1), (.nm 2)])) rfl nd (mi_any (me_v 0)) (blkOk_by (N := ["families", "row", "less"]) (sc := defScope s_is_endless) (by decide +kernel)) (fun _ _ _ _ _ => (mg_tup rfl (mgs_cons (mg_name (i := 1) nd rfl (by first | exact .inl rfl | exact .inr rfl)) (mgs_cons (mg_name (i := 2) nd rfl (by first | exact .inl rfl | exact .inr rfl)) mgs_nil)))) (fun _ _ _ _ _ => mts_nil) (fun _ _ _ _ _ => (me_v 1))))) (by rfl))))
abbrev s_law_draw : Stmt := topS 31
theorem sc_law_draw : FnScope ["_law_tape", "_law_many", "_law_prime", "_law_cell", "_law_found"] ["_law_tape", "_law_many"] (defScope s_law_draw) := ⟨rfl, rfl, rfl, by decide +kernel, rfl, by decide +kernel, by decide +kernel⟩
theorem ok_law_draw {f : Addr} {fd : FuncData} (F : FnP K "_law_draw" s_law_draw f fd) (hg : mg "_law_draw" = some (.ref f)) (z_int : mg "int" = none) (z_len : mg "len" = none) : FnM P w K mg base 1 "_law_draw" f fd ["_law_tape", "_law_many"] false m_law_draw := by
  have nd := sc_law_draw.nd
  refine def_ok (k := 0) F sc_law_draw hg (F.bindsN (ps := ["_law_tape", "_law_many"]) fun _ _ _ _ _ _ us hl => match us, hl with | [_, _], _ => rfl) (fun _ _ _ => rfl) (fun cdv A outer s H E hr => ?_)
  exact (mss_cons (ms_set (i := 2) nd rfl (by first | exact .inl rfl | exact .inr rfl) me_int) (mss_cons (ms_if (mt_cmp od_lt (me_b (me_ix (me_bv 0) (me_b me_int))) (me_bv 1) (nomark _)) (mss_cons (ms_set (i := 3) nd rfl (by first | exact .inl rfl | exact .inr rfl) me_int) (mss_cons (ms_if (mt_cmp od_gt (me_b (me_b1 cd_len (by rfl) z_len boot_len (me_b (me_ix (me_bv 0) (me_b me_int))))) (me_b me_int) (nomark _)) (mss_one (ms_set (i := 3) nd rfl (by first | exact .inl rfl | exact .inr rfl) (me_ix (me_b (me_ix (me_bv 0) (me_b me_int))) (me_b (me_bin od_mod (me_b (me_t1 cd_int (by rfl) z_int boot_int (me_b (me_ix (me_bv 0) (me_b me_int))))) (me_b (me_b1 cd_len (by rfl) z_len boot_len (me_b (me_ix (me_bv 0) (me_b me_int)))))))))) mss_nil) (mss_cons (ms_if (PW.pt (mw_or (mt_cmp od_ge (me_b (me_ix (me_bv 0) (me_b me_int))) (me_b (me_b1 cd_len (by rfl) z_len boot_len (me_b (me_ix (me_bv 0) (me_b me_int))))) (nomark _)) (mw_or1 (mt_cmp od_lt (me_bv 3) (me_b (me_bin od_pow (me_b me_int) (me_b me_int))) (nomark _))))) (mss_cons (ms_set (i := 3) nd rfl (by first | exact .inl rfl | exact .inr rfl) (me_bin od_mod (me_b (me_t1 cd_int (by rfl) z_int boot_int (me_b (me_bin od_add (me_bv 3) (me_b (me_bin od_mul (me_b me_int) (me_b (me_ix (me_bv 0) (me_b me_int))))))))) (me_bv 2))) (mss_cons (ms_set (i := 3) nd rfl (by first | exact .inl rfl | exact .inr rfl) (me_bin od_mod (me_b (me_t1 cd_int (by rfl) z_int boot_int (me_b (me_bin od_add (me_b (me_bin od_add (me_b (me_bin od_mul (me_bv 3) (me_bv 3))) (me_b (me_bin od_mul (me_b me_int) (me_bv 3))))) (me_b me_int))))) (me_bv 2))) (mss_one (ms_set (i := 3) nd rfl (by first | exact .inl rfl | exact .inr rfl) (me_bin od_mod (me_b (me_t1 cd_int (by rfl) z_int boot_int (me_b (me_bin od_add (me_b (me_bin od_mul (me_bv 3) (me_bv 3))) (me_b me_int))))) (me_bv 2)))))) mss_nil) (mss_cons (ms_ixC (me_v 0) me_int (me_bin od_add (me_b (me_ix (me_bv 0) (me_b me_int))) (me_b me_int))) (mss_one (ms_ixC (me_v 0) me_int (me_v 3))))))) mss_nil) (mss_cons (ms_set (i := 4) nd rfl (by first | exact .inl rfl | exact .inr rfl) (me_bin od_mod (me_b (me_t1 cd_int (by rfl) z_int boot_int (me_b (me_ix (me_bv 0) (me_b me_int))))) (me_bv 1))) (mss_cons (ms_ixC (me_v 0) me_int (me_bin od_div (me_b (me_ix (me_bv 0) (me_b me_int))) (me_bv 1))) (mss_one (ms_ret (me_v 4)))))))
abbrev s_law_gcd : Stmt := topS 33
theorem sc_law_gcd : FnScope ["_law_one", "_law_other", "_law_first", "_law_second"] ["_law_one", "_law_other"] (defScope s_law_gcd) := ⟨rfl, rfl, rfl, by decide +kernel, rfl, by decide +kernel, by decide +kernel⟩
theorem ok_law_gcd {f : Addr} {fd : FuncData} (F : FnP K "_law_gcd" s_law_gcd f fd) (hg : mg "_law_gcd" = some (.ref f)) (z_abs : mg "abs" = none) (z_int : mg "int" = none) : FnM P w K mg base 1 "_law_gcd" f fd ["_law_one", "_law_other"] false m_law_gcd := by
  have nd := sc_law_gcd.nd
  refine def_ok (k := 0) F sc_law_gcd hg (F.bindsN (ps := ["_law_one", "_law_other"]) fun _ _ _ _ _ _ us hl => match us, hl with | [_, _], _ => rfl) (fun _ _ _ => rfl) (fun cdv A outer s H E hr => ?_)
  exact (mss_cons (ms_par (i := 2) (j := 3) rfl nd rfl rfl (by decide) rfl rfl (me_b1 cd_abs (by rfl) z_abs boot_abs (me_bv 0)) (me_b1 cd_abs (by rfl) z_abs boot_abs (me_bv 1)) (by rfl)) (mss_cons (ms_while PassesOwn.never (mt_cmp od_gt (me_bv 3) (me_b me_int) (nomark _)) (mss_one (ms_par (i := 2) (j := 3) rfl nd rfl rfl (by decide) rfl rfl (me_v 3) (me_bin od_mod (me_b (me_t1 cd_int (by rfl) z_int boot_int (me_bv 2))) (me_bv 3)) (by rfl)))) (mss_one (ms_ret (me_v 2)))))
abbrev s_part : Stmt := topS 3
theorem sc_part : FnScope ["top", "bottom", "least"] ["top", "bottom"] (defScope s_part) := ⟨rfl, rfl, rfl, by decide +kernel, rfl, by decide +kernel, by decide +kernel⟩
theorem ok_part {f : Addr} {fd : FuncData} (F : FnP K "part" s_part f fd) (hg : mg "part" = some (.ref f)) {f_divisor : Addr} {fd_divisor : FuncData} (F_divisor : FnM P w K mg base 1 "divisor" f_divisor fd_divisor ["one", "other"] false m_divisor) : FnM P w K mg base 2 "part" f fd ["top", "bottom"] false m_part := by
  have nd := sc_part.nd
  refine def_ok (k := 1) F sc_part hg (F.bindsN (ps := ["top", "bottom"]) fun _ _ _ _ _ _ us hl => match us, hl with | [_, _], _ => rfl) (fun _ _ _ => rfl) (fun cdv A outer s H E hr => ?_)
  exact (mss_cons (ms_set (i := 2) nd rfl (by first | exact .inl rfl | exact .inr rfl) (me_call F_divisor (hr.mono (by decide)) (by rfl) (ma_cons (me_bin od_mod (me_bv 0) (me_bv 1)) (ma_cons (me_v 1) ma_nil)))) (mss_one (ms_ret (me_tup (ma_cons (me_bin od_div (me_b (me_bin od_mod (me_bv 0) (me_bv 1))) (me_bv 2)) (ma_cons (me_bin od_div (me_bv 1) (me_bv 2)) ma_nil))))))
abbrev s_count_until : Stmt := topS 23
theorem sc_count_until : FnScope ["rows", "time", "after", "row", "many"] ["rows", "time", "after"] (defScope s_count_until) := ⟨rfl, rfl, rfl, by decide +kernel, rfl, by decide +kernel, by decide +kernel⟩
theorem ok_count_until {f : Addr} {fd : FuncData} (F : FnP K "count_until" s_count_until f fd) (hg : mg "count_until" = some (.ref f)) {f_count_to : Addr} {fd_count_to : FuncData} (F_count_to : FnM P w K mg base 1 "count_to" f_count_to fd_count_to ["row", "time", "after"] false m_count_to) (z_sum : mg "sum" = none) : FnM P w K mg base 2 "count_until" f fd ["rows", "time", "after"] false m_count_until := by
  have nd := sc_count_until.nd
  refine def_ok (k := 1) F sc_count_until hg (F.bindsN (ps := ["rows", "time", "after"]) fun _ _ _ _ _ _ us hl => match us, hl with | [_, _, _], _ => rfl) (fun _ _ _ => rfl) (fun cdv A outer s H E hr => ?_)
  exact (mss_one (ms_ret (me_b1 (cd_sum rfl) (by rfl) z_sum boot_sum (me_b (me_f (mf_comp (own := [("row", 3), ("many", 4)]) (vs := [3, 4]) (p := (.tup [(.nm 3), (.nm 4)])) rfl nd (mi_any (me_v 0)) (blkOk_by (N := ["rows", "time", "after", "row", "many"]) (sc := defScope s_count_until) (by decide +kernel)) (fun _ _ _ _ _ => (mg_tup rfl (mgs_cons (mg_name (i := 3) nd rfl (by first | exact .inl rfl | exact .inr rfl)) (mgs_cons (mg_name (i := 4) nd rfl (by first | exact .inl rfl | exact .inr rfl)) mgs_nil)))) (fun _ _ _ _ _ => mts_nil) (fun _ _ _ _ _ => (me_bin od_mul (me_b (me_call F_count_to (hr.mono (by decide)) (by rfl) (ma_cons (me_v 3) (ma_cons (me_v 1) (ma_cons (me_v 2) ma_nil))))) (me_bv 4)))))))))
abbrev s_law_part : Stmt := topS 34
theorem sc_law_part : FnScope ["_law_top", "_law_bottom", "_law_rest", "_law_my_divisor"] ["_law_top", "_law_bottom"] (defScope s_law_part) := ⟨rfl, rfl, rfl, by decide +kernel, rfl, by decide +kernel, by decide +kernel⟩
theorem ok_law_part {f : Addr} {fd : FuncData} (F : FnP K "_law_part" s_law_part f fd) (hg : mg "_law_part" = some (.ref f)) {f_law_gcd : Addr} {fd_law_gcd : FuncData} (F_law_gcd : FnM P w K mg base 1 "_law_gcd" f_law_gcd fd_law_gcd ["_law_one", "_law_other"] false m_law_gcd) (z_int : mg "int" = none) : FnM P w K mg base 2 "_law_part" f fd ["_law_top", "_law_bottom"] false m_law_part := by
  have nd := sc_law_part.nd
  refine def_ok (k := 1) F sc_law_part hg (F.bindsN (ps := ["_law_top", "_law_bottom"]) fun _ _ _ _ _ _ us hl => match us, hl with | [_, _], _ => rfl) (fun _ _ _ => rfl) (fun cdv A outer s H E hr => ?_)
  exact (mss_cons (ms_set (i := 2) nd rfl (by first | exact .inl rfl | exact .inr rfl) (me_bin od_mod (me_b (me_t1 cd_int (by rfl) z_int boot_int (me_bv 0))) (me_bv 1))) (mss_cons (ms_set (i := 3) nd rfl (by first | exact .inl rfl | exact .inr rfl) (me_call F_law_gcd (hr.mono (by decide)) (by rfl) (ma_cons (me_v 2) (ma_cons (me_v 1) ma_nil)))) (mss_one (ms_ret (me_tup (ma_cons (me_bin od_div (me_bv 2) (me_bv 3)) (ma_cons (me_bin od_div (me_bv 1) (me_bv 3)) ma_nil)))))))
abbrev s_turned : Stmt := topS 4
theorem sc_turned : FnScope ["one", "many"] ["one", "many"] (defScope s_turned) := ⟨rfl, rfl, rfl, by decide +kernel, rfl, by decide +kernel, by decide +kernel⟩
theorem ok_turned {f : Addr} {fd : FuncData} (F : FnP K "turned" s_turned f fd) (hg : mg "turned" = some (.ref f)) {f_part : Addr} {fd_part : FuncData} (F_part : FnM P w K mg base 2 "part" f_part fd_part ["top", "bottom"] false m_part) : FnM P w K mg base 3 "turned" f fd ["one", "many"] false m_turned := by
  have nd := sc_turned.nd
  refine def_ok (k := 2) F sc_turned hg (F.bindsN (ps := ["one", "many"]) fun _ _ _ _ _ _ us hl => match us, hl with | [_, _], _ => rfl) (fun _ _ _ => rfl) (fun cdv A outer s H E hr => ?_)
  exact (mss_one (ms_ret (me_call F_part (hr.mono (by decide)) (by rfl) (ma_cons (me_bin od_mul (me_b (me_ix (me_bv 0) (me_b me_int))) (me_bv 1)) (ma_cons (me_ix (me_bv 0) (me_b me_int)) ma_nil)))))
abbrev s_together : Stmt := topS 5
theorem sc_together : FnScope ["one", "other"] ["one", "other"] (defScope s_together) := ⟨rfl, rfl, rfl, by decide +kernel, rfl, by decide +kernel, by decide +kernel⟩
theorem ok_together {f : Addr} {fd : FuncData} (F : FnP K "together" s_together f fd) (hg : mg "together" = some (.ref f)) {f_part : Addr} {fd_part : FuncData} (F_part : FnM P w K mg base 2 "part" f_part fd_part ["top", "bottom"] false m_part) : FnM P w K mg base 3 "together" f fd ["one", "other"] false m_together := by
  have nd := sc_together.nd
  refine def_ok (k := 2) F sc_together hg (F.bindsN (ps := ["one", "other"]) fun _ _ _ _ _ _ us hl => match us, hl with | [_, _], _ => rfl) (fun _ _ _ => rfl) (fun cdv A outer s H E hr => ?_)
  exact (mss_one (ms_ret (me_call F_part (hr.mono (by decide)) (by rfl) (ma_cons (me_bin od_add (me_b (me_bin od_mul (me_b (me_ix (me_bv 0) (me_b me_int))) (me_b (me_ix (me_bv 1) (me_b me_int))))) (me_b (me_bin od_mul (me_b (me_ix (me_bv 1) (me_b me_int))) (me_b (me_ix (me_bv 0) (me_b me_int)))))) (ma_cons (me_bin od_mul (me_b (me_ix (me_bv 0) (me_b me_int))) (me_b (me_ix (me_bv 1) (me_b me_int)))) ma_nil)))))
abbrev s_equations : Stmt := topS 13
theorem sc_equations : FnScope ["one", "other", "exchange", "step", "own", "turns", "at"] ["one", "other", "exchange", "step"] (defScope s_equations) := ⟨rfl, rfl, rfl, by decide +kernel, rfl, by decide +kernel, by decide +kernel⟩
theorem ok_equations {f : Addr} {fd : FuncData} (F : FnP K "equations" s_equations f fd) (hg : mg "equations" = some (.ref f)) {f_part : Addr} {fd_part : FuncData} (F_part : FnM P w K mg base 2 "part" f_part fd_part ["top", "bottom"] false m_part) (z_zip : mg "zip" = none) : FnM P w K mg base 3 "equations" f fd ["one", "other", "exchange", "step"] false m_equations := by
  have nd := sc_equations.nd
  refine def_ok (k := 2) F sc_equations hg (F.bindsN (ps := ["one", "other", "exchange", "step"]) fun _ _ _ _ _ _ us hl => match us, hl with | [_, _, _, _], _ => rfl) (fun _ _ _ => rfl) (fun cdv A outer s H E hr => ?_)
  exact (mss_cons (ms_set (i := 4) nd rfl (by first | exact .inl rfl | exact .inr rfl) (me_call F_part (hr.mono (by decide)) (by rfl) (ma_cons (me_v 3) (ma_cons (me_ix (me_bv 0) (me_b me_int)) ma_nil)))) (mss_one (ms_ret (me_f (mf_comp (own := [("turns", 5), ("at", 6)]) (vs := [5, 6]) (p := (.tup [(.nm 5), (.nm 6)])) rfl nd (mi_zip (by rfl) z_zip (ma_cons (me_ix (me_bv 0) (me_b me_int)) (ma_cons (me_v 2) ma_nil))) (blkOk_by (N := ["one", "other", "exchange", "step", "own", "turns", "at"]) (sc := defScope s_equations) (by decide +kernel)) (fun _ _ _ _ _ => (mg_tup rfl (mgs_cons (mg_name (i := 5) nd rfl (by first | exact .inl rfl | exact .inr rfl)) (mgs_cons (mg_name (i := 6) nd rfl (by first | exact .inl rfl | exact .inr rfl)) mgs_nil)))) (fun _ _ _ _ _ => mts_nil) (fun _ _ _ _ _ => (me_tup (ma_cons (me_ix (me_b (me_ix (me_bv 1) (me_b me_int))) (me_bv 6)) (ma_cons (me_un ud_neg (me_bv 5)) (ma_cons (me_v 4) ma_nil))))))))))
abbrev s_law_sum : Stmt := topS 35
theorem sc_law_sum : FnScope ["_law_one", "_law_other"] ["_law_one", "_law_other"] (defScope s_law_sum) := ⟨rfl, rfl, rfl, by decide +kernel, rfl, by decide +kernel, by decide +kernel⟩
theorem ok_law_sum {f : Addr} {fd : FuncData} (F : FnP K "_law_sum" s_law_sum f fd) (hg : mg "_law_sum" = some (.ref f)) {f_law_part : Addr} {fd_law_part : FuncData} (F_law_part : FnM P w K mg base 2 "_law_part" f_law_part fd_law_part ["_law_top", "_law_bottom"] false m_law_part) : FnM P w K mg base 3 "_law_sum" f fd ["_law_one", "_law_other"] false m_law_sum := by
  have nd := sc_law_sum.nd
  refine def_ok (k := 2) F sc_law_sum hg (F.bindsN (ps := ["_law_one", "_law_other"]) fun _ _ _ _ _ _ us hl => match us, hl with | [_, _], _ => rfl) (fun _ _ _ => rfl) (fun cdv A outer s H E hr => ?_)
  exact (mss_one (ms_ret (me_call F_law_part (hr.mono (by decide)) (by rfl) (ma_cons (me_bin od_add (me_b (me_bin od_mul (me_b (me_ix (me_bv 0) (me_b me_int))) (me_b (me_ix (me_bv 1) (me_b me_int))))) (me_b (me_bin od_mul (me_b (me_ix (me_bv 1) (me_b me_int))) (me_b (me_ix (me_bv 0) (me_b me_int)))))) (ma_cons (me_bin od_mul (me_b (me_ix (me_bv 0) (me_b me_int))) (me_b (me_ix (me_bv 1) (me_b me_int)))) ma_nil)))))
abbrev s_row_of : Stmt := topS 6
theorem sc_row_of : FnScope ["many", "own"] ["many", "own"] (defScope s_row_of) := ⟨rfl, rfl, rfl, by decide +kernel, rfl, by decide +kernel, by decide +kernel⟩
theorem ok_row_of {f : Addr} {fd : FuncData} (F : FnP K "row_of" s_row_of f fd) (hg : mg "row_of" = some (.ref f)) {f_turned : Addr} {fd_turned : FuncData} (F_turned : FnM P w K mg base 3 "turned" f_turned fd_turned ["one", "many"] false m_turned) (c_ALL : KC K mg "ALL" k_ALL) : FnM P w K mg base 4 "row_of" f fd ["many", "own"] false m_row_of := by
  have nd := sc_row_of.nd
  refine def_ok (k := 3) F sc_row_of hg (F.bindsN (ps := ["many", "own"]) fun _ _ _ _ _ _ us hl => match us, hl with | [_, _], _ => rfl) (fun _ _ _ => rfl) (fun cdv A outer s H E hr => ?_)
  have hu := hu64 hr
  have hu5 := hu65 hr
  exact (mss_cons (ms_if (mt_cmp (od_eq hu) (me_bv 0) (me_b me_int) (nomark _)) (mss_one (ms_ret (me_if (mt_cmp (od_eq hu) (me_bv 1) (me_b (me_tup (ma_cons me_int (ma_cons me_int ma_nil)))) (nomark _)) (me_glob (by rfl) c_ALL.mg c_ALL.rv c_ALL.kd) me_non))) mss_nil) (mss_one (ms_ret (me_if (mt_cmp od_gt (me_bv 0) (me_b me_int) (nomark _)) (me_tup (ma_cons (me_v 0) (ma_cons (me_v 1) ma_nil))) (me_tup (ma_cons (me_un ud_neg (me_bv 0)) (ma_cons (me_call F_turned (hr.mono (by decide)) (by rfl) (ma_cons (me_v 1) (ma_cons (me_un ud_neg (me_b me_int)) ma_nil))) ma_nil)))))))
abbrev s_meet : Stmt := topS 8
theorem sc_meet : FnScope ["one", "other", "many", "first", "second", "own", "good"] ["one", "other"] (defScope s_meet) := ⟨rfl, rfl, rfl, by decide +kernel, rfl, by decide +kernel, by decide +kernel⟩
theorem ok_meet {f : Addr} {fd : FuncData} (F : FnP K "meet" s_meet f fd) (hg : mg "meet" = some (.ref f)) {f_divisor : Addr} {fd_divisor : FuncData} (F_divisor : FnM P w K mg base 1 "divisor" f_divisor fd_divisor ["one", "other"] false m_divisor) {f_factors : Addr} {fd_factors : FuncData} (F_factors : FnM P w K mg base 1 "factors" f_factors fd_factors ["one", "other"] false m_factors) {f_together : Addr} {fd_together : FuncData} (F_together : FnM P w K mg base 3 "together" f_together fd_together ["one", "other"] false m_together) {f_turned : Addr} {fd_turned : FuncData} (F_turned : FnM P w K mg base 3 "turned" f_turned fd_turned ["one", "many"] false m_turned) (c_ALL : KC K mg "ALL" k_ALL) : FnM P w K mg base 4 "meet" f fd ["one", "other"] false m_meet := by
  have nd := sc_meet.nd
  refine def_ok (k := 3) F sc_meet hg (F.bindsN (ps := ["one", "other"]) fun _ _ _ _ _ _ us hl => match us, hl with | [_, _], _ => rfl) (fun _ _ _ => rfl) (fun cdv A outer s H E hr => ?_)
  have hu := hu64 hr
  have hu5 := hu65 hr
  exact (mss_cons (ms_if (PW.pt (mw_or (mt_cmp od_isN (me_bv 0) (me_b me_non) (nomark _)) (mw_or1 (mt_cmp od_isN (me_bv 1) (me_b me_non) (nomark _))))) (mss_one (ms_ret me_non)) mss_nil) (mss_cons (ms_set (i := 2) nd rfl (by first | exact .inl rfl | exact .inr rfl) (me_call F_divisor (hr.mono (by decide)) (by rfl) (ma_cons (me_ix (me_bv 0) (me_b me_int)) (ma_cons (me_ix (me_bv 1) (me_b me_int)) ma_nil)))) (mss_cons (ms_if (mt_cmp (od_eq hu) (me_bv 2) (me_b me_int) (nomark _)) (mss_one (ms_ret (me_glob (by rfl) c_ALL.mg c_ALL.rv c_ALL.kd))) mss_nil) (mss_cons (ms_asg (p := (.tup [(.nm 3), (.nm 4)])) (me_call F_factors (hr.mono (by decide)) (by rfl) (ma_cons (me_ix (me_bv 0) (me_b me_int)) (ma_cons (me_ix (me_bv 1) (me_b me_int)) ma_nil))) (mg_tup rfl (mgs_cons (mg_name (i := 3) nd rfl (by first | exact .inl rfl | exact .inr rfl)) (mgs_cons (mg_name (i := 4) nd rfl (by first | exact .inl rfl | exact .inr rfl)) mgs_nil)))) (mss_cons (ms_set (i := 5) nd rfl (by first | exact .inl rfl | exact .inr rfl) (me_call F_together (hr.mono (by decide)) (by rfl) (ma_cons (me_call F_turned (hr.mono (by decide)) (by rfl) (ma_cons (me_ix (me_bv 0) (me_b me_int)) (ma_cons (me_v 3) ma_nil))) (ma_cons (me_call F_turned (hr.mono (by decide)) (by rfl) (ma_cons (me_ix (me_bv 1) (me_b me_int)) (ma_cons (me_v 4) ma_nil))) ma_nil)))) (mss_cons (ms_set (i := 6) nd rfl (by first | exact .inl rfl | exact .inr rfl) (me_and (me_cmp (od_eq hu) (me_b (me_call F_turned (hr.mono (by decide)) (by rfl) (ma_cons (me_v 5) (ma_cons (me_bin od_div (me_b (me_ix (me_bv 0) (me_b me_int))) (me_bv 2)) ma_nil)))) (me_b (me_ix (me_bv 0) (me_b me_int))) (nomark _)) (me_and1 (me_cmp (od_eq hu) (me_b (me_call F_turned (hr.mono (by decide)) (by rfl) (ma_cons (me_v 5) (ma_cons (me_bin od_div (me_b (me_ix (me_bv 1) (me_b me_int))) (me_bv 2)) ma_nil)))) (me_b (me_ix (me_bv 1) (me_b me_int))) (nomark _))))) (mss_one (ms_ret (me_if (mt_val (me_v 6)) (me_tup (ma_cons (me_v 2) (ma_cons (me_v 5) ma_nil))) me_non)))))))))
abbrev s_less : Stmt := topS 14
theorem sc_less : FnScope ["first", "second", "many"] ["first", "second", "many"] (defScope s_less) := ⟨rfl, rfl, rfl, by decide +kernel, rfl, by decide +kernel, by decide +kernel⟩
theorem ok_less {f : Addr} {fd : FuncData} (F : FnP K "less" s_less f fd) (hg : mg "less" = some (.ref f)) {f_together : Addr} {fd_together : FuncData} (F_together : FnM P w K mg base 3 "together" f_together fd_together ["one", "other"] false m_together) {f_turned : Addr} {fd_turned : FuncData} (F_turned : FnM P w K mg base 3 "turned" f_turned fd_turned ["one", "many"] false m_turned) : FnM P w K mg base 4 "less" f fd ["first", "second", "many"] false m_less := by
  have nd := sc_less.nd
  refine def_ok (k := 3) F sc_less hg (F.bindsN (ps := ["first", "second", "many"]) fun _ _ _ _ _ _ us hl => match us, hl with | [_, _, _], _ => rfl) (fun _ _ _ => rfl) (fun cdv A outer s H E hr => ?_)
  exact (mss_one (ms_ret (me_tup (ma_cons (me_bin od_sub (me_b (me_ix (me_bv 0) (me_b me_int))) (me_b (me_bin od_mul (me_bv 2) (me_b (me_ix (me_bv 1) (me_b me_int)))))) (ma_cons (me_bin od_sub (me_b (me_ix (me_bv 0) (me_b me_int))) (me_b (me_bin od_mul (me_bv 2) (me_b (me_ix (me_bv 1) (me_b me_int)))))) (ma_cons (me_call F_together (hr.mono (by decide)) (by rfl) (ma_cons (me_ix (me_bv 0) (me_b me_int)) (ma_cons (me_call F_turned (hr.mono (by decide)) (by rfl) (ma_cons (me_ix (me_bv 1) (me_b me_int)) (ma_cons (me_un ud_neg (me_bv 2)) ma_nil))) ma_nil))) ma_nil))))))
abbrev s_solved : Stmt := topS 15
theorem sc_solved : FnScope ["some", "main", "row", "equation", "rest"] ["some"] (defScope s_solved) := ⟨rfl, rfl, rfl, by decide +kernel, rfl, by decide +kernel, by decide +kernel⟩
theorem ok_solved {f : Addr} {fd : FuncData} (F : FnP K "solved" s_solved f fd) (hg : mg "solved" = some (.ref f)) {f_less : Addr} {fd_less : FuncData} (F_less : FnM P w K mg base 4 "less" f_less fd_less ["first", "second", "many"] false m_less) {f_meet : Addr} {fd_meet : FuncData} (F_meet : FnM P w K mg base 4 "meet" f_meet fd_meet ["one", "other"] false m_meet) {f_row_of : Addr} {fd_row_of : FuncData} (F_row_of : FnM P w K mg base 4 "row_of" f_row_of fd_row_of ["many", "own"] false m_row_of) {f_turned : Addr} {fd_turned : FuncData} (F_turned : FnM P w K mg base 3 "turned" f_turned fd_turned ["one", "many"] false m_turned) (c_ALL : KC K mg "ALL" k_ALL) : FnM P w K mg base 5 "solved" f fd ["some"] false m_solved := by
  have nd := sc_solved.nd
  refine def_ok (k := 4) F sc_solved hg (F.bindsN (ps := ["some"]) fun _ _ _ _ _ _ us hl => match us, hl with | [_], _ => rfl) (fun _ _ _ => rfl) (fun cdv A outer s H E hr => ?_)
  have hu := hu64 hr
  have hu5 := hu65 hr
  exact (mss_cons (ms_par (i := 1) (j := 2) rfl nd rfl rfl (by decide) rfl rfl (me_tup (ma_cons me_int (ma_cons me_int (ma_cons (me_tup (ma_cons me_int (ma_cons me_int ma_nil))) ma_nil)))) (me_glob (by rfl) c_ALL.mg c_ALL.rv c_ALL.kd) (by rfl)) (mss_cons (ms_for (p := (.nm 3)) PassesOwn.never rfl (mi_any (me_v 0)) (mg_name (i := 3) nd rfl (by first | exact .inl rfl | exact .inr rfl)) (mss_cons (ms_set (i := 4) nd rfl (by first | exact .inl rfl | exact .inr rfl) (me_v 3)) (mss_cons (ms_while PassesOwn.never (mt_cmp (od_ne hu) (me_b (me_ix (me_bv 4) (me_b me_int))) (me_b me_int) (nomark _)) (mss_one (ms_par (i := 1) (j := 4) rfl nd rfl rfl (by decide) rfl rfl (me_v 4) (me_call F_less (hr.mono (by decide)) (by rfl) (ma_cons (me_v 1) (ma_cons (me_v 4) (ma_cons (me_bin od_div (me_b (me_ix (me_bv 1) (me_b me_int))) (me_b (me_ix (me_bv 4) (me_b me_int)))) ma_nil)))) (by rfl)))) (mss_one (ms_set (i := 2) nd rfl (by first | exact .inl rfl | exact .inr rfl) (me_call F_meet (hr.mono (by decide)) (by rfl) (ma_cons (me_v 2) (ma_cons (me_call F_row_of (hr.mono (by decide)) (by rfl) (ma_cons (me_ix (me_bv 4) (me_b me_int)) (ma_cons (me_ix (me_bv 4) (me_b me_int)) ma_nil))) ma_nil)))))))) (mss_cons (ms_if (mt_cmp od_isN (me_bv 2) (me_b me_non) (nomark _)) (mss_one (ms_ret me_non)) mss_nil) (mss_cons (ms_if (mt_cmp od_lt (me_b (me_ix (me_bv 1) (me_b me_int))) (me_b me_int) (nomark _)) (mss_one (ms_set (i := 1) nd rfl (by first | exact .inl rfl | exact .inr rfl) (me_tup (ma_cons (me_un ud_neg (me_b (me_ix (me_bv 1) (me_b me_int)))) (ma_cons (me_un ud_neg (me_b (me_ix (me_bv 1) (me_b me_int)))) (ma_cons (me_call F_turned (hr.mono (by decide)) (by rfl) (ma_cons (me_ix (me_bv 1) (me_b me_int)) (ma_cons (me_un ud_neg (me_b me_int)) ma_nil))) ma_nil)))))) mss_nil) (mss_one (ms_ret (me_tup (ma_cons (me_v 2) (ma_cons (me_ix (me_bv 1) (me_b me_int)) (ma_cons (me_ix (me_bv 1) (me_b me_int)) ma_nil))))))))))
abbrev s_kept : Stmt := topS 17
theorem sc_kept : FnScope ["match"] ["match"] (defScope s_kept) := ⟨rfl, rfl, rfl, by decide +kernel, rfl, by decide +kernel, by decide +kernel⟩
theorem ok_kept {f : Addr} {fd : FuncData} (F : FnP K "kept" s_kept f fd) (hg : mg "kept" = some (.ref f)) {f_meet : Addr} {fd_meet : FuncData} (F_meet : FnM P w K mg base 4 "meet" f_meet fd_meet ["one", "other"] false m_meet) {f_row_of : Addr} {fd_row_of : FuncData} (F_row_of : FnM P w K mg base 4 "row_of" f_row_of fd_row_of ["many", "own"] false m_row_of) : FnM P w K mg base 5 "kept" f fd ["match"] false m_kept := by
  have nd := sc_kept.nd
  refine def_ok (k := 4) F sc_kept hg (F.bindsN (ps := ["match"]) fun _ _ _ _ _ _ us hl => match us, hl with | [_], _ => rfl) (fun _ _ _ => rfl) (fun cdv A outer s H E hr => ?_)
  exact (mss_one (ms_ret (me_call F_meet (hr.mono (by decide)) (by rfl) (ma_cons (me_ix (me_bv 0) (me_b me_int)) (ma_cons (me_call F_row_of (hr.mono (by decide)) (by rfl) (ma_cons (me_bin od_add (me_b me_int) (me_b (me_ix (me_bv 0) (me_b me_int)))) (ma_cons (me_ix (me_bv 0) (me_b me_int)) ma_nil))) ma_nil)))))
abbrev s_signed : Stmt := topS 19
theorem sc_signed : FnScope ["families", "found", "row", "less", "more", "own", "many", "other", "sign", "both"] ["families"] (defScope s_signed) := ⟨rfl, rfl, rfl, by decide +kernel, rfl, by decide +kernel, by decide +kernel⟩
theorem ok_signed {f : Addr} {fd : FuncData} (F : FnP K "signed" s_signed f fd) (hg : mg "signed" = some (.ref f)) {f_meet : Addr} {fd_meet : FuncData} (F_meet : FnM P w K mg base 4 "meet" f_meet fd_meet ["one", "other"] false m_meet) (c_ALL : KC K mg "ALL" k_ALL) (z_dict : mg "dict" = none) : FnM P w K mg base 5 "signed" f fd ["families"] false m_signed := by
  have nd := sc_signed.nd
  refine def_ok (k := 4) F sc_signed hg (F.bindsN (ps := ["families"]) fun _ _ _ _ _ _ us hl => match us, hl with | [_], _ => rfl) (fun _ _ _ => rfl) (fun cdv A outer s H E hr => ?_)
  have hu := hu64 hr
  have hu5 := hu65 hr
  exact (mss_cons (ms_set (i := 1) nd rfl (by first | exact .inl rfl | exact .inr rfl) (me_f (mf_disp (hu64 hr) (me_glob (by rfl) c_ALL.mg c_ALL.rv c_ALL.kd) me_int))) (mss_cons (ms_for (p := (.tup [(.nm 2), (.nm 3)])) PassesOwn.never rfl (mi_any (me_v 0)) (mg_tup rfl (mgs_cons (mg_name (i := 2) nd rfl (by first | exact .inl rfl | exact .inr rfl)) (mgs_cons (mg_name (i := 3) nd rfl (by first | exact .inl rfl | exact .inr rfl)) mgs_nil))) (mss_cons (ms_setO (i := 4) nd rfl (by first | exact .inl rfl | exact .inr rfl) (mf_dcopy (hu64 hr) (by rfl) z_dict boot_dict (me_bv 1))) (mss_cons (ms_for (p := (.tup [(.nm 5), (.nm 6)])) PassesOwn.never rfl (mi_items (me_v 1)) (mg_tup rfl (mgs_cons (mg_name (i := 5) nd rfl (by first | exact .inl rfl | exact .inr rfl)) (mgs_cons (mg_name (i := 6) nd rfl (by first | exact .inl rfl | exact .inr rfl)) mgs_nil))) (mss_one (ms_for (p := (.tup [(.nm 7), (.nm 8)])) PassesOwn.never rfl (mi_any (me_tup (ma_cons (me_tup (ma_cons (me_v 2) (ma_cons (me_un ud_neg (me_b me_int)) ma_nil))) (ma_cons (me_tup (ma_cons (me_v 3) (ma_cons me_int ma_nil))) ma_nil)))) (mg_tup rfl (mgs_cons (mg_name (i := 7) nd rfl (by first | exact .inl rfl | exact .inr rfl)) (mgs_cons (mg_name (i := 8) nd rfl (by first | exact .inl rfl | exact .inr rfl)) mgs_nil))) (mss_cons (ms_set (i := 9) nd rfl (by first | exact .inl rfl | exact .inr rfl) (me_call F_meet (hr.mono (by decide)) (by rfl) (ma_cons (me_v 5) (ma_cons (me_v 7) ma_nil)))) (mss_one (ms_if (mt_cmp od_notN (me_bv 9) (me_b me_non) (nomark _)) (mss_one (ms_dput 4 (hu64 hr) (pv 4) (me_v 9) (me_bin od_add (me_b (me_dget2 (hu64 hr) (me_bv 4) (me_v 9) me_int)) (me_b (me_bin od_mul (me_bv 8) (me_bv 6)))))) mss_nil)))))) (mss_frz 4 (mss_one (ms_setDx (i := 1) (own := [("own", 5), ("many", 6)]) (vs := [5, 6]) (p := (.tup [(.nm 5), (.nm 6)])) (hu64 hr) rfl nd rfl rfl (swD_true rfl rfl rfl (by decide +kernel)) (mi_items (me_v 4)) (blkOk_by (N := ["families", "found", "row", "less", "more", "own", "many", "other", "sign", "both"]) (sc := defScope s_signed) (by decide +kernel)) (fun _ _ _ _ _ => (mg_tup rfl (mgs_cons (mg_name (i := 5) nd rfl (by first | exact .inl rfl | exact .inr rfl)) (mgs_cons (mg_name (i := 6) nd rfl (by first | exact .inl rfl | exact .inr rfl)) mgs_nil)))) (fun _ _ _ _ _ => (mts_one (mt_cmp (od_ne hu) (me_bv 6) (me_b me_int) (nomark _)))) (fun _ _ _ _ _ => (me_v 5)) (fun _ _ _ _ _ => (me_v 6)))))))) (mss_one (ms_ret (me_v 1)))))
abbrev s_matches : Stmt := topS 16
theorem sc_matches : FnScope ["one", "other", "found", "exchange", "step", "match"] ["one", "other"] (defScope s_matches) := ⟨rfl, rfl, rfl, by decide +kernel, rfl, by decide +kernel, by decide +kernel⟩
theorem ok_matches {f : Addr} {fd : FuncData} (F : FnP K "matches" s_matches f fd) (hg : mg "matches" = some (.ref f)) {f_equations : Addr} {fd_equations : FuncData} (F_equations : FnM P w K mg base 3 "equations" f_equations fd_equations ["one", "other", "exchange", "step"] false m_equations) {f_exchanges : Addr} {fd_exchanges : FuncData} (F_exchanges : FnM P w K mg base 1 "exchanges" f_exchanges fd_exchanges ["first", "second"] false m_exchanges) {f_solved : Addr} {fd_solved : FuncData} (F_solved : FnM P w K mg base 5 "solved" f_solved fd_solved ["some"] false m_solved) (z_range : mg "range" = none) : FnM P w K mg base 6 "matches" f fd ["one", "other"] false m_matches := by
  have nd := sc_matches.nd
  refine def_ok (k := 5) F sc_matches hg (F.bindsN (ps := ["one", "other"]) fun _ _ _ _ _ _ us hl => match us, hl with | [_, _], _ => rfl) (fun _ _ _ => rfl) (fun cdv A outer s H E hr => ?_)
  exact (mss_cons (ms_set (i := 2) nd rfl (by first | exact .inl rfl | exact .inr rfl) (me_f (mf_lst ma_nil))) (mss_cons (ms_for (p := (.nm 3)) PassesOwn.never rfl (mi_any (me_call F_exchanges (hr.mono (by decide)) (by rfl) (ma_cons (me_ix (me_bv 0) (me_b me_int)) (ma_cons (me_ix (me_bv 1) (me_b me_int)) ma_nil)))) (mg_name (i := 3) nd rfl (by first | exact .inl rfl | exact .inr rfl)) (mss_one (ms_for (p := (.nm 4)) PassesOwn.never rfl (mi_range1 (by rfl) z_range (ma_cons (me_ix (me_bv 0) (me_b me_int)) ma_nil)) (mg_name (i := 4) nd rfl (by first | exact .inl rfl | exact .inr rfl)) (mss_cons (ms_set (i := 5) nd rfl (by first | exact .inl rfl | exact .inr rfl) (me_call F_solved (hr.mono (by decide)) (by rfl) (ma_cons (me_call F_equations (hr.mono (by decide)) (by rfl) (ma_cons (me_v 0) (ma_cons (me_v 1) (ma_cons (me_v 3) (ma_cons (me_v 4) ma_nil))))) ma_nil))) (mss_one (ms_set (i := 2) nd rfl (by first | exact .inl rfl | exact .inr rfl) (me_if (mt_cmp od_isN (me_bv 5) (me_b me_non) (nomark _)) (me_v 2) (me_f (mf_lst (ma_star (me_bv 2) (ma_cons (me_v 5) ma_nil))))))))))) (mss_one (ms_ret (me_v 2)))))
abbrev s_rows_of : Stmt := topS 21
theorem sc_rows_of : FnScope ["families", "row", "many"] ["families"] (defScope s_rows_of) := ⟨rfl, rfl, rfl, by decide +kernel, rfl, by decide +kernel, by decide +kernel⟩
theorem ok_rows_of {f : Addr} {fd : FuncData} (F : FnP K "rows_of" s_rows_of f fd) (hg : mg "rows_of" = some (.ref f)) {f_signed : Addr} {fd_signed : FuncData} (F_signed : FnM P w K mg base 5 "signed" f_signed fd_signed ["families"] false m_signed) (c_ALL : KC K mg "ALL" k_ALL) : FnM P w K mg base 6 "rows_of" f fd ["families"] false m_rows_of := by
  have nd := sc_rows_of.nd
  refine def_ok (k := 5) F sc_rows_of hg (F.bindsN (ps := ["families"]) fun _ _ _ _ _ _ us hl => match us, hl with | [_], _ => rfl) (fun _ _ _ => rfl) (fun cdv A outer s H E hr => ?_)
  have hu := hu64 hr
  have hu5 := hu65 hr
  exact (mss_one (ms_ret (me_f (mf_comp (own := [("row", 1), ("many", 2)]) (vs := [1, 2]) (p := (.tup [(.nm 1), (.nm 2)])) rfl nd (mi_items (me_call F_signed (hr.mono (by decide)) (by rfl) (ma_cons (me_v 0) ma_nil))) (blkOk_by (N := ["families", "row", "many"]) (sc := defScope s_rows_of) (by decide +kernel)) (fun _ _ _ _ _ => (mg_tup rfl (mgs_cons (mg_name (i := 1) nd rfl (by first | exact .inl rfl | exact .inr rfl)) (mgs_cons (mg_name (i := 2) nd rfl (by first | exact .inl rfl | exact .inr rfl)) mgs_nil)))) (fun _ _ _ _ _ => (mts_one (mt_cmp (od_ne hu) (me_bv 1) (me_b (me_glob (by rfl) c_ALL.mg c_ALL.rv c_ALL.kd)) (nomark _)))) (fun _ _ _ _ _ => (me_tup (ma_cons (me_v 1) (ma_cons (me_un ud_neg (me_bv 2)) ma_nil))))))))
abbrev s_count_all : Stmt := topS 22
theorem sc_count_all : FnScope ["families", "row", "many"] ["families"] (defScope s_count_all) := ⟨rfl, rfl, rfl, by decide +kernel, rfl, by decide +kernel, by decide +kernel⟩
theorem ok_count_all {f : Addr} {fd : FuncData} (F : FnP K "count_all" s_count_all f fd) (hg : mg "count_all" = some (.ref f)) {f_is_endless : Addr} {fd_is_endless : FuncData} (F_is_endless : FnM P w K mg base 1 "is_endless" f_is_endless fd_is_endless ["families"] false m_is_endless) {f_rows_of : Addr} {fd_rows_of : FuncData} (F_rows_of : FnM P w K mg base 6 "rows_of" f_rows_of fd_rows_of ["families"] false m_rows_of) (z_sum : mg "sum" = none) : FnM P w K mg base 7 "count_all" f fd ["families"] false m_count_all := by
  have nd := sc_count_all.nd
  refine def_ok (k := 6) F sc_count_all hg (F.bindsN (ps := ["families"]) fun _ _ _ _ _ _ us hl => match us, hl with | [_], _ => rfl) (fun _ _ _ => rfl) (fun cdv A outer s H E hr => ?_)
  exact (mss_cons (ms_if (mt_val (me_call F_is_endless (hr.mono (by decide)) (by rfl) (ma_cons (me_v 0) ma_nil))) (mss_one (ms_ret me_non)) mss_nil) (mss_one (ms_ret (me_b1 (cd_sum rfl) (by rfl) z_sum boot_sum (me_b (me_f (mf_comp (own := [("row", 1), ("many", 2)]) (vs := [1, 2]) (p := (.tup [(.nm 1), (.nm 2)])) rfl nd (mi_any (me_call F_rows_of (hr.mono (by decide)) (by rfl) (ma_cons (me_v 0) ma_nil))) (blkOk_by (N := ["families", "row", "many"]) (sc := defScope s_count_all) (by decide +kernel)) (fun _ _ _ _ _ => (mg_tup rfl (mgs_cons (mg_name (i := 1) nd rfl (by first | exact .inl rfl | exact .inr rfl)) (mgs_cons (mg_name (i := 2) nd rfl (by first | exact .inl rfl | exact .inr rfl)) mgs_nil)))) (fun _ _ _ _ _ => mts_nil) (fun _ _ _ _ _ => (me_bin od_mul (me_b (me_ix (me_bv 1) (me_b me_int))) (me_bv 2))))))))))
abbrev s_time_at : Stmt := topS 24
theorem sc_time_at : FnScope ["families", "index", "rows", "bottom", "many", "top", "own", "sign", "low", "high", "middle", "row"] ["families", "index"] (defScope s_time_at) := ⟨rfl, rfl, rfl, by decide +kernel, rfl, by decide +kernel, by decide +kernel⟩
theorem ok_time_at {f : Addr} {fd : FuncData} (F : FnP K "time_at" s_time_at f fd) (hg : mg "time_at" = some (.ref f)) {f_count_until : Addr} {fd_count_until : FuncData} (F_count_until : FnM P w K mg base 2 "count_until" f_count_until fd_count_until ["rows", "time", "after"] false m_count_until) {f_divisor : Addr} {fd_divisor : FuncData} (F_divisor : FnM P w K mg base 1 "divisor" f_divisor fd_divisor ["one", "other"] false m_divisor) {f_part : Addr} {fd_part : FuncData} (F_part : FnM P w K mg base 2 "part" f_part fd_part ["top", "bottom"] false m_part) {f_rows_of : Addr} {fd_rows_of : FuncData} (F_rows_of : FnM P w K mg base 6 "rows_of" f_rows_of fd_rows_of ["families"] false m_rows_of) (z_sum : mg "sum" = none) : FnM P w K mg base 7 "time_at" f fd ["families", "index"] false m_time_at := by
  have nd := sc_time_at.nd
  refine def_ok (k := 6) F sc_time_at hg (F.bindsN (ps := ["families", "index"]) fun _ _ _ _ _ _ us hl => match us, hl with | [_, _], _ => rfl) (fun _ _ _ => rfl) (fun cdv A outer s H E hr => ?_)
  exact (mss_cons (ms_set (i := 2) nd rfl (by first | exact .inl rfl | exact .inr rfl) (me_call F_rows_of (hr.mono (by decide)) (by rfl) (ma_cons (me_v 0) ma_nil))) (mss_cons (ms_if (mt_cmp od_ge (me_bv 1) (me_b (me_b1 (cd_sum rfl) (by rfl) z_sum boot_sum (me_b (me_f (mf_comp (own := [("row", 11), ("many", 4)]) (vs := [11, 4]) (p := (.tup [(.nm 11), (.nm 4)])) rfl nd (mi_any (me_v 2)) (blkOk_by (N := ["families", "index", "rows", "bottom", "many", "top", "own", "sign", "low", "high", "middle", "row"]) (sc := defScope s_time_at) (by decide +kernel)) (fun _ _ _ _ _ => (mg_tup rfl (mgs_cons (mg_name (i := 11) nd rfl (by first | exact .inl rfl | exact .inr rfl)) (mgs_cons (mg_name (i := 4) nd rfl (by first | exact .inl rfl | exact .inr rfl)) mgs_nil)))) (fun _ _ _ _ _ => mts_nil) (fun _ _ _ _ _ => (me_bin od_mul (me_b (me_ix (me_bv 11) (me_b me_int))) (me_bv 4)))))))) (nomark _)) (mss_one (ms_ret me_non)) mss_nil) (mss_cons (ms_set (i := 3) nd rfl (by first | exact .inl rfl | exact .inr rfl) me_int) (mss_cons (ms_for (p := (.tup [(.tup [(.nm 4), (.tup [(.nm 5), (.nm 6)])]), (.nm 7)])) PassesOwn.never rfl (mi_any (me_v 2)) (mg_tup rfl (mgs_cons (mg_tup rfl (mgs_cons (mg_name (i := 4) nd rfl (by first | exact .inl rfl | exact .inr rfl)) (mgs_cons (mg_tup rfl (mgs_cons (mg_name (i := 5) nd rfl (by first | exact .inl rfl | exact .inr rfl)) (mgs_cons (mg_name (i := 6) nd rfl (by first | exact .inl rfl | exact .inr rfl)) mgs_nil))) mgs_nil))) (mgs_cons (mg_name (i := 7) nd rfl (by first | exact .inl rfl | exact .inr rfl)) mgs_nil))) (mss_one (ms_set (i := 3) nd rfl (by first | exact .inl rfl | exact .inr rfl) (me_bin od_mul (me_b (me_bin od_mul (me_b (me_bin od_div (me_bv 3) (me_b (me_call F_divisor (hr.mono (by decide)) (by rfl) (ma_cons (me_v 3) (ma_cons (me_bin od_mul (me_bv 4) (me_bv 6)) ma_nil)))))) (me_bv 4))) (me_bv 6))))) (mss_cons (ms_par (i := 8) (j := 9) rfl nd rfl rfl (by decide) rfl rfl me_int (me_bin od_sub (me_bv 3) (me_b me_int)) (by rfl)) (mss_cons (ms_while PassesOwn.never (mt_cmp od_lt (me_bv 8) (me_bv 9) (nomark _)) (mss_cons (ms_set (i := 10) nd rfl (by first | exact .inl rfl | exact .inr rfl) (me_bin od_div (me_b (me_bin od_add (me_bv 8) (me_bv 9))) (me_b me_int))) (mss_one (ms_if (mt_cmp od_gt (me_b (me_call F_count_until (hr.mono (by decide)) (by rfl) (ma_cons (me_v 2) (ma_cons (me_tup (ma_cons (me_v 10) (ma_cons (me_v 3) ma_nil))) (ma_cons me_bl ma_nil))))) (me_bv 1) (nomark _)) (mss_one (ms_set (i := 9) nd rfl (by first | exact .inl rfl | exact .inr rfl) (me_v 10))) (mss_one (ms_set (i := 8) nd rfl (by first | exact .inl rfl | exact .inr rfl) (me_bin od_add (me_bv 10) (me_b me_int)))))))) (mss_one (ms_ret (me_call F_part (hr.mono (by decide)) (by rfl) (ma_cons (me_v 8) (ma_cons (me_v 3) ma_nil)))))))))))
abbrev s_families : Stmt := topS 26
theorem sc_families : FnScope ["clock", "found", "match", "own"] ["clock"] (defScope s_families) := ⟨rfl, rfl, rfl, by decide +kernel, rfl, by decide +kernel, by decide +kernel⟩
theorem ok_families {f : Addr} {fd : FuncData} (F : FnP K "families" s_families f fd) (hg : mg "families" = some (.ref f)) {f_kept : Addr} {fd_kept : FuncData} (F_kept : FnM P w K mg base 5 "kept" f_kept fd_kept ["match"] false m_kept) {f_matches : Addr} {fd_matches : FuncData} (F_matches : FnM P w K mg base 6 "matches" f_matches fd_matches ["one", "other"] false m_matches) (z_list : mg "list" = none) : FnM P w K mg base 7 "families" f fd ["clock"] false m_families := by
  have nd := sc_families.nd
  refine def_ok (k := 6) F sc_families hg (F.bindsN (ps := ["clock"]) fun _ _ _ _ _ _ us hl => match us, hl with | [_], _ => rfl) (fun _ _ _ => rfl) (fun cdv A outer s H E hr => ?_)
  have hu := hu64 hr
  have hu5 := hu65 hr
  exact (mss_cons (ms_setO (i := 1) nd rfl (by first | exact .inl rfl | exact .inr rfl) mf_dct0) (mss_cons (ms_for (p := (.nm 2)) PassesOwn.never rfl (mi_any (me_call F_matches (hr.mono (by decide)) (by rfl) (ma_cons (me_v 0) (ma_cons (me_v 0) ma_nil)))) (mg_name (i := 2) nd rfl (by first | exact .inl rfl | exact .inr rfl)) (mss_cons (ms_set (i := 3) nd rfl (by first | exact .inl rfl | exact .inr rfl) (me_call F_kept (hr.mono (by decide)) (by rfl) (ma_cons (me_v 2) ma_nil))) (mss_one (ms_if (mt_cmp (od_ne hu) (me_bv 3) (me_b (me_ix (me_bv 2) (me_b me_int))) (nomark _)) (mss_one (ms_dput 1 (hu64 hr) (pv 1) (me_tup (ma_cons (me_ix (me_bv 2) (me_b me_int)) (ma_cons (me_v 3) ma_nil))) me_bl)) mss_nil)))) (mss_one (ms_ret (me_f (mf_t1 (cd_listK rfl) (by rfl) z_list boot_list (me_bv 1)))))))
abbrev s_is_clear : Stmt := topS 27
theorem sc_is_clear : FnScope ["clock"] ["clock"] (defScope s_is_clear) := ⟨rfl, rfl, rfl, by decide +kernel, rfl, by decide +kernel, by decide +kernel⟩
theorem ok_is_clear {f : Addr} {fd : FuncData} (F : FnP K "is_clear" s_is_clear f fd) (hg : mg "is_clear" = some (.ref f)) {f_families : Addr} {fd_families : FuncData} (F_families : FnM P w K mg base 7 "families" f_families fd_families ["clock"] false m_families) : FnM P w K mg base 8 "is_clear" f fd ["clock"] false m_is_clear := by
  have nd := sc_is_clear.nd
  refine def_ok (k := 7) F sc_is_clear hg (F.bindsN (ps := ["clock"]) fun _ _ _ _ _ _ us hl => match us, hl with | [_], _ => rfl) (fun _ _ _ => rfl) (fun cdv A outer s H E hr => ?_)
  have hu := hu64 hr
  have hu5 := hu65 hr
  exact (mss_one (ms_ret (me_cmp (od_eq hu) (me_b (me_call F_families (hr.mono (by decide)) (by rfl) (ma_cons (me_v 0) ma_nil))) (me_b (me_f (mf_lst ma_nil))) (nomark _))))
abbrev s_count_unclear : Stmt := topS 28
theorem sc_count_unclear : FnScope ["clock"] ["clock"] (defScope s_count_unclear) := ⟨rfl, rfl, rfl, by decide +kernel, rfl, by decide +kernel, by decide +kernel⟩
theorem ok_count_unclear {f : Addr} {fd : FuncData} (F : FnP K "count_unclear" s_count_unclear f fd) (hg : mg "count_unclear" = some (.ref f)) {f_count_all : Addr} {fd_count_all : FuncData} (F_count_all : FnM P w K mg base 7 "count_all" f_count_all fd_count_all ["families"] false m_count_all) {f_families : Addr} {fd_families : FuncData} (F_families : FnM P w K mg base 7 "families" f_families fd_families ["clock"] false m_families) : FnM P w K mg base 8 "count_unclear" f fd ["clock"] false m_count_unclear := by
  have nd := sc_count_unclear.nd
  refine def_ok (k := 7) F sc_count_unclear hg (F.bindsN (ps := ["clock"]) fun _ _ _ _ _ _ us hl => match us, hl with | [_], _ => rfl) (fun _ _ _ => rfl) (fun cdv A outer s H E hr => ?_)
  exact (mss_one (ms_ret (me_call F_count_all (hr.mono (by decide)) (by rfl) (ma_cons (me_call F_families (hr.mono (by decide)) (by rfl) (ma_cons (me_v 0) ma_nil)) ma_nil))))
abbrev s_unclear_at : Stmt := topS 29
theorem sc_unclear_at : FnScope ["clock", "index", "some"] ["clock", "index"] (defScope s_unclear_at) := ⟨rfl, rfl, rfl, by decide +kernel, rfl, by decide +kernel, by decide +kernel⟩
theorem ok_unclear_at {f : Addr} {fd : FuncData} (F : FnP K "unclear_at" s_unclear_at f fd) (hg : mg "unclear_at" = some (.ref f)) {f_families : Addr} {fd_families : FuncData} (F_families : FnM P w K mg base 7 "families" f_families fd_families ["clock"] false m_families) {f_is_endless : Addr} {fd_is_endless : FuncData} (F_is_endless : FnM P w K mg base 1 "is_endless" f_is_endless fd_is_endless ["families"] false m_is_endless) {f_time_at : Addr} {fd_time_at : FuncData} (F_time_at : FnM P w K mg base 7 "time_at" f_time_at fd_time_at ["families", "index"] false m_time_at) : FnM P w K mg base 8 "unclear_at" f fd ["clock", "index"] false m_unclear_at := by
  have nd := sc_unclear_at.nd
  refine def_ok (k := 7) F sc_unclear_at hg (F.bindsN (ps := ["clock", "index"]) fun _ _ _ _ _ _ us hl => match us, hl with | [_, _], _ => rfl) (fun _ _ _ => rfl) (fun cdv A outer s H E hr => ?_)
  exact (mss_cons (ms_set (i := 2) nd rfl (by first | exact .inl rfl | exact .inr rfl) (me_call F_families (hr.mono (by decide)) (by rfl) (ma_cons (me_v 0) ma_nil))) (mss_one (ms_ret (me_if (mt_val (me_call F_is_endless (hr.mono (by decide)) (by rfl) (ma_cons (me_v 2) ma_nil))) me_non (me_call F_time_at (hr.mono (by decide)) (by rfl) (ma_cons (me_v 2) (ma_cons (me_v 1) ma_nil)))))))
abbrev s_law_like : Stmt := topS 32
theorem sc_law_like : FnScope ["_law_one", "_law_two", "_law_k"] ["_law_one", "_law_two"] (defScope s_law_like) := ⟨rfl, rfl, rfl, by decide +kernel, rfl, by decide +kernel, by decide +kernel⟩
theorem ok_law_like {f : Addr} {fd : FuncData} (F : FnP K "_law_like" s_law_like f fd) (hg : mg "_law_like" = some (.ref f)) (z_bool : mg "bool" = none) (z_isinstance : mg "isinstance" = none) (z_len : mg "len" = none) (z_list : mg "list" = none) (z_range : mg "range" = none) (z_tuple : mg "tuple" = none) : ∀ n : Nat, FnM P w K mg base (n + 0) "_law_like" f fd ["_law_one", "_law_two"] false (m_law_like n)
  | 0 => fnM_none hg F.kp (F.bindsN (ps := ["_law_one", "_law_two"]) fun _ _ _ _ _ _ us hl => match us, hl with | [_, _], _ => rfl)
  | n + 1 => by
    have IH := ok_law_like F hg z_bool z_isinstance z_len z_list z_range z_tuple n
    have nd := sc_law_like.nd
    refine def_ok (k := n + 0) F sc_law_like hg (F.bindsN (ps := ["_law_one", "_law_two"]) fun _ _ _ _ _ _ us hl => match us, hl with | [_, _], _ => rfl) (fun _ _ _ => rfl) (fun cdv A outer s H E hr => ?_)
    have hu := hu64 hr
    have hu5 := hu65 hr
    exact (mss_cons (ms_if (mt_val (me_isi2 (.inl ⟨rfl, rfl⟩) (by rfl) z_isinstance (by rfl) z_list boot_list (by rfl) z_tuple boot_tuple (me_bv 0))) (mss_cons (ms_if (PW.pt (mw_or (mt_cmp (od_ne hu) (me_b (me_isi ans_lst (by rfl) z_isinstance (by rfl) z_list boot_list (me_bv 0))) (me_b (me_isi ans_lst (by rfl) z_isinstance (by rfl) z_list boot_list (me_bv 1))) (nomark _)) (mw_or1 (mt_cmp (od_ne hu) (me_b (me_isi ans_tup (by rfl) z_isinstance (by rfl) z_tuple boot_tuple (me_bv 0))) (me_b (me_isi ans_tup (by rfl) z_isinstance (by rfl) z_tuple boot_tuple (me_bv 1))) (nomark _))))) (mss_one (ms_ret me_bl)) mss_nil) (mss_cons (ms_if (mt_cmp (od_ne hu) (me_b (me_b1 cd_len (by rfl) z_len boot_len (me_bv 0))) (me_b (me_b1 cd_len (by rfl) z_len boot_len (me_bv 1))) (nomark _)) (mss_one (ms_ret me_bl)) mss_nil) (mss_one (ms_ret (me_cmp (od_eq hu) (me_b (me_f (mf_comp (own := [("_law_k", 2)]) (vs := [2]) (p := (.nm 2)) rfl nd (mi_range1 (by rfl) z_range (ma_cons (me_b1 cd_len (by rfl) z_len boot_len (me_bv 0)) ma_nil)) (blkOk_by (N := ["_law_one", "_law_two", "_law_k"]) (sc := defScope s_law_like) (by decide +kernel)) (fun _ _ _ _ _ => (mg_name (i := 2) nd rfl (by first | exact .inl rfl | exact .inr rfl))) (fun _ _ _ _ _ => (mts_one (mt_not (mt_val (me_call IH hr (by rfl) (ma_cons (me_ix (me_bv 0) (me_bv 2)) (ma_cons (me_ix (me_bv 1) (me_bv 2)) ma_nil))))))) (fun _ _ _ _ _ => (me_v 2))))) (me_b (me_f (mf_lst ma_nil))) (nomark _)))))) mss_nil) (mss_cons (ms_if (mt_val (me_isi2 (.inl ⟨rfl, rfl⟩) (by rfl) z_isinstance (by rfl) z_list boot_list (by rfl) z_tuple boot_tuple (me_bv 1))) (mss_one (ms_ret me_bl)) mss_nil) (mss_one (ms_ret (me_and (me_cmp (od_eq hu) (me_b (me_isi ans_bool (by rfl) z_isinstance (by rfl) z_bool boot_bool (me_bv 0))) (me_b (me_isi ans_bool (by rfl) z_isinstance (by rfl) z_bool boot_bool (me_bv 1))) (nomark _)) (me_and1 (me_cmp (od_eq hu) (me_bv 0) (me_bv 1) (nomark _))))))))
abbrev s_law : Stmt := topS 36
theorem sc_law : FnScope ["_law_script", "_law_tape", "_law_turn", "_law_most", "_law_one", "_law_other", "_law_my_divisor", "_law_clock", "_law_due", "_law_time", "_law_last"] ["_law_script"] (defScope s_law) := ⟨rfl, rfl, rfl, by decide +kernel, rfl, by decide +kernel, by decide +kernel⟩
theorem ok_law {f : Addr} {fd : FuncData} (F : FnP K "law" s_law f fd) (hg : mg "law" = some (.ref f)) {f_law_draw : Addr} {fd_law_draw : FuncData} (F_law_draw : FnM P w K mg base 1 "_law_draw" f_law_draw fd_law_draw ["_law_tape", "_law_many"] false m_law_draw) {f_law_gcd : Addr} {fd_law_gcd : FuncData} (F_law_gcd : FnM P w K mg base 1 "_law_gcd" f_law_gcd fd_law_gcd ["_law_one", "_law_other"] false m_law_gcd) {f_law_like : Addr} {fd_law_like : FuncData} (F_law_like : FnM P w K mg base 8 "_law_like" f_law_like fd_law_like ["_law_one", "_law_two"] false (m_law_like 8)) {f_law_sum : Addr} {fd_law_sum : FuncData} (F_law_sum : FnM P w K mg base 3 "_law_sum" f_law_sum fd_law_sum ["_law_one", "_law_other"] false m_law_sum) {f_count_unclear : Addr} {fd_count_unclear : FuncData} (F_count_unclear : FnM P w K mg base 8 "count_unclear" f_count_unclear fd_count_unclear ["clock"] false m_count_unclear) {f_is_clear : Addr} {fd_is_clear : FuncData} (F_is_clear : FnM P w K mg base 8 "is_clear" f_is_clear fd_is_clear ["clock"] false m_is_clear) {f_unclear_at : Addr} {fd_unclear_at : FuncData} (F_unclear_at : FnM P w K mg base 8 "unclear_at" f_unclear_at fd_unclear_at ["clock", "index"] false m_unclear_at) (z_abs : mg "abs" = none) (z_list : mg "list" = none) (z_range : mg "range" = none) : FnM P w K mg base 9 "law" f fd ["_law_script"] false m_law := by
  have nd := sc_law.nd
  refine def_ok (k := 8) F sc_law hg (F.bindsN (ps := ["_law_script"]) fun _ _ _ _ _ _ us hl => match us, hl with | [_], _ => rfl) (fun _ _ _ => rfl) (fun cdv A outer s H E hr => ?_)
  have hu := hu64 hr
  have hu5 := hu65 hr
  exact (mss_cell (i := 1) nd rfl (by first | exact .inl rfl | exact .inr rfl) (mf_lst (ma_cons (me_f (mf_t1 cd_list (by rfl) z_list boot_list (me_bv 0))) (ma_cons me_int (ma_cons me_int ma_nil)))) (mss_cons (ms_for (p := (.nm 2)) PassesOwn.never rfl (mi_range1 (by rfl) z_range (ma_cons me_int ma_nil)) (mg_name (i := 2) nd rfl (by first | exact .inl rfl | exact .inr rfl)) (mss_cons (ms_set (i := 3) nd rfl (by first | exact .inl rfl | exact .inr rfl) (me_ix (me_b (me_f (mf_lst (ma_cons me_int (ma_cons (me_bin od_pow (me_b me_int) (me_b me_int)) (ma_cons (me_bin od_pow (me_b me_int) (me_b me_int)) ma_nil)))))) (me_b (me_call F_law_draw (hr.mono (by decide)) (by rfl) (ma_cons (me_v 1) (ma_cons me_int ma_nil)))))) (mss_cons (ms_par (i := 4) (j := 5) rfl nd rfl rfl (by decide) rfl rfl (me_bin od_add (me_b me_int) (me_b (me_call F_law_draw (hr.mono (by decide)) (by rfl) (ma_cons (me_v 1) (ma_cons (me_v 3) ma_nil))))) (me_bin od_add (me_b me_int) (me_b (me_call F_law_draw (hr.mono (by decide)) (by rfl) (ma_cons (me_v 1) (ma_cons (me_v 3) ma_nil))))) (by rfl)) (mss_cons (ms_set (i := 6) nd rfl (by first | exact .inl rfl | exact .inr rfl) (me_call F_law_gcd (hr.mono (by decide)) (by rfl) (ma_cons (me_v 4) (ma_cons (me_v 5) ma_nil)))) (mss_cons (ms_par (i := 4) (j := 5) rfl nd rfl rfl (by decide) rfl rfl (me_bin od_div (me_bv 4) (me_bv 6)) (me_bin od_mul (me_b (me_bin od_div (me_bv 5) (me_bv 6))) (me_b (me_ix (me_b (me_f (mf_lst (ma_cons me_int (ma_cons me_int (ma_cons (me_un ud_neg (me_b me_int)) ma_nil)))))) (me_b (me_call F_law_draw (hr.mono (by decide)) (by rfl) (ma_cons (me_v 1) (ma_cons me_int ma_nil))))))) (by rfl)) (mss_cons (ms_set (i := 7) nd rfl (by first | exact .inl rfl | exact .inr rfl) (me_tup (ma_cons (me_tup (ma_cons (me_v 4) (ma_cons (me_v 5) ma_nil))) (ma_cons me_str (ma_cons me_int ma_nil))))) (mss_cons (ms_set (i := 8) nd rfl (by first | exact .inl rfl | exact .inr rfl) (me_if (mt_cmp (od_eq hu) (me_b (me_bin od_add (me_bv 4) (me_bv 5))) (me_b me_int) (nomark _)) me_non (me_bin od_mul (me_b (me_b1 cd_abs (by rfl) z_abs boot_abs (me_b (me_bin od_sub (me_bv 4) (me_bv 5))))) (me_b (me_bin od_sub (me_b (me_b1 cd_abs (by rfl) z_abs boot_abs (me_b (me_bin od_add (me_bv 4) (me_bv 5))))) (me_b me_int)))))) (mss_cons (ms_if (PW.pt (mw_or (mt_not (mt_val (me_call F_law_like (hr.mono (by decide)) (by rfl) (ma_cons (me_call F_count_unclear (hr.mono (by decide)) (by rfl) (ma_cons (me_v 7) ma_nil)) (ma_cons (me_v 8) ma_nil))))) (mw_or1 (mt_cmp (od_ne hu) (me_b (me_call F_count_unclear (hr.mono (by decide)) (by rfl) (ma_cons (me_tup (ma_cons (me_tup (ma_cons (me_un ud_neg (me_bv 5)) (ma_cons (me_un ud_neg (me_bv 4)) ma_nil))) (ma_cons me_str (ma_cons me_int ma_nil)))) ma_nil))) (me_bv 8) (nomark _))))) (mss_one (ms_ret me_bl)) mss_nil) (mss_cons (ms_if (PW.pt (mw_or (mt_not (mt_val (me_call F_law_like (hr.mono (by decide)) (by rfl) (ma_cons (me_call F_is_clear (hr.mono (by decide)) (by rfl) (ma_cons (me_v 7) ma_nil)) (ma_cons (me_cmp (od_eq hu) (me_bv 8) (me_b me_int) (nomark _)) ma_nil))))) (mw_or1 (mt_cmp od_notB (me_b (me_call F_is_clear (hr.mono (by decide)) (by rfl) (ma_cons (me_tup (ma_cons (me_tup (ma_cons (me_v 4) (ma_cons (me_v 5) ma_nil))) (ma_cons me_str (ma_cons me_int ma_nil)))) ma_nil))) (me_b me_bl) (nomark _))))) (mss_one (ms_ret me_bl)) mss_nil) (mss_one (ms_if (PW.pt (mw_and (mt_cmp od_notN (me_bv 8) (me_b me_non) (nomark _)) (mw_and1 (mt_cmp od_gt (me_bv 8) (me_b me_int) (nomark _))))) (mss_cons (ms_par (i := 9) (j := 10) rfl nd rfl rfl (by decide) rfl rfl (me_call F_unclear_at (hr.mono (by decide)) (by rfl) (ma_cons (me_v 7) (ma_cons me_int ma_nil))) (me_call F_unclear_at (hr.mono (by decide)) (by rfl) (ma_cons (me_v 7) (ma_cons (me_bin od_sub (me_bv 8) (me_b me_int)) ma_nil))) (by rfl)) (mss_one (ms_if (PW.pt (mw_or (mt_cmp (od_ne hu) (me_b (me_call F_law_sum (hr.mono (by decide)) (by rfl) (ma_cons (me_v 9) (ma_cons (me_v 10) ma_nil)))) (me_b (me_tup (ma_cons me_int (ma_cons me_int ma_nil)))) (nomark _)) (mw_or1 (mt_cmp od_notN (me_b (me_call F_unclear_at (hr.mono (by decide)) (by rfl) (ma_cons (me_v 7) (ma_cons (me_v 8) ma_nil)))) (me_b me_non) (nomark _))))) (mss_one (ms_ret me_bl)) mss_nil))) mss_nil))))))))))) (mss_one (ms_ret (me_cmp (od_eq hu) (me_b (me_call F_count_unclear (hr.mono (by decide)) (by rfl) (ma_cons (me_tup (ma_cons (me_tup (ma_cons (me_bin od_pow (me_b me_int) (me_b me_int)) (ma_cons (me_un ud_neg (me_b me_int)) ma_nil))) (ma_cons me_str (ma_cons me_int ma_nil)))) ma_nil))) (me_b me_int) (nomark _))))))
end
def h_divisor : He.DefD := ⟨("divisor", none), "divisor", "divisor", defArgs s_divisor, defBody s_divisor, defScope s_divisor, [], []⟩
def h_part : He.DefD := ⟨("part", none), "part", "part", defArgs s_part, defBody s_part, defScope s_part, [], []⟩
def h_turned : He.DefD := ⟨("turned", none), "turned", "turned", defArgs s_turned, defBody s_turned, defScope s_turned, [], []⟩
def h_together : He.DefD := ⟨("together", none), "together", "together", defArgs s_together, defBody s_together, defScope s_together, [], []⟩
def h_row_of : He.DefD := ⟨("row_of", none), "row_of", "row_of", defArgs s_row_of, defBody s_row_of, defScope s_row_of, [], []⟩
def h_factors : He.DefD := ⟨("factors", none), "factors", "factors", defArgs s_factors, defBody s_factors, defScope s_factors, [], []⟩
def h_meet : He.DefD := ⟨("meet", none), "meet", "meet", defArgs s_meet, defBody s_meet, defScope s_meet, [], []⟩
def h_count_to : He.DefD := ⟨("count_to", none), "count_to", "count_to", defArgs s_count_to, defBody s_count_to, defScope s_count_to, [], []⟩
def h_exchanges : He.DefD := ⟨("exchanges", none), "exchanges", "exchanges", defArgs s_exchanges, defBody s_exchanges, defScope s_exchanges, [], []⟩
def h_equations : He.DefD := ⟨("equations", none), "equations", "equations", defArgs s_equations, defBody s_equations, defScope s_equations, [], []⟩
def h_less : He.DefD := ⟨("less", none), "less", "less", defArgs s_less, defBody s_less, defScope s_less, [], []⟩
def h_solved : He.DefD := ⟨("solved", none), "solved", "solved", defArgs s_solved, defBody s_solved, defScope s_solved, [], []⟩
def h_matches : He.DefD := ⟨("matches", none), "matches", "matches", defArgs s_matches, defBody s_matches, defScope s_matches, [], []⟩
def h_kept : He.DefD := ⟨("kept", none), "kept", "kept", defArgs s_kept, defBody s_kept, defScope s_kept, [], []⟩
def h_signed : He.DefD := ⟨("signed", none), "signed", "signed", defArgs s_signed, defBody s_signed, defScope s_signed, [], []⟩
def h_is_endless : He.DefD := ⟨("is_endless", none), "is_endless", "is_endless", defArgs s_is_endless, defBody s_is_endless, defScope s_is_endless, [], []⟩
def h_rows_of : He.DefD := ⟨("rows_of", none), "rows_of", "rows_of", defArgs s_rows_of, defBody s_rows_of, defScope s_rows_of, [], []⟩
def h_count_all : He.DefD := ⟨("count_all", none), "count_all", "count_all", defArgs s_count_all, defBody s_count_all, defScope s_count_all, [], []⟩
def h_count_until : He.DefD := ⟨("count_until", none), "count_until", "count_until", defArgs s_count_until, defBody s_count_until, defScope s_count_until, [], []⟩
def h_time_at : He.DefD := ⟨("time_at", none), "time_at", "time_at", defArgs s_time_at, defBody s_time_at, defScope s_time_at, [], []⟩
def h_families : He.DefD := ⟨("families", none), "families", "families", defArgs s_families, defBody s_families, defScope s_families, [], []⟩
def h_is_clear : He.DefD := ⟨("is_clear", none), "is_clear", "is_clear", defArgs s_is_clear, defBody s_is_clear, defScope s_is_clear, [], []⟩
def h_count_unclear : He.DefD := ⟨("count_unclear", none), "count_unclear", "count_unclear", defArgs s_count_unclear, defBody s_count_unclear, defScope s_count_unclear, [], []⟩
def h_unclear_at : He.DefD := ⟨("unclear_at", none), "unclear_at", "unclear_at", defArgs s_unclear_at, defBody s_unclear_at, defScope s_unclear_at, [], []⟩
def h_law_draw : He.DefD := ⟨("_law_draw", none), "_law_draw", "_law_draw", defArgs s_law_draw, defBody s_law_draw, defScope s_law_draw, [], []⟩
def h_law_like : He.DefD := ⟨("_law_like", none), "_law_like", "_law_like", defArgs s_law_like, defBody s_law_like, defScope s_law_like, [], []⟩
def h_law_gcd : He.DefD := ⟨("_law_gcd", none), "_law_gcd", "_law_gcd", defArgs s_law_gcd, defBody s_law_gcd, defScope s_law_gcd, [], []⟩
def h_law_part : He.DefD := ⟨("_law_part", none), "_law_part", "_law_part", defArgs s_law_part, defBody s_law_part, defScope s_law_part, [], []⟩
def h_law_sum : He.DefD := ⟨("_law_sum", none), "_law_sum", "_law_sum", defArgs s_law_sum, defBody s_law_sum, defScope s_law_sum, [], []⟩
def h_law : He.DefD := ⟨("law", none), "law", "law", defArgs s_law, defBody s_law, defScope s_law, [], []⟩
def fnT : List He.DefD := [h_divisor, h_part, h_turned, h_together, h_row_of, h_factors, h_meet, h_count_to, h_exchanges, h_equations, h_less, h_solved, h_matches, h_kept, h_signed, h_is_endless, h_rows_of, h_count_all, h_count_until, h_time_at, h_families, h_is_clear, h_count_unclear, h_unclear_at, h_law_draw, h_law_like, h_law_gcd, h_law_part, h_law_sum, h_law]
def faT : List He.Fa := [.glo "divisor", .glo "part", .glo "turned", .glo "together", .glo "row_of", .glo "factors", .glo "meet", .glo "count_to", .glo "exchanges", .glo "equations", .glo "less", .glo "solved", .glo "matches", .glo "kept", .glo "signed", .glo "is_endless", .glo "rows_of", .glo "count_all", .glo "count_until", .glo "time_at", .glo "families", .glo "is_clear", .glo "count_unclear", .glo "unclear_at", .glo "_law_draw", .glo "_law_like", .glo "_law_gcd", .glo "_law_part", .glo "_law_sum", .glo "law", .free "abs", .free "bool", .free "dict", .free "enumerate", .free "int", .free "isinstance", .free "len", .free "list", .free "max", .free "min", .free "range", .free "sum", .free "tuple", .free "zip"]
abbrev RR : PySem.W.OpenRow := PySem.W.OpenLaw.row PySem.Challenge.rw_unclearhands_k07_whole_two_hands
abbrev hkT : PySem.W.Hook := hookE 4 faT fnT txT
def obT (s : PySem.W.SharedT) : He.AlD × Bool := obsE 4 faT fnT txT (HandSHeadRun.getT s)
theorem ob_eq (s : PySem.W.SharedT) : obT s = hkT.obs s.abs := obsE_eq (HandSHeadRun.getT_eq s)
def looseT : List Str := (["divisor", "part", "turned", "together", "row_of", "factors", "meet", "count_to", "exchanges", "equations", "less", "solved", "matches", "kept", "signed", "is_endless", "rows_of", "count_all", "count_until", "time_at", "families", "is_clear", "count_unclear", "unclear_at", "_law_draw", "_law_like", "_law_gcd", "_law_part", "_law_sum", "ALL"] : List Str)
theorem runT (w : World) : HandSHeadRun.RunEq RR (PySem.W.view RR.prog [36]) hkT obT 4000 looseT w := by
  intro os
  kernel_rfl
theorem factsT {P : Program} {w : World} {K : PySem.W.Frag} {h : Heap} {mg : Str → Option Value} {f : Addr} (X : K.In h) (G : h.Ns mainGlobals mg) (hfa : mg ("law" : Str) = some (.ref f)) (c : He.SaysD faT fnT K) (ct : txOk K txT = true) :
    ∃ fd : FuncData, (∀ (s : Shared) (v : Value), BindsTo s fd ⟨[v], []⟩ [("_law_script", v)]) ∧ ∀ base : Heap, K.In base → base.Ns mainGlobals mg → FnOk P w K mg base CX0 9 f fd ["_law_script"] (spM false ⟨K, w⟩ 1 m_law) := by
  obtain ⟨fd_divisor, D_divisor⟩ := c.def_ 0 (d := h_divisor) rfl
  obtain ⟨fd_part, D_part⟩ := c.def_ 1 (d := h_part) rfl
  obtain ⟨fd_turned, D_turned⟩ := c.def_ 2 (d := h_turned) rfl
  obtain ⟨fd_together, D_together⟩ := c.def_ 3 (d := h_together) rfl
  obtain ⟨fd_row_of, D_row_of⟩ := c.def_ 4 (d := h_row_of) rfl
  obtain ⟨fd_factors, D_factors⟩ := c.def_ 5 (d := h_factors) rfl
  obtain ⟨fd_meet, D_meet⟩ := c.def_ 6 (d := h_meet) rfl
  obtain ⟨fd_count_to, D_count_to⟩ := c.def_ 7 (d := h_count_to) rfl
  obtain ⟨fd_exchanges, D_exchanges⟩ := c.def_ 8 (d := h_exchanges) rfl
  obtain ⟨fd_equations, D_equations⟩ := c.def_ 9 (d := h_equations) rfl
  obtain ⟨fd_less, D_less⟩ := c.def_ 10 (d := h_less) rfl
  obtain ⟨fd_solved, D_solved⟩ := c.def_ 11 (d := h_solved) rfl
  obtain ⟨fd_matches, D_matches⟩ := c.def_ 12 (d := h_matches) rfl
  obtain ⟨fd_kept, D_kept⟩ := c.def_ 13 (d := h_kept) rfl
  obtain ⟨fd_signed, D_signed⟩ := c.def_ 14 (d := h_signed) rfl
  obtain ⟨fd_is_endless, D_is_endless⟩ := c.def_ 15 (d := h_is_endless) rfl
  obtain ⟨fd_rows_of, D_rows_of⟩ := c.def_ 16 (d := h_rows_of) rfl
  obtain ⟨fd_count_all, D_count_all⟩ := c.def_ 17 (d := h_count_all) rfl
  obtain ⟨fd_count_until, D_count_until⟩ := c.def_ 18 (d := h_count_until) rfl
  obtain ⟨fd_time_at, D_time_at⟩ := c.def_ 19 (d := h_time_at) rfl
  obtain ⟨fd_families, D_families⟩ := c.def_ 20 (d := h_families) rfl
  obtain ⟨fd_is_clear, D_is_clear⟩ := c.def_ 21 (d := h_is_clear) rfl
  obtain ⟨fd_count_unclear, D_count_unclear⟩ := c.def_ 22 (d := h_count_unclear) rfl
  obtain ⟨fd_unclear_at, D_unclear_at⟩ := c.def_ 23 (d := h_unclear_at) rfl
  obtain ⟨fd_law_draw, D_law_draw⟩ := c.def_ 24 (d := h_law_draw) rfl
  obtain ⟨fd_law_like, D_law_like⟩ := c.def_ 25 (d := h_law_like) rfl
  obtain ⟨fd_law_gcd, D_law_gcd⟩ := c.def_ 26 (d := h_law_gcd) rfl
  obtain ⟨fd_law_part, D_law_part⟩ := c.def_ 27 (d := h_law_part) rfl
  obtain ⟨fd_law_sum, D_law_sum⟩ := c.def_ 28 (d := h_law_sum) rfl
  obtain ⟨fd_law, D_law⟩ := c.def_ 29 (d := h_law) rfl
  have e := hfa.symm.trans (He.glo_ok X G (c.fact 29 (f := .glo "law") rfl))
  cases e
  have hb : ∀ (s : Shared) (v : Value), BindsTo s fd_law ⟨[v], []⟩ [("_law_script", v)] := fun s v => FunD.bindsA (ps := ["_law_script"]) D_law (fun _ _ _ _ _ _ us hl => match us, hl with | [_], _ => rfl) s [v] rfl
  refine ⟨fd_law, hb, fun base KB GB => ?_⟩
  have z_abs : mg "abs" = none := He.free_ok X G (c.fact 30 (f := .free "abs") rfl)
  have z_bool : mg "bool" = none := He.free_ok X G (c.fact 31 (f := .free "bool") rfl)
  have z_dict : mg "dict" = none := He.free_ok X G (c.fact 32 (f := .free "dict") rfl)
  have z_enumerate : mg "enumerate" = none := He.free_ok X G (c.fact 33 (f := .free "enumerate") rfl)
  have z_int : mg "int" = none := He.free_ok X G (c.fact 34 (f := .free "int") rfl)
  have z_isinstance : mg "isinstance" = none := He.free_ok X G (c.fact 35 (f := .free "isinstance") rfl)
  have z_len : mg "len" = none := He.free_ok X G (c.fact 36 (f := .free "len") rfl)
  have z_list : mg "list" = none := He.free_ok X G (c.fact 37 (f := .free "list") rfl)
  have z_max : mg "max" = none := He.free_ok X G (c.fact 38 (f := .free "max") rfl)
  have z_min : mg "min" = none := He.free_ok X G (c.fact 39 (f := .free "min") rfl)
  have z_range : mg "range" = none := He.free_ok X G (c.fact 40 (f := .free "range") rfl)
  have z_sum : mg "sum" = none := He.free_ok X G (c.fact 41 (f := .free "sum") rfl)
  have z_tuple : mg "tuple" = none := He.free_ok X G (c.fact 42 (f := .free "tuple") rfl)
  have z_zip : mg "zip" = none := He.free_ok X G (c.fact 43 (f := .free "zip") rfl)
  obtain ⟨v_ALL, u_ALL, e_ALL, r_ALL, q_ALL⟩ := tx_ok X G ct (x := "ALL") (d := (.tup [(.int (0)), (.tup [(.int (0)), (.int (1))])])) 0 rfl
  have c_ALL : KC K mg "ALL" k_ALL := ⟨v_ALL, u_ALL, e_ALL, r_ALL, q_ALL⟩
  have F_divisor := ok_divisor (P := P) (w := w) (base := base) D_divisor (He.glo_ok X G (c.fact 0 (f := .glo "divisor") rfl)) z_abs
  have F_factors := ok_factors (P := P) (w := w) (base := base) D_factors (He.glo_ok X G (c.fact 5 (f := .glo "factors") rfl)) z_tuple z_zip
  have F_count_to := ok_count_to (P := P) (w := w) (base := base) D_count_to (He.glo_ok X G (c.fact 7 (f := .glo "count_to") rfl)) z_max z_min
  have F_exchanges := ok_exchanges (P := P) (w := w) (base := base) D_exchanges (He.glo_ok X G (c.fact 8 (f := .glo "exchanges") rfl)) z_enumerate
  have F_is_endless := ok_is_endless (P := P) (w := w) (base := base) D_is_endless (He.glo_ok X G (c.fact 15 (f := .glo "is_endless") rfl)) c_ALL
  have F_law_draw := ok_law_draw (P := P) (w := w) (base := base) D_law_draw (He.glo_ok X G (c.fact 24 (f := .glo "_law_draw") rfl)) z_int z_len
  have F_law_gcd := ok_law_gcd (P := P) (w := w) (base := base) D_law_gcd (He.glo_ok X G (c.fact 26 (f := .glo "_law_gcd") rfl)) z_abs z_int
  have F_part := ok_part (P := P) (w := w) (base := base) D_part (He.glo_ok X G (c.fact 1 (f := .glo "part") rfl)) F_divisor
  have F_count_until := ok_count_until (P := P) (w := w) (base := base) D_count_until (He.glo_ok X G (c.fact 18 (f := .glo "count_until") rfl)) F_count_to z_sum
  have F_law_part := ok_law_part (P := P) (w := w) (base := base) D_law_part (He.glo_ok X G (c.fact 27 (f := .glo "_law_part") rfl)) F_law_gcd z_int
  have F_turned := ok_turned (P := P) (w := w) (base := base) D_turned (He.glo_ok X G (c.fact 2 (f := .glo "turned") rfl)) F_part
  have F_together := ok_together (P := P) (w := w) (base := base) D_together (He.glo_ok X G (c.fact 3 (f := .glo "together") rfl)) F_part
  have F_equations := ok_equations (P := P) (w := w) (base := base) D_equations (He.glo_ok X G (c.fact 9 (f := .glo "equations") rfl)) F_part z_zip
  have F_law_sum := ok_law_sum (P := P) (w := w) (base := base) D_law_sum (He.glo_ok X G (c.fact 28 (f := .glo "_law_sum") rfl)) F_law_part
  have F_row_of := ok_row_of (P := P) (w := w) (base := base) D_row_of (He.glo_ok X G (c.fact 4 (f := .glo "row_of") rfl)) F_turned c_ALL
  have F_meet := ok_meet (P := P) (w := w) (base := base) D_meet (He.glo_ok X G (c.fact 6 (f := .glo "meet") rfl)) F_divisor F_factors F_together F_turned c_ALL
  have F_less := ok_less (P := P) (w := w) (base := base) D_less (He.glo_ok X G (c.fact 10 (f := .glo "less") rfl)) F_together F_turned
  have F_solved := ok_solved (P := P) (w := w) (base := base) D_solved (He.glo_ok X G (c.fact 11 (f := .glo "solved") rfl)) F_less F_meet F_row_of F_turned c_ALL
  have F_kept := ok_kept (P := P) (w := w) (base := base) D_kept (He.glo_ok X G (c.fact 13 (f := .glo "kept") rfl)) F_meet F_row_of
  have F_signed := ok_signed (P := P) (w := w) (base := base) D_signed (He.glo_ok X G (c.fact 14 (f := .glo "signed") rfl)) F_meet c_ALL z_dict
  have F_matches := ok_matches (P := P) (w := w) (base := base) D_matches (He.glo_ok X G (c.fact 12 (f := .glo "matches") rfl)) F_equations F_exchanges F_solved z_range
  have F_rows_of := ok_rows_of (P := P) (w := w) (base := base) D_rows_of (He.glo_ok X G (c.fact 16 (f := .glo "rows_of") rfl)) F_signed c_ALL
  have F_count_all := ok_count_all (P := P) (w := w) (base := base) D_count_all (He.glo_ok X G (c.fact 17 (f := .glo "count_all") rfl)) F_is_endless F_rows_of z_sum
  have F_time_at := ok_time_at (P := P) (w := w) (base := base) D_time_at (He.glo_ok X G (c.fact 19 (f := .glo "time_at") rfl)) F_count_until F_divisor F_part F_rows_of z_sum
  have F_families := ok_families (P := P) (w := w) (base := base) D_families (He.glo_ok X G (c.fact 20 (f := .glo "families") rfl)) F_kept F_matches z_list
  have F_is_clear := ok_is_clear (P := P) (w := w) (base := base) D_is_clear (He.glo_ok X G (c.fact 21 (f := .glo "is_clear") rfl)) F_families
  have F_count_unclear := ok_count_unclear (P := P) (w := w) (base := base) D_count_unclear (He.glo_ok X G (c.fact 22 (f := .glo "count_unclear") rfl)) F_count_all F_families
  have F_unclear_at := ok_unclear_at (P := P) (w := w) (base := base) D_unclear_at (He.glo_ok X G (c.fact 23 (f := .glo "unclear_at") rfl)) F_families F_is_endless F_time_at
  have F_law_like := ok_law_like (P := P) (w := w) (base := base) D_law_like (He.glo_ok X G (c.fact 25 (f := .glo "_law_like") rfl)) z_bool z_isinstance z_len z_list z_range z_tuple 8
  have F_law := ok_law (P := P) (w := w) (base := base) D_law (He.glo_ok X G (c.fact 29 (f := .glo "law") rfl)) F_law_draw F_law_gcd F_law_like F_law_sum F_count_unclear F_is_clear F_unclear_at z_abs z_list z_range
  exact F_law.ok
end K
namespace K
open DL
open L2 (atI ixN)
theorem gcd_loop (n : Nat) : ∀ (a b : Nat) (ρ0 ρ1 : Slot) (S : List D), b < n → whileN (cV (eBin dGt (eB 3) (eC (.int 0)))) (sPar 2 3 (eV 3) (eBin dMod (eB 2) (eB 3))) n [ρ0, ρ1, .val (.int a), .val (.int b)] S
    = some (.nx [ρ0, ρ1, .val (.int (Nat.gcd b a)), .val (.int 0)] S) := by
  induction n with
  | zero => intro a b _ _ _ h; omega
  | succ n ih =>
    intro a b ρ0 ρ1 S h
    rw [ev_while]
    by_cases hb : b = 0
    · subst hb
      have hn : ¬ (0 : Int) < ((0 : Nat) : Int) := by omega
      simp only [ev_C, ev_V, ev_B, ev_aN, ev_aC, ev_Tup, ev_Lst, ev_Bin, ev_Un, ev_UnF, ev_cV, ev_cAnd, ev_cOr, ev_cNot, ev_cYes, ev_And, ev_Or, ev_Not, ev_If, ev_Chain, ev_Call, ev_Ix, ev_Sl, ev_oN, ev_oE, ev_aS, ev_Comp, ev_iAny, ev_iRange1, ev_iRange2, ev_iZip, ev_iEnum, ev_sNil, ev_sSeq, ev_sIf, ev_sRet, ev_sRetO, ev_sRetN, ev_sAsg, ev_sSet, ev_sSetO, ev_sPar, ev_sFor, ev_sWhile, ev_sApp, ev_sIxO, ev_sIxC, ev_sFrz, ev_sExp, ev_sPass, ev_runB, ev_forN, ev_compN, ev_put0, ev_put1, ev_wipe0, ev_wipe1, ev_bnm, ev_btup, ev_bL0, ev_bL1, dv_add, dv_sub, dv_neg, dv_lt, dv_le, dv_gt, dv_ge, dv_int, dv_abs, dv_lenL, dv_lenT, dv_tupL, dv_tupT, dv_lofL, dv_lofT, dv_lofS, dv_seqL, dv_seqT, dv_ixL, dv_ixT, dv_ixO, atI_0, atI_1, atI_2, Option.bind_some, Option.bind_none, List.getElem?_cons_zero, List.getElem?_cons_succ, List.getElem?_nil, List.set_cons_zero, List.set_cons_succ, List.set_nil, List.length_cons, List.length_nil, List.map_cons, List.map_nil, List.replicate_succ, List.replicate_zero, List.cons_append, List.nil_append, Nat.reduceAdd, Nat.reduceSub, Nat.reduceLeDiff, Nat.zero_add, Nat.sub_zero, Nat.add_zero, if_true, if_false, Bool.false_eq_true, Nat.reduceEqDiff, Bool.not_true, Bool.not_false, decide_true, decide_false, ev_nat, decide_eq_false hn]
      rw [Nat.gcd_zero_left]
      rfl
    · have hp : (0 : Int) < b := by omega
      have := ih b (a % b) ρ0 ρ1 S (by have := Nat.mod_lt a (show b > 0 by omega); omega)
      simp only [ev_C, ev_V, ev_B, ev_aN, ev_aC, ev_Tup, ev_Lst, ev_Bin, ev_Un, ev_UnF, ev_cV, ev_cAnd, ev_cOr, ev_cNot, ev_cYes, ev_And, ev_Or, ev_Not, ev_If, ev_Chain, ev_Call, ev_Ix, ev_Sl, ev_oN, ev_oE, ev_aS, ev_Comp, ev_iAny, ev_iRange1, ev_iRange2, ev_iZip, ev_iEnum, ev_sNil, ev_sSeq, ev_sIf, ev_sRet, ev_sRetO, ev_sRetN, ev_sAsg, ev_sSet, ev_sSetO, ev_sPar, ev_sFor, ev_sWhile, ev_sApp, ev_sIxO, ev_sIxC, ev_sFrz, ev_sExp, ev_sPass, ev_runB, ev_forN, ev_compN, ev_put0, ev_put1, ev_wipe0, ev_wipe1, ev_bnm, ev_btup, ev_bL0, ev_bL1, dv_add, dv_sub, dv_neg, dv_lt, dv_le, dv_gt, dv_ge, dv_int, dv_abs, dv_lenL, dv_lenT, dv_tupL, dv_tupT, dv_lofL, dv_lofT, dv_lofS, dv_seqL, dv_seqT, dv_ixL, dv_ixT, dv_ixO, atI_0, atI_1, atI_2, Option.bind_some, Option.bind_none, List.getElem?_cons_zero, List.getElem?_cons_succ, List.getElem?_nil, List.set_cons_zero, List.set_cons_succ, List.set_nil, List.length_cons, List.length_nil, List.map_cons, List.map_nil, List.replicate_succ, List.replicate_zero, List.cons_append, List.nil_append, Nat.reduceAdd, Nat.reduceSub, Nat.reduceLeDiff, Nat.zero_add, Nat.sub_zero, Nat.add_zero, if_true, if_false, Bool.false_eq_true, Nat.reduceEqDiff, Bool.not_true, Bool.not_false, decide_true, decide_false, ev_nat, decide_eq_true hp, dv_mod _ _ hp]
      rw [← Int.natCast_emod, this, Nat.gcd_rec b a]
theorem gcd_loop2 (n : Nat) : ∀ (a b : Nat) (ρ0 ρ1 : Slot) (S : List D), b < n → whileN (cV (eBin dGt (eB 3) (eC (.int 0)))) (sPar 2 3 (eV 3) (eBin dMod (eUn dInt (eB 2)) (eB 3))) n [ρ0, ρ1, .val (.int a), .val (.int b)] S
    = some (.nx [ρ0, ρ1, .val (.int (Nat.gcd b a)), .val (.int 0)] S) := by
  induction n with
  | zero => intro a b _ _ _ h; omega
  | succ n ih =>
    intro a b ρ0 ρ1 S h
    rw [ev_while]
    by_cases hb : b = 0
    · subst hb
      have hn : ¬ (0 : Int) < ((0 : Nat) : Int) := by omega
      simp only [ev_C, ev_V, ev_B, ev_aN, ev_aC, ev_Tup, ev_Lst, ev_Bin, ev_Un, ev_UnF, ev_cV, ev_cAnd, ev_cOr, ev_cNot, ev_cYes, ev_And, ev_Or, ev_Not, ev_If, ev_Chain, ev_Call, ev_Ix, ev_Sl, ev_oN, ev_oE, ev_aS, ev_Comp, ev_iAny, ev_iRange1, ev_iRange2, ev_iZip, ev_iEnum, ev_sNil, ev_sSeq, ev_sIf, ev_sRet, ev_sRetO, ev_sRetN, ev_sAsg, ev_sSet, ev_sSetO, ev_sPar, ev_sFor, ev_sWhile, ev_sApp, ev_sIxO, ev_sIxC, ev_sFrz, ev_sExp, ev_sPass, ev_runB, ev_forN, ev_compN, ev_put0, ev_put1, ev_wipe0, ev_wipe1, ev_bnm, ev_btup, ev_bL0, ev_bL1, dv_add, dv_sub, dv_neg, dv_lt, dv_le, dv_gt, dv_ge, dv_int, dv_abs, dv_lenL, dv_lenT, dv_tupL, dv_tupT, dv_lofL, dv_lofT, dv_lofS, dv_seqL, dv_seqT, dv_ixL, dv_ixT, dv_ixO, atI_0, atI_1, atI_2, Option.bind_some, Option.bind_none, List.getElem?_cons_zero, List.getElem?_cons_succ, List.getElem?_nil, List.set_cons_zero, List.set_cons_succ, List.set_nil, List.length_cons, List.length_nil, List.map_cons, List.map_nil, List.replicate_succ, List.replicate_zero, List.cons_append, List.nil_append, Nat.reduceAdd, Nat.reduceSub, Nat.reduceLeDiff, Nat.zero_add, Nat.sub_zero, Nat.add_zero, if_true, if_false, Bool.false_eq_true, Nat.reduceEqDiff, Bool.not_true, Bool.not_false, decide_true, decide_false, ev_nat, decide_eq_false hn]
      rw [Nat.gcd_zero_left]
      rfl
    · have hp : (0 : Int) < b := by omega
      have := ih b (a % b) ρ0 ρ1 S (by have := Nat.mod_lt a (show b > 0 by omega); omega)
      simp only [ev_C, ev_V, ev_B, ev_aN, ev_aC, ev_Tup, ev_Lst, ev_Bin, ev_Un, ev_UnF, ev_cV, ev_cAnd, ev_cOr, ev_cNot, ev_cYes, ev_And, ev_Or, ev_Not, ev_If, ev_Chain, ev_Call, ev_Ix, ev_Sl, ev_oN, ev_oE, ev_aS, ev_Comp, ev_iAny, ev_iRange1, ev_iRange2, ev_iZip, ev_iEnum, ev_sNil, ev_sSeq, ev_sIf, ev_sRet, ev_sRetO, ev_sRetN, ev_sAsg, ev_sSet, ev_sSetO, ev_sPar, ev_sFor, ev_sWhile, ev_sApp, ev_sIxO, ev_sIxC, ev_sFrz, ev_sExp, ev_sPass, ev_runB, ev_forN, ev_compN, ev_put0, ev_put1, ev_wipe0, ev_wipe1, ev_bnm, ev_btup, ev_bL0, ev_bL1, dv_add, dv_sub, dv_neg, dv_lt, dv_le, dv_gt, dv_ge, dv_int, dv_abs, dv_lenL, dv_lenT, dv_tupL, dv_tupT, dv_lofL, dv_lofT, dv_lofS, dv_seqL, dv_seqT, dv_ixL, dv_ixT, dv_ixO, atI_0, atI_1, atI_2, Option.bind_some, Option.bind_none, List.getElem?_cons_zero, List.getElem?_cons_succ, List.getElem?_nil, List.set_cons_zero, List.set_cons_succ, List.set_nil, List.length_cons, List.length_nil, List.map_cons, List.map_nil, List.replicate_succ, List.replicate_zero, List.cons_append, List.nil_append, Nat.reduceAdd, Nat.reduceSub, Nat.reduceLeDiff, Nat.zero_add, Nat.sub_zero, Nat.add_zero, if_true, if_false, Bool.false_eq_true, Nat.reduceEqDiff, Bool.not_true, Bool.not_false, decide_true, decide_false, ev_nat, decide_eq_true hp, dv_mod _ _ hp]
      rw [← Int.natCast_emod, this, Nat.gcd_rec b a]
theorem m_divisor_eq (a b : Int) (S : List D) : m_divisor [.int a, .int b] S = some (.int (Int.gcd a b), S) := by
  unfold m_divisor g_divisor
  simp only [ev_C, ev_V, ev_B, ev_aN, ev_aC, ev_Tup, ev_Lst, ev_Bin, ev_Un, ev_UnF, ev_cV, ev_cAnd, ev_cOr, ev_cNot, ev_cYes, ev_And, ev_Or, ev_Not, ev_If, ev_Chain, ev_Call, ev_Ix, ev_Sl, ev_oN, ev_oE, ev_aS, ev_Comp, ev_iAny, ev_iRange1, ev_iRange2, ev_iZip, ev_iEnum, ev_sNil, ev_sSeq, ev_sIf, ev_sRet, ev_sRetO, ev_sRetN, ev_sAsg, ev_sSet, ev_sSetO, ev_sPar, ev_sFor, ev_sWhile, ev_sApp, ev_sIxO, ev_sIxC, ev_sFrz, ev_sExp, ev_sPass, ev_runB, ev_forN, ev_compN, ev_put0, ev_put1, ev_wipe0, ev_wipe1, ev_bnm, ev_btup, ev_bL0, ev_bL1, dv_add, dv_sub, dv_neg, dv_lt, dv_le, dv_gt, dv_ge, dv_int, dv_abs, dv_lenL, dv_lenT, dv_tupL, dv_tupT, dv_lofL, dv_lofT, dv_lofS, dv_seqL, dv_seqT, dv_ixL, dv_ixT, dv_ixO, atI_0, atI_1, atI_2, Option.bind_some, Option.bind_none, List.getElem?_cons_zero, List.getElem?_cons_succ, List.getElem?_nil, List.set_cons_zero, List.set_cons_succ, List.set_nil, List.length_cons, List.length_nil, List.map_cons, List.map_nil, List.replicate_succ, List.replicate_zero, List.cons_append, List.nil_append, Nat.reduceAdd, Nat.reduceSub, Nat.reduceLeDiff, Nat.zero_add, Nat.sub_zero, Nat.add_zero, if_true, if_false, Bool.false_eq_true, Nat.reduceEqDiff, Bool.not_true, Bool.not_false, decide_true, decide_false, ev_nat]
  rw [gcd_loop _ _ _ _ _ _ (by rw [Int.natAbs_natCast]; exact Nat.lt_succ_self _)]
  simp only [ev_C, ev_V, ev_B, ev_aN, ev_aC, ev_Tup, ev_Lst, ev_Bin, ev_Un, ev_UnF, ev_cV, ev_cAnd, ev_cOr, ev_cNot, ev_cYes, ev_And, ev_Or, ev_Not, ev_If, ev_Chain, ev_Call, ev_Ix, ev_Sl, ev_oN, ev_oE, ev_aS, ev_Comp, ev_iAny, ev_iRange1, ev_iRange2, ev_iZip, ev_iEnum, ev_sNil, ev_sSeq, ev_sIf, ev_sRet, ev_sRetO, ev_sRetN, ev_sAsg, ev_sSet, ev_sSetO, ev_sPar, ev_sFor, ev_sWhile, ev_sApp, ev_sIxO, ev_sIxC, ev_sFrz, ev_sExp, ev_sPass, ev_runB, ev_forN, ev_compN, ev_put0, ev_put1, ev_wipe0, ev_wipe1, ev_bnm, ev_btup, ev_bL0, ev_bL1, dv_add, dv_sub, dv_neg, dv_lt, dv_le, dv_gt, dv_ge, dv_int, dv_abs, dv_lenL, dv_lenT, dv_tupL, dv_tupT, dv_lofL, dv_lofT, dv_lofS, dv_seqL, dv_seqT, dv_ixL, dv_ixT, dv_ixO, atI_0, atI_1, atI_2, Option.bind_some, Option.bind_none, List.getElem?_cons_zero, List.getElem?_cons_succ, List.getElem?_nil, List.set_cons_zero, List.set_cons_succ, List.set_nil, List.length_cons, List.length_nil, List.map_cons, List.map_nil, List.replicate_succ, List.replicate_zero, List.cons_append, List.nil_append, Nat.reduceAdd, Nat.reduceSub, Nat.reduceLeDiff, Nat.zero_add, Nat.sub_zero, Nat.add_zero, if_true, if_false, Bool.false_eq_true, Nat.reduceEqDiff, Bool.not_true, Bool.not_false, decide_true, decide_false, ev_nat]
  rw [Nat.gcd_comm]
  rfl
theorem m_law_gcd_eq (a b : Int) (S : List D) : m_law_gcd [.int a, .int b] S = some (.int (Int.gcd a b), S) := by
  unfold m_law_gcd g_law_gcd
  simp only [ev_C, ev_V, ev_B, ev_aN, ev_aC, ev_Tup, ev_Lst, ev_Bin, ev_Un, ev_UnF, ev_cV, ev_cAnd, ev_cOr, ev_cNot, ev_cYes, ev_And, ev_Or, ev_Not, ev_If, ev_Chain, ev_Call, ev_Ix, ev_Sl, ev_oN, ev_oE, ev_aS, ev_Comp, ev_iAny, ev_iRange1, ev_iRange2, ev_iZip, ev_iEnum, ev_sNil, ev_sSeq, ev_sIf, ev_sRet, ev_sRetO, ev_sRetN, ev_sAsg, ev_sSet, ev_sSetO, ev_sPar, ev_sFor, ev_sWhile, ev_sApp, ev_sIxO, ev_sIxC, ev_sFrz, ev_sExp, ev_sPass, ev_runB, ev_forN, ev_compN, ev_put0, ev_put1, ev_wipe0, ev_wipe1, ev_bnm, ev_btup, ev_bL0, ev_bL1, dv_add, dv_sub, dv_neg, dv_lt, dv_le, dv_gt, dv_ge, dv_int, dv_abs, dv_lenL, dv_lenT, dv_tupL, dv_tupT, dv_lofL, dv_lofT, dv_lofS, dv_seqL, dv_seqT, dv_ixL, dv_ixT, dv_ixO, atI_0, atI_1, atI_2, Option.bind_some, Option.bind_none, List.getElem?_cons_zero, List.getElem?_cons_succ, List.getElem?_nil, List.set_cons_zero, List.set_cons_succ, List.set_nil, List.length_cons, List.length_nil, List.map_cons, List.map_nil, List.replicate_succ, List.replicate_zero, List.cons_append, List.nil_append, Nat.reduceAdd, Nat.reduceSub, Nat.reduceLeDiff, Nat.zero_add, Nat.sub_zero, Nat.add_zero, if_true, if_false, Bool.false_eq_true, Nat.reduceEqDiff, Bool.not_true, Bool.not_false, decide_true, decide_false, ev_nat]
  rw [gcd_loop2 _ _ _ _ _ _ (by rw [Int.natAbs_natCast]; exact Nat.lt_succ_self _)]
  simp only [ev_C, ev_V, ev_B, ev_aN, ev_aC, ev_Tup, ev_Lst, ev_Bin, ev_Un, ev_UnF, ev_cV, ev_cAnd, ev_cOr, ev_cNot, ev_cYes, ev_And, ev_Or, ev_Not, ev_If, ev_Chain, ev_Call, ev_Ix, ev_Sl, ev_oN, ev_oE, ev_aS, ev_Comp, ev_iAny, ev_iRange1, ev_iRange2, ev_iZip, ev_iEnum, ev_sNil, ev_sSeq, ev_sIf, ev_sRet, ev_sRetO, ev_sRetN, ev_sAsg, ev_sSet, ev_sSetO, ev_sPar, ev_sFor, ev_sWhile, ev_sApp, ev_sIxO, ev_sIxC, ev_sFrz, ev_sExp, ev_sPass, ev_runB, ev_forN, ev_compN, ev_put0, ev_put1, ev_wipe0, ev_wipe1, ev_bnm, ev_btup, ev_bL0, ev_bL1, dv_add, dv_sub, dv_neg, dv_lt, dv_le, dv_gt, dv_ge, dv_int, dv_abs, dv_lenL, dv_lenT, dv_tupL, dv_tupT, dv_lofL, dv_lofT, dv_lofS, dv_seqL, dv_seqT, dv_ixL, dv_ixT, dv_ixO, atI_0, atI_1, atI_2, Option.bind_some, Option.bind_none, List.getElem?_cons_zero, List.getElem?_cons_succ, List.getElem?_nil, List.set_cons_zero, List.set_cons_succ, List.set_nil, List.length_cons, List.length_nil, List.map_cons, List.map_nil, List.replicate_succ, List.replicate_zero, List.cons_append, List.nil_append, Nat.reduceAdd, Nat.reduceSub, Nat.reduceLeDiff, Nat.zero_add, Nat.sub_zero, Nat.add_zero, if_true, if_false, Bool.false_eq_true, Nat.reduceEqDiff, Bool.not_true, Bool.not_false, decide_true, decide_false, ev_nat]
  rw [Nat.gcd_comm]
  rfl
theorem wide_le {a b : Int} (h : wide b = true) (h0 : 0 ≤ a) (h1 : a ≤ b) : wide a = true := by
  have := wide_ok h
  exact decide_eq_true (by unfold Big; omega)
theorem gcd_pos' (t b : Int) (hb : 0 < b) : 0 < ((Int.gcd (t % b) b : Nat) : Int) := by
  have := Int.gcd_pos_of_ne_zero_right (t % b) (show b ≠ 0 by omega)
  omega
theorem gcd_le' (t b : Int) (hb : 0 < b) : ((Int.gcd (t % b) b : Nat) : Int) ≤ b := Int.le_of_dvd hb (Int.gcd_dvd_right ..)
theorem m_part_eq (t b : Int) (S : List D) (hb : 0 < b) (hw : wide b = true) : m_part [.int t, .int b] S = some (dR (fr ((t : Rat) / (b : Rat))), S) := by
  rw [← part_q t b hb]
  have g0 := gcd_pos' t b hb
  have gw := wide_le hw (Int.le_of_lt g0) (gcd_le' t b hb)
  unfold m_part g_part
  simp only [ev_C, ev_V, ev_B, ev_aN, ev_aC, ev_Tup, ev_Lst, ev_Bin, ev_Un, ev_UnF, ev_cV, ev_cAnd, ev_cOr, ev_cNot, ev_cYes, ev_And, ev_Or, ev_Not, ev_If, ev_Chain, ev_Call, ev_Ix, ev_Sl, ev_oN, ev_oE, ev_aS, ev_Comp, ev_iAny, ev_iRange1, ev_iRange2, ev_iZip, ev_iEnum, ev_sNil, ev_sSeq, ev_sIf, ev_sRet, ev_sRetO, ev_sRetN, ev_sAsg, ev_sSet, ev_sSetO, ev_sPar, ev_sFor, ev_sWhile, ev_sApp, ev_sIxO, ev_sIxC, ev_sFrz, ev_sExp, ev_sPass, ev_runB, ev_forN, ev_compN, ev_put0, ev_put1, ev_wipe0, ev_wipe1, ev_bnm, ev_btup, ev_bL0, ev_bL1, dv_add, dv_sub, dv_neg, dv_lt, dv_le, dv_gt, dv_ge, dv_int, dv_abs, dv_lenL, dv_lenT, dv_tupL, dv_tupT, dv_lofL, dv_lofT, dv_lofS, dv_seqL, dv_seqT, dv_ixL, dv_ixT, dv_ixO, atI_0, atI_1, atI_2, Option.bind_some, Option.bind_none, List.getElem?_cons_zero, List.getElem?_cons_succ, List.getElem?_nil, List.set_cons_zero, List.set_cons_succ, List.set_nil, List.length_cons, List.length_nil, List.map_cons, List.map_nil, List.replicate_succ, List.replicate_zero, List.cons_append, List.nil_append, Nat.reduceAdd, Nat.reduceSub, Nat.reduceLeDiff, Nat.zero_add, Nat.sub_zero, Nat.add_zero, if_true, if_false, Bool.false_eq_true, Nat.reduceEqDiff, Bool.not_true, Bool.not_false, decide_true, decide_false, ev_nat, dv_mod _ _ hb, m_divisor_eq, dv_div _ _ g0 gw]
theorem m_law_part_eq (t b : Int) (S : List D) (hb : 0 < b) (hw : wide b = true) : m_law_part [.int t, .int b] S = some (dR (fr ((t : Rat) / (b : Rat))), S) := by
  rw [← part_q t b hb]
  have g0 := gcd_pos' t b hb
  have gw := wide_le hw (Int.le_of_lt g0) (gcd_le' t b hb)
  unfold m_law_part g_law_part
  simp only [ev_C, ev_V, ev_B, ev_aN, ev_aC, ev_Tup, ev_Lst, ev_Bin, ev_Un, ev_UnF, ev_cV, ev_cAnd, ev_cOr, ev_cNot, ev_cYes, ev_And, ev_Or, ev_Not, ev_If, ev_Chain, ev_Call, ev_Ix, ev_Sl, ev_oN, ev_oE, ev_aS, ev_Comp, ev_iAny, ev_iRange1, ev_iRange2, ev_iZip, ev_iEnum, ev_sNil, ev_sSeq, ev_sIf, ev_sRet, ev_sRetO, ev_sRetN, ev_sAsg, ev_sSet, ev_sSetO, ev_sPar, ev_sFor, ev_sWhile, ev_sApp, ev_sIxO, ev_sIxC, ev_sFrz, ev_sExp, ev_sPass, ev_runB, ev_forN, ev_compN, ev_put0, ev_put1, ev_wipe0, ev_wipe1, ev_bnm, ev_btup, ev_bL0, ev_bL1, dv_add, dv_sub, dv_neg, dv_lt, dv_le, dv_gt, dv_ge, dv_int, dv_abs, dv_lenL, dv_lenT, dv_tupL, dv_tupT, dv_lofL, dv_lofT, dv_lofS, dv_seqL, dv_seqT, dv_ixL, dv_ixT, dv_ixO, atI_0, atI_1, atI_2, Option.bind_some, Option.bind_none, List.getElem?_cons_zero, List.getElem?_cons_succ, List.getElem?_nil, List.set_cons_zero, List.set_cons_succ, List.set_nil, List.length_cons, List.length_nil, List.map_cons, List.map_nil, List.replicate_succ, List.replicate_zero, List.cons_append, List.nil_append, Nat.reduceAdd, Nat.reduceSub, Nat.reduceLeDiff, Nat.zero_add, Nat.sub_zero, Nat.add_zero, if_true, if_false, Bool.false_eq_true, Nat.reduceEqDiff, Bool.not_true, Bool.not_false, decide_true, decide_false, ev_nat, dv_mod _ _ hb, m_law_gcd_eq, dv_div _ _ g0 gw]
structure Tape where
  c : List Int
  p : Int
  v : Int
def tp (t : Tape) : List D := [.lst [.lst (t.c.map .int), .int t.p, .int t.v]]
theorem ixN_31 : ixN 3 1 = some 1 := rfl
theorem ixN_32 : ixN 3 2 = some 2 := rfl
theorem dv_mul_s (a b : Int) (h : small a = true) : dMul (.int a) (.int b) = some (.int (a * b)) := dv_mul a b (by rw [h]; rfl)
theorem small_c1 : small 1000003 = true := by decide
theorem small_c2 : small 1181783497276652981 = true := by decide
theorem small_mod (x : Int) : small (x % 2305843009213693951) = true := by
  have h0 := Int.emod_nonneg x (show (2305843009213693951 : Int) ≠ 0 by decide)
  have h1 := Int.emod_lt_of_pos x (show (0 : Int) < 2305843009213693951 by decide)
  exact decide_eq_true (by omega)
theorem pow_18 : dPow (.int 10) (.int 18) = some (.int 1000000000000000000) := by rfl
theorem pow_6 : dPow (.int 10) (.int 6) = some (.int 1000000) := by rfl
theorem pow_15 : dPow (.int 10) (.int 15) = some (.int 1000000000000000) := by rfl
theorem mod_p (x : Int) : dMod (.int x) (.int 2305843009213693951) = some (.int (x % 2305843009213693951)) := dv_mod _ _ (by decide)
theorem cell_at (c : List Int) (p : Int) (h : 0 < c.length) : ∃ x, atI (c.map D.int) (p % (c.length : Int)) = some (.int x) := by
  have h0 := Int.emod_nonneg p (show (c.length : Int) ≠ 0 by omega)
  have h1 := Int.emod_lt_of_pos p (show (0 : Int) < c.length by omega)
  obtain ⟨n, hn⟩ : ∃ n : Nat, p % (c.length : Int) = n := ⟨(p % (c.length : Int)).toNat, by omega⟩
  rw [hn, atI_nat]
  refine ⟨c[n]'(by omega), ?_⟩
  rw [List.getElem?_map, List.getElem?_eq_getElem (by omega)]
  rfl
def drawIn : Sv := (sSeq (sSet 3 (eC (.int 0))) (sSeq (sIf (cV (eBin dGt (eUn dLen (eIx (eB 0) (eC (.int 0)))) (eC (.int 0)))) (sSet 3 (eIx (eIx (eB 0) (eC (.int 0))) (eBin dMod (eUn dInt (eIx (eB 0) (eC (.int 1)))) (eUn dLen (eIx (eB 0) (eC (.int 0))))))) sNil) (sSeq (sIf (cOr (cV (eBin dGe (eIx (eB 0) (eC (.int 1))) (eUn dLen (eIx (eB 0) (eC (.int 0)))))) (cV (eBin dLt (eB 3) (eBin dPow (eC (.int 10)) (eC (.int 18)))))) (sSeq (sSet 3 (eBin dMod (eUn dInt (eBin dAdd (eB 3) (eBin dMul (eC (.int 1000003)) (eIx (eB 0) (eC (.int 1)))))) (eB 2))) (sSeq (sSet 3 (eBin dMod (eUn dInt (eBin dAdd (eBin dAdd (eBin dMul (eB 3) (eB 3)) (eBin dMul (eC (.int 1181783497276652981)) (eB 3))) (eC (.int 2049848353892358983)))) (eB 2))) (sSet 3 (eBin dMod (eUn dInt (eBin dAdd (eBin dMul (eB 3) (eB 3)) (eC (.int 1442695040888963407)))) (eB 2))))) sNil) (sSeq (sIxC (eV 0) (eBin dAdd (eIx (eB 0) (eC (.int 1))) (eC (.int 1))) (eC (.int 1))) (sIxC (eV 0) (eV 3) (eC (.int 2)))))))
theorem draw_new (c : List Int) (p v many : Int) : ∃ y, drawIn
    [.val (.obj 0), .val (.int many), .val (.int 2305843009213693951), .non, .non] (tp ⟨c, p, v⟩) = some (.nx [.val (.obj 0), .val (.int many), .val (.int 2305843009213693951), .val (.int y), .non] (tp ⟨c, p + 1, y⟩)) := by
  unfold tp drawIn
  generalize hr : (sSeq _ _ : Sv) _ _ = r
  by_cases h : 0 < c.length
  · obtain ⟨x, hx⟩ := cell_at c p h
    have h' : (0 : Int) < c.length := by omega
    by_cases h2 : (c.length : Int) ≤ p
    · simp only [ev_C, ev_V, ev_B, ev_aN, ev_aC, ev_Tup, ev_Lst, ev_Bin, ev_Un, ev_UnF, ev_cV, ev_cAnd, ev_cOr, ev_cNot, ev_cYes, ev_And, ev_Or, ev_Not, ev_If, ev_Chain, ev_Call, ev_Ix, ev_Sl, ev_oN, ev_oE, ev_aS, ev_Comp, ev_iAny, ev_iRange1, ev_iRange2, ev_iZip, ev_iEnum, ev_sNil, ev_sSeq, ev_sIf, ev_sRet, ev_sRetO, ev_sRetN, ev_sAsg, ev_sSet, ev_sSetO, ev_sPar, ev_sFor, ev_sWhile, ev_sApp, ev_sIxO, ev_sIxC, ev_sFrz, ev_sExp, ev_sPass, ev_runB, ev_forN, ev_compN, ev_put0, ev_put1, ev_wipe0, ev_wipe1, ev_bnm, ev_btup, ev_bL0, ev_bL1, dv_add, dv_sub, dv_neg, dv_lt, dv_le, dv_gt, dv_ge, dv_int, dv_abs, dv_lenL, dv_lenT, dv_tupL, dv_tupT, dv_lofL, dv_lofT, dv_lofS, dv_seqL, dv_seqT, dv_ixL, dv_ixT, dv_ixO, atI_0, atI_1, atI_2, Option.bind_some, Option.bind_none, List.getElem?_cons_zero, List.getElem?_cons_succ, List.getElem?_nil, List.set_cons_zero, List.set_cons_succ, List.set_nil, List.length_cons, List.length_nil, List.map_cons, List.map_nil, List.replicate_succ, List.replicate_zero, List.cons_append, List.nil_append, Nat.reduceAdd, Nat.reduceSub, Nat.reduceLeDiff, Nat.zero_add, Nat.sub_zero, Nat.add_zero, if_true, if_false, Bool.false_eq_true, Nat.reduceEqDiff, Bool.not_true, Bool.not_false, decide_true, decide_false, ev_nat, ixN_31, ixN_32, dv_mul_s, small_c1, small_c2, small_mod, pow_18, mod_p, List.length_map, decide_eq_true h', dv_mod _ _ h', hx, decide_eq_true h2] at hr; exact ⟨_, hr.symm⟩
    · by_cases h3 : x < 1000000000000000000
      · simp only [ev_C, ev_V, ev_B, ev_aN, ev_aC, ev_Tup, ev_Lst, ev_Bin, ev_Un, ev_UnF, ev_cV, ev_cAnd, ev_cOr, ev_cNot, ev_cYes, ev_And, ev_Or, ev_Not, ev_If, ev_Chain, ev_Call, ev_Ix, ev_Sl, ev_oN, ev_oE, ev_aS, ev_Comp, ev_iAny, ev_iRange1, ev_iRange2, ev_iZip, ev_iEnum, ev_sNil, ev_sSeq, ev_sIf, ev_sRet, ev_sRetO, ev_sRetN, ev_sAsg, ev_sSet, ev_sSetO, ev_sPar, ev_sFor, ev_sWhile, ev_sApp, ev_sIxO, ev_sIxC, ev_sFrz, ev_sExp, ev_sPass, ev_runB, ev_forN, ev_compN, ev_put0, ev_put1, ev_wipe0, ev_wipe1, ev_bnm, ev_btup, ev_bL0, ev_bL1, dv_add, dv_sub, dv_neg, dv_lt, dv_le, dv_gt, dv_ge, dv_int, dv_abs, dv_lenL, dv_lenT, dv_tupL, dv_tupT, dv_lofL, dv_lofT, dv_lofS, dv_seqL, dv_seqT, dv_ixL, dv_ixT, dv_ixO, atI_0, atI_1, atI_2, Option.bind_some, Option.bind_none, List.getElem?_cons_zero, List.getElem?_cons_succ, List.getElem?_nil, List.set_cons_zero, List.set_cons_succ, List.set_nil, List.length_cons, List.length_nil, List.map_cons, List.map_nil, List.replicate_succ, List.replicate_zero, List.cons_append, List.nil_append, Nat.reduceAdd, Nat.reduceSub, Nat.reduceLeDiff, Nat.zero_add, Nat.sub_zero, Nat.add_zero, if_true, if_false, Bool.false_eq_true, Nat.reduceEqDiff, Bool.not_true, Bool.not_false, decide_true, decide_false, ev_nat, ixN_31, ixN_32, dv_mul_s, small_c1, small_c2, small_mod, pow_18, mod_p, List.length_map, decide_eq_true h', dv_mod _ _ h', hx, decide_eq_false h2, decide_eq_true h3] at hr; exact ⟨_, hr.symm⟩
      · simp only [ev_C, ev_V, ev_B, ev_aN, ev_aC, ev_Tup, ev_Lst, ev_Bin, ev_Un, ev_UnF, ev_cV, ev_cAnd, ev_cOr, ev_cNot, ev_cYes, ev_And, ev_Or, ev_Not, ev_If, ev_Chain, ev_Call, ev_Ix, ev_Sl, ev_oN, ev_oE, ev_aS, ev_Comp, ev_iAny, ev_iRange1, ev_iRange2, ev_iZip, ev_iEnum, ev_sNil, ev_sSeq, ev_sIf, ev_sRet, ev_sRetO, ev_sRetN, ev_sAsg, ev_sSet, ev_sSetO, ev_sPar, ev_sFor, ev_sWhile, ev_sApp, ev_sIxO, ev_sIxC, ev_sFrz, ev_sExp, ev_sPass, ev_runB, ev_forN, ev_compN, ev_put0, ev_put1, ev_wipe0, ev_wipe1, ev_bnm, ev_btup, ev_bL0, ev_bL1, dv_add, dv_sub, dv_neg, dv_lt, dv_le, dv_gt, dv_ge, dv_int, dv_abs, dv_lenL, dv_lenT, dv_tupL, dv_tupT, dv_lofL, dv_lofT, dv_lofS, dv_seqL, dv_seqT, dv_ixL, dv_ixT, dv_ixO, atI_0, atI_1, atI_2, Option.bind_some, Option.bind_none, List.getElem?_cons_zero, List.getElem?_cons_succ, List.getElem?_nil, List.set_cons_zero, List.set_cons_succ, List.set_nil, List.length_cons, List.length_nil, List.map_cons, List.map_nil, List.replicate_succ, List.replicate_zero, List.cons_append, List.nil_append, Nat.reduceAdd, Nat.reduceSub, Nat.reduceLeDiff, Nat.zero_add, Nat.sub_zero, Nat.add_zero, if_true, if_false, Bool.false_eq_true, Nat.reduceEqDiff, Bool.not_true, Bool.not_false, decide_true, decide_false, ev_nat, ixN_31, ixN_32, dv_mul_s, small_c1, small_c2, small_mod, pow_18, mod_p, List.length_map, decide_eq_true h', dv_mod _ _ h', hx, decide_eq_false h2, decide_eq_false h3] at hr; exact ⟨_, hr.symm⟩
  · have h' : ¬ (0 : Int) < c.length := by omega
    have h3 : (0 : Int) < 1000000000000000000 := by decide
    by_cases h2 : (c.length : Int) ≤ p
    · simp only [ev_C, ev_V, ev_B, ev_aN, ev_aC, ev_Tup, ev_Lst, ev_Bin, ev_Un, ev_UnF, ev_cV, ev_cAnd, ev_cOr, ev_cNot, ev_cYes, ev_And, ev_Or, ev_Not, ev_If, ev_Chain, ev_Call, ev_Ix, ev_Sl, ev_oN, ev_oE, ev_aS, ev_Comp, ev_iAny, ev_iRange1, ev_iRange2, ev_iZip, ev_iEnum, ev_sNil, ev_sSeq, ev_sIf, ev_sRet, ev_sRetO, ev_sRetN, ev_sAsg, ev_sSet, ev_sSetO, ev_sPar, ev_sFor, ev_sWhile, ev_sApp, ev_sIxO, ev_sIxC, ev_sFrz, ev_sExp, ev_sPass, ev_runB, ev_forN, ev_compN, ev_put0, ev_put1, ev_wipe0, ev_wipe1, ev_bnm, ev_btup, ev_bL0, ev_bL1, dv_add, dv_sub, dv_neg, dv_lt, dv_le, dv_gt, dv_ge, dv_int, dv_abs, dv_lenL, dv_lenT, dv_tupL, dv_tupT, dv_lofL, dv_lofT, dv_lofS, dv_seqL, dv_seqT, dv_ixL, dv_ixT, dv_ixO, atI_0, atI_1, atI_2, Option.bind_some, Option.bind_none, List.getElem?_cons_zero, List.getElem?_cons_succ, List.getElem?_nil, List.set_cons_zero, List.set_cons_succ, List.set_nil, List.length_cons, List.length_nil, List.map_cons, List.map_nil, List.replicate_succ, List.replicate_zero, List.cons_append, List.nil_append, Nat.reduceAdd, Nat.reduceSub, Nat.reduceLeDiff, Nat.zero_add, Nat.sub_zero, Nat.add_zero, if_true, if_false, Bool.false_eq_true, Nat.reduceEqDiff, Bool.not_true, Bool.not_false, decide_true, decide_false, ev_nat, ixN_31, ixN_32, dv_mul_s, small_c1, small_c2, small_mod, pow_18, mod_p, List.length_map, decide_eq_false h', decide_eq_true h2] at hr; exact ⟨_, hr.symm⟩
    · simp only [ev_C, ev_V, ev_B, ev_aN, ev_aC, ev_Tup, ev_Lst, ev_Bin, ev_Un, ev_UnF, ev_cV, ev_cAnd, ev_cOr, ev_cNot, ev_cYes, ev_And, ev_Or, ev_Not, ev_If, ev_Chain, ev_Call, ev_Ix, ev_Sl, ev_oN, ev_oE, ev_aS, ev_Comp, ev_iAny, ev_iRange1, ev_iRange2, ev_iZip, ev_iEnum, ev_sNil, ev_sSeq, ev_sIf, ev_sRet, ev_sRetO, ev_sRetN, ev_sAsg, ev_sSet, ev_sSetO, ev_sPar, ev_sFor, ev_sWhile, ev_sApp, ev_sIxO, ev_sIxC, ev_sFrz, ev_sExp, ev_sPass, ev_runB, ev_forN, ev_compN, ev_put0, ev_put1, ev_wipe0, ev_wipe1, ev_bnm, ev_btup, ev_bL0, ev_bL1, dv_add, dv_sub, dv_neg, dv_lt, dv_le, dv_gt, dv_ge, dv_int, dv_abs, dv_lenL, dv_lenT, dv_tupL, dv_tupT, dv_lofL, dv_lofT, dv_lofS, dv_seqL, dv_seqT, dv_ixL, dv_ixT, dv_ixO, atI_0, atI_1, atI_2, Option.bind_some, Option.bind_none, List.getElem?_cons_zero, List.getElem?_cons_succ, List.getElem?_nil, List.set_cons_zero, List.set_cons_succ, List.set_nil, List.length_cons, List.length_nil, List.map_cons, List.map_nil, List.replicate_succ, List.replicate_zero, List.cons_append, List.nil_append, Nat.reduceAdd, Nat.reduceSub, Nat.reduceLeDiff, Nat.zero_add, Nat.sub_zero, Nat.add_zero, if_true, if_false, Bool.false_eq_true, Nat.reduceEqDiff, Bool.not_true, Bool.not_false, decide_true, decide_false, ev_nat, ixN_31, ixN_32, dv_mul_s, small_c1, small_c2, small_mod, pow_18, mod_p, List.length_map, decide_eq_false h', decide_eq_false h2, decide_eq_true h3] at hr; exact ⟨_, hr.symm⟩
theorem draw_ex (t : Tape) (many : Int) (hm : 0 < many) (hw : wide many = true) : ∃ r t', 0 ≤ r ∧ r < many ∧ m_law_draw [.obj 0, .int many] (tp t) = some (.int r, tp t') := by
  obtain ⟨c, p, v⟩ := t
  unfold m_law_draw
  by_cases h : v < many
  · obtain ⟨y, hy⟩ := draw_new c p v many
    refine ⟨y % many, ⟨c, p + 1, y / many⟩, Int.emod_nonneg _ (by omega), Int.emod_lt_of_pos _ hm, ?_⟩
    have e : g_law_draw = (sSeq (sSet 2 (eC (.int 2305843009213693951))) (sSeq (sIf (cV (eBin dLt (eIx (eB 0) (eC (.int 2))) (eB 1))) drawIn sNil) (sSeq (sSet 4 (eBin dMod (eUn dInt (eIx (eB 0) (eC (.int 2)))) (eB 1))) (sSeq (sIxC (eV 0) (eBin dDiv (eIx (eB 0) (eC (.int 2))) (eB 1)) (eC (.int 2))) (sRet (eV 4)))))) := rfl
    rw [e]
    unfold tp at hy ⊢
    simp only [ev_C, ev_V, ev_B, ev_aN, ev_aC, ev_Tup, ev_Lst, ev_Bin, ev_Un, ev_UnF, ev_cV, ev_cAnd, ev_cOr, ev_cNot, ev_cYes, ev_And, ev_Or, ev_Not, ev_If, ev_Chain, ev_Call, ev_Ix, ev_Sl, ev_oN, ev_oE, ev_aS, ev_Comp, ev_iAny, ev_iRange1, ev_iRange2, ev_iZip, ev_iEnum, ev_sNil, ev_sSeq, ev_sIf, ev_sRet, ev_sRetO, ev_sRetN, ev_sAsg, ev_sSet, ev_sSetO, ev_sPar, ev_sFor, ev_sWhile, ev_sApp, ev_sIxO, ev_sIxC, ev_sFrz, ev_sExp, ev_sPass, ev_runB, ev_forN, ev_compN, ev_put0, ev_put1, ev_wipe0, ev_wipe1, ev_bnm, ev_btup, ev_bL0, ev_bL1, dv_add, dv_sub, dv_neg, dv_lt, dv_le, dv_gt, dv_ge, dv_int, dv_abs, dv_lenL, dv_lenT, dv_tupL, dv_tupT, dv_lofL, dv_lofT, dv_lofS, dv_seqL, dv_seqT, dv_ixL, dv_ixT, dv_ixO, atI_0, atI_1, atI_2, Option.bind_some, Option.bind_none, List.getElem?_cons_zero, List.getElem?_cons_succ, List.getElem?_nil, List.set_cons_zero, List.set_cons_succ, List.set_nil, List.length_cons, List.length_nil, List.map_cons, List.map_nil, List.replicate_succ, List.replicate_zero, List.cons_append, List.nil_append, Nat.reduceAdd, Nat.reduceSub, Nat.reduceLeDiff, Nat.zero_add, Nat.sub_zero, Nat.add_zero, if_true, if_false, Bool.false_eq_true, Nat.reduceEqDiff, Bool.not_true, Bool.not_false, decide_true, decide_false, ev_nat, decide_eq_true h, hy, dv_mod _ _ hm, dv_div _ _ hm hw, ixN_32]
  · refine ⟨v % many, ⟨c, p, v / many⟩, Int.emod_nonneg _ (by omega), Int.emod_lt_of_pos _ hm, ?_⟩
    unfold g_law_draw
    simp only [tp, ev_C, ev_V, ev_B, ev_aN, ev_aC, ev_Tup, ev_Lst, ev_Bin, ev_Un, ev_UnF, ev_cV, ev_cAnd, ev_cOr, ev_cNot, ev_cYes, ev_And, ev_Or, ev_Not, ev_If, ev_Chain, ev_Call, ev_Ix, ev_Sl, ev_oN, ev_oE, ev_aS, ev_Comp, ev_iAny, ev_iRange1, ev_iRange2, ev_iZip, ev_iEnum, ev_sNil, ev_sSeq, ev_sIf, ev_sRet, ev_sRetO, ev_sRetN, ev_sAsg, ev_sSet, ev_sSetO, ev_sPar, ev_sFor, ev_sWhile, ev_sApp, ev_sIxO, ev_sIxC, ev_sFrz, ev_sExp, ev_sPass, ev_runB, ev_forN, ev_compN, ev_put0, ev_put1, ev_wipe0, ev_wipe1, ev_bnm, ev_btup, ev_bL0, ev_bL1, dv_add, dv_sub, dv_neg, dv_lt, dv_le, dv_gt, dv_ge, dv_int, dv_abs, dv_lenL, dv_lenT, dv_tupL, dv_tupT, dv_lofL, dv_lofT, dv_lofS, dv_seqL, dv_seqT, dv_ixL, dv_ixT, dv_ixO, atI_0, atI_1, atI_2, Option.bind_some, Option.bind_none, List.getElem?_cons_zero, List.getElem?_cons_succ, List.getElem?_nil, List.set_cons_zero, List.set_cons_succ, List.set_nil, List.length_cons, List.length_nil, List.map_cons, List.map_nil, List.replicate_succ, List.replicate_zero, List.cons_append, List.nil_append, Nat.reduceAdd, Nat.reduceSub, Nat.reduceLeDiff, Nat.zero_add, Nat.sub_zero, Nat.add_zero, if_true, if_false, Bool.false_eq_true, Nat.reduceEqDiff, Bool.not_true, Bool.not_false, decide_true, decide_false, ev_nat, decide_eq_false h, dv_mod _ _ hm, dv_div _ _ hm hw, ixN_32]
mutual
def lkD : Nat → D → Bool
  | _, .non => true
  | _, .bl _ => true
  | _, .int _ => true
  | _, .str x => PySem.PyData.strOk x
  | n + 1, .tup xs => decide (xs.length ≤ 16777216) && lkL n xs
  | n + 1, .lst xs => decide (xs.length ≤ 16777216) && lkL n xs
  | _, _ => false
def lkL : Nat → List D → Bool
  | _, [] => true
  | n, x :: xs => lkD n x && lkL n xs
end
theorem lkL_get : ∀ {n : Nat} {xs : List D} {i : Nat} (h : lkL n xs = true) (hi : i < xs.length), lkD n xs[i] = true
  | n, x :: xs, 0, h, _ => by
    have h' : lkD n x = true ∧ lkL n xs = true := by simpa [lkL] using h
    exact h'.1
  | n, x :: xs, i + 1, h, hi => by
    have h' : lkD n x = true ∧ lkL n xs = true := by simpa [lkL] using h
    exact lkL_get h'.2 (by simpa using hi)
theorem lkL_of {n : Nat} : ∀ {xs : List D}, (∀ x ∈ xs, lkD n x = true) → lkL n xs = true
  | [], _ => by simp [lkL]
  | x :: xs, h => by simp only [lkL, h x List.mem_cons_self, lkL_of (fun y m => h y (List.mem_cons_of_mem _ m)), Bool.and_self]
theorem dne_bl (b : Bool) : dNe (.bl b) (.bl b) = some (.bl false) := by
  cases b <;> rfl
theorem deq_bl (b : Bool) : dEq (.bl b) (.bl b) = some (.bl true) := by
  cases b <;> rfl
theorem dne_int (b : Int) : dNe (.int b) (.int b) = some (.bl false) := by
  unfold dNe
  simp [okD, eqD]
theorem deq_nil : dEq (.lst []) (.lst []) = some (.bl true) := by rfl
theorem like_comp (xs : List D) (m : List D → List D → Option (D × List D)) (S : List D) (d : D) (hix : ∀ (k : Nat), k < xs.length → ixD S d (.int k) = xs[k]?) (hm : ∀ (k : Nat) (h : k < xs.length), m [xs[k], xs[k]] S = some (.bl true, S)) :
    compL (.nm 2) (cNot (cV (eCall 2 m (aC (eIx (eB 0) (eB 2)) (aC (eIx (eB 1) (eB 2)) aN))))) (eV 2) [.val d, .val d, .non] ((List.range xs.length).map fun (k : Nat) => D.int (k : Int)) S = some ([], S) := by
  have q := compL_filter (p := .nm 2) (c := (cNot (cV (eCall 2 m (aC (eIx (eB 0) (eB 2)) (aC (eIx (eB 1) (eB 2)) aN)))))) (f := eV 2) (ρ := [.val d, .val d, .non]) (S := S) (fun (k : Nat) => D.int (k : Int)) (fun (k : Nat) => D.int (k : Int)) (fun _ => false) (List.range xs.length) (fun k hk => ?_)
  · rw [q]
    have : (List.range xs.length).filter (fun _ => false) = [] := by simp
    rw [this]
    rfl
  · have hk' : k < xs.length := by simpa using hk
    refine ⟨[(2, .int k)], ev_bnm _ _, ?_, fun h => (nomatch h)⟩
    have h1 := hix k hk'
    rw [List.getElem?_eq_getElem hk'] at h1
    simp only [ev_C, ev_V, ev_B, ev_aN, ev_aC, ev_Tup, ev_Lst, ev_Bin, ev_Un, ev_UnF, ev_cV, ev_cAnd, ev_cOr, ev_cNot, ev_cYes, ev_And, ev_Or, ev_Not, ev_If, ev_Chain, ev_Call, ev_Ix, ev_Sl, ev_oN, ev_oE, ev_aS, ev_Comp, ev_iAny, ev_iRange1, ev_iRange2, ev_iZip, ev_iEnum, ev_sNil, ev_sSeq, ev_sIf, ev_sRet, ev_sRetO, ev_sRetN, ev_sAsg, ev_sSet, ev_sSetO, ev_sPar, ev_sFor, ev_sWhile, ev_sApp, ev_sIxO, ev_sIxC, ev_sFrz, ev_sExp, ev_sPass, ev_runB, ev_forN, ev_compN, ev_put0, ev_put1, ev_wipe0, ev_wipe1, ev_bnm, ev_btup, ev_bL0, ev_bL1, dv_add, dv_sub, dv_neg, dv_lt, dv_le, dv_gt, dv_ge, dv_int, dv_abs, dv_lenL, dv_lenT, dv_tupL, dv_tupT, dv_lofL, dv_lofT, dv_lofS, dv_seqL, dv_seqT, dv_ixL, dv_ixT, dv_ixO, atI_0, atI_1, atI_2, Option.bind_some, Option.bind_none, List.getElem?_cons_zero, List.getElem?_cons_succ, List.getElem?_nil, List.set_cons_zero, List.set_cons_succ, List.set_nil, List.length_cons, List.length_nil, List.map_cons, List.map_nil, List.replicate_succ, List.replicate_zero, List.cons_append, List.nil_append, Nat.reduceAdd, Nat.reduceSub, Nat.reduceLeDiff, Nat.zero_add, Nat.sub_zero, Nat.add_zero, if_true, if_false, Bool.false_eq_true, Nat.reduceEqDiff, Bool.not_true, Bool.not_false, decide_true, decide_false, ev_nat, h1, hm k hk']
theorem inWord_len {n : Nat} (h : n ≤ 16777216) : inWord (n : Int) = true := by
  unfold inWord
  rw [Bool.and_eq_true]
  exact ⟨decide_eq_true (by omega), decide_eq_true (by omega)⟩
theorem like_flat (m : List D → List D → Option (D × List D)) (d : D) (S : List D) (h : lkD 0 d = true) : runB false 3 (g_law_like m) [d, d] S = some (.bl true, S) := by
  unfold g_law_like
  cases d with
  | non => simp only [ev_C, ev_V, ev_B, ev_aN, ev_aC, ev_Tup, ev_Lst, ev_Bin, ev_Un, ev_UnF, ev_cV, ev_cAnd, ev_cOr, ev_cNot, ev_cYes, ev_And, ev_Or, ev_Not, ev_If, ev_Chain, ev_Call, ev_Ix, ev_Sl, ev_oN, ev_oE, ev_aS, ev_Comp, ev_iAny, ev_iRange1, ev_iRange2, ev_iZip, ev_iEnum, ev_sNil, ev_sSeq, ev_sIf, ev_sRet, ev_sRetO, ev_sRetN, ev_sAsg, ev_sSet, ev_sSetO, ev_sPar, ev_sFor, ev_sWhile, ev_sApp, ev_sIxO, ev_sIxC, ev_sFrz, ev_sExp, ev_sPass, ev_runB, ev_forN, ev_compN, ev_put0, ev_put1, ev_wipe0, ev_wipe1, ev_bnm, ev_btup, ev_bL0, ev_bL1, dv_add, dv_sub, dv_neg, dv_lt, dv_le, dv_gt, dv_ge, dv_int, dv_abs, dv_lenL, dv_lenT, dv_tupL, dv_tupT, dv_lofL, dv_lofT, dv_lofS, dv_seqL, dv_seqT, dv_ixL, dv_ixT, dv_ixO, atI_0, atI_1, atI_2, Option.bind_some, Option.bind_none, List.getElem?_cons_zero, List.getElem?_cons_succ, List.getElem?_nil, List.set_cons_zero, List.set_cons_succ, List.set_nil, List.length_cons, List.length_nil, List.map_cons, List.map_nil, List.replicate_succ, List.replicate_zero, List.cons_append, List.nil_append, Nat.reduceAdd, Nat.reduceSub, Nat.reduceLeDiff, Nat.zero_add, Nat.sub_zero, Nat.add_zero, if_true, if_false, Bool.false_eq_true, Nat.reduceEqDiff, Bool.not_true, Bool.not_false, decide_true, decide_false, ev_nat, dIs, isLT, isBo, deq_bl, show dEq .non .non = some (.bl true) from rfl]
  | bl b => simp only [ev_C, ev_V, ev_B, ev_aN, ev_aC, ev_Tup, ev_Lst, ev_Bin, ev_Un, ev_UnF, ev_cV, ev_cAnd, ev_cOr, ev_cNot, ev_cYes, ev_And, ev_Or, ev_Not, ev_If, ev_Chain, ev_Call, ev_Ix, ev_Sl, ev_oN, ev_oE, ev_aS, ev_Comp, ev_iAny, ev_iRange1, ev_iRange2, ev_iZip, ev_iEnum, ev_sNil, ev_sSeq, ev_sIf, ev_sRet, ev_sRetO, ev_sRetN, ev_sAsg, ev_sSet, ev_sSetO, ev_sPar, ev_sFor, ev_sWhile, ev_sApp, ev_sIxO, ev_sIxC, ev_sFrz, ev_sExp, ev_sPass, ev_runB, ev_forN, ev_compN, ev_put0, ev_put1, ev_wipe0, ev_wipe1, ev_bnm, ev_btup, ev_bL0, ev_bL1, dv_add, dv_sub, dv_neg, dv_lt, dv_le, dv_gt, dv_ge, dv_int, dv_abs, dv_lenL, dv_lenT, dv_tupL, dv_tupT, dv_lofL, dv_lofT, dv_lofS, dv_seqL, dv_seqT, dv_ixL, dv_ixT, dv_ixO, atI_0, atI_1, atI_2, Option.bind_some, Option.bind_none, List.getElem?_cons_zero, List.getElem?_cons_succ, List.getElem?_nil, List.set_cons_zero, List.set_cons_succ, List.set_nil, List.length_cons, List.length_nil, List.map_cons, List.map_nil, List.replicate_succ, List.replicate_zero, List.cons_append, List.nil_append, Nat.reduceAdd, Nat.reduceSub, Nat.reduceLeDiff, Nat.zero_add, Nat.sub_zero, Nat.add_zero, if_true, if_false, Bool.false_eq_true, Nat.reduceEqDiff, Bool.not_true, Bool.not_false, decide_true, decide_false, ev_nat, dIs, isLT, isBo, deq_bl]
  | int i => simp only [ev_C, ev_V, ev_B, ev_aN, ev_aC, ev_Tup, ev_Lst, ev_Bin, ev_Un, ev_UnF, ev_cV, ev_cAnd, ev_cOr, ev_cNot, ev_cYes, ev_And, ev_Or, ev_Not, ev_If, ev_Chain, ev_Call, ev_Ix, ev_Sl, ev_oN, ev_oE, ev_aS, ev_Comp, ev_iAny, ev_iRange1, ev_iRange2, ev_iZip, ev_iEnum, ev_sNil, ev_sSeq, ev_sIf, ev_sRet, ev_sRetO, ev_sRetN, ev_sAsg, ev_sSet, ev_sSetO, ev_sPar, ev_sFor, ev_sWhile, ev_sApp, ev_sIxO, ev_sIxC, ev_sFrz, ev_sExp, ev_sPass, ev_runB, ev_forN, ev_compN, ev_put0, ev_put1, ev_wipe0, ev_wipe1, ev_bnm, ev_btup, ev_bL0, ev_bL1, dv_add, dv_sub, dv_neg, dv_lt, dv_le, dv_gt, dv_ge, dv_int, dv_abs, dv_lenL, dv_lenT, dv_tupL, dv_tupT, dv_lofL, dv_lofT, dv_lofS, dv_seqL, dv_seqT, dv_ixL, dv_ixT, dv_ixO, atI_0, atI_1, atI_2, Option.bind_some, Option.bind_none, List.getElem?_cons_zero, List.getElem?_cons_succ, List.getElem?_nil, List.set_cons_zero, List.set_cons_succ, List.set_nil, List.length_cons, List.length_nil, List.map_cons, List.map_nil, List.replicate_succ, List.replicate_zero, List.cons_append, List.nil_append, Nat.reduceAdd, Nat.reduceSub, Nat.reduceLeDiff, Nat.zero_add, Nat.sub_zero, Nat.add_zero, if_true, if_false, Bool.false_eq_true, Nat.reduceEqDiff, Bool.not_true, Bool.not_false, decide_true, decide_false, ev_nat, dIs, isLT, isBo, deq_bl, show dEq (.int i) (.int i) = some (.bl true) by unfold dEq; simp [okD, eqD]]
  | str x =>
    have h' : PySem.PyData.strOk x = true := by simpa [lkD] using h
    simp only [ev_C, ev_V, ev_B, ev_aN, ev_aC, ev_Tup, ev_Lst, ev_Bin, ev_Un, ev_UnF, ev_cV, ev_cAnd, ev_cOr, ev_cNot, ev_cYes, ev_And, ev_Or, ev_Not, ev_If, ev_Chain, ev_Call, ev_Ix, ev_Sl, ev_oN, ev_oE, ev_aS, ev_Comp, ev_iAny, ev_iRange1, ev_iRange2, ev_iZip, ev_iEnum, ev_sNil, ev_sSeq, ev_sIf, ev_sRet, ev_sRetO, ev_sRetN, ev_sAsg, ev_sSet, ev_sSetO, ev_sPar, ev_sFor, ev_sWhile, ev_sApp, ev_sIxO, ev_sIxC, ev_sFrz, ev_sExp, ev_sPass, ev_runB, ev_forN, ev_compN, ev_put0, ev_put1, ev_wipe0, ev_wipe1, ev_bnm, ev_btup, ev_bL0, ev_bL1, dv_add, dv_sub, dv_neg, dv_lt, dv_le, dv_gt, dv_ge, dv_int, dv_abs, dv_lenL, dv_lenT, dv_tupL, dv_tupT, dv_lofL, dv_lofT, dv_lofS, dv_seqL, dv_seqT, dv_ixL, dv_ixT, dv_ixO, atI_0, atI_1, atI_2, Option.bind_some, Option.bind_none, List.getElem?_cons_zero, List.getElem?_cons_succ, List.getElem?_nil, List.set_cons_zero, List.set_cons_succ, List.set_nil, List.length_cons, List.length_nil, List.map_cons, List.map_nil, List.replicate_succ, List.replicate_zero, List.cons_append, List.nil_append, Nat.reduceAdd, Nat.reduceSub, Nat.reduceLeDiff, Nat.zero_add, Nat.sub_zero, Nat.add_zero, if_true, if_false, Bool.false_eq_true, Nat.reduceEqDiff, Bool.not_true, Bool.not_false, decide_true, decide_false, ev_nat, dIs, isLT, isBo, deq_bl, show dEq (.str x) (.str x) = some (.bl true) by unfold dEq; simp [okD, eqD, h']]
  | tup _ => simp [lkD] at h
  | lst _ => simp [lkD] at h
  | obj _ => simp [lkD] at h
  | dct _ => simp [lkD] at h
  | scr _ => simp [lkD] at h
theorem like_lst (m : List D → List D → Option (D × List D)) (xs S : List D) (hl : xs.length ≤ 16777216) (hm : ∀ (k : Nat) (h : k < xs.length), m [xs[k], xs[k]] S = some (.bl true, S)) : runB false 3 (g_law_like m) [.lst xs, .lst xs] S = some (.bl true, S) := by
  have c := like_comp xs m S (.lst xs) (fun k _ => by rw [dv_ixL, atI_nat]) hm
  unfold g_law_like
  refine run_rt (ρ := [.val (.lst xs), .val (.lst xs), .non]) rfl ((seq_rt ?_))
  refine (if_t (S' := S) ?_).trans ?_
  · simp only [ev_C, ev_V, ev_B, ev_aN, ev_aC, ev_Tup, ev_Lst, ev_Bin, ev_Un, ev_UnF, ev_cV, ev_cAnd, ev_cOr, ev_cNot, ev_cYes, ev_And, ev_Or, ev_Not, ev_If, ev_Chain, ev_Call, ev_Ix, ev_Sl, ev_oN, ev_oE, ev_aS, ev_Comp, ev_iAny, ev_iRange1, ev_iRange2, ev_iZip, ev_iEnum, ev_sNil, ev_sSeq, ev_sIf, ev_sRet, ev_sRetO, ev_sRetN, ev_sAsg, ev_sSet, ev_sSetO, ev_sPar, ev_sFor, ev_sWhile, ev_sApp, ev_sIxO, ev_sIxC, ev_sFrz, ev_sExp, ev_sPass, ev_runB, ev_forN, ev_compN, ev_put0, ev_put1, ev_wipe0, ev_wipe1, ev_bnm, ev_btup, ev_bL0, ev_bL1, dv_add, dv_sub, dv_neg, dv_lt, dv_le, dv_gt, dv_ge, dv_int, dv_abs, dv_lenL, dv_lenT, dv_tupL, dv_tupT, dv_lofL, dv_lofT, dv_lofS, dv_seqL, dv_seqT, dv_ixL, dv_ixT, dv_ixO, atI_0, atI_1, atI_2, Option.bind_some, Option.bind_none, List.getElem?_cons_zero, List.getElem?_cons_succ, List.getElem?_nil, List.set_cons_zero, List.set_cons_succ, List.set_nil, List.length_cons, List.length_nil, List.map_cons, List.map_nil, List.replicate_succ, List.replicate_zero, List.cons_append, List.nil_append, Nat.reduceAdd, Nat.reduceSub, Nat.reduceLeDiff, Nat.zero_add, Nat.sub_zero, Nat.add_zero, if_true, if_false, Bool.false_eq_true, Nat.reduceEqDiff, Bool.not_true, Bool.not_false, decide_true, decide_false, ev_nat, dIs, isLT]
  refine (seq_nx (ρ' := [.val (.lst xs), .val (.lst xs), .non]) (S' := S) ?_).trans ?_
  · simp only [ev_C, ev_V, ev_B, ev_aN, ev_aC, ev_Tup, ev_Lst, ev_Bin, ev_Un, ev_UnF, ev_cV, ev_cAnd, ev_cOr, ev_cNot, ev_cYes, ev_And, ev_Or, ev_Not, ev_If, ev_Chain, ev_Call, ev_Ix, ev_Sl, ev_oN, ev_oE, ev_aS, ev_Comp, ev_iAny, ev_iRange1, ev_iRange2, ev_iZip, ev_iEnum, ev_sNil, ev_sSeq, ev_sIf, ev_sRet, ev_sRetO, ev_sRetN, ev_sAsg, ev_sSet, ev_sSetO, ev_sPar, ev_sFor, ev_sWhile, ev_sApp, ev_sIxO, ev_sIxC, ev_sFrz, ev_sExp, ev_sPass, ev_runB, ev_forN, ev_compN, ev_put0, ev_put1, ev_wipe0, ev_wipe1, ev_bnm, ev_btup, ev_bL0, ev_bL1, dv_add, dv_sub, dv_neg, dv_lt, dv_le, dv_gt, dv_ge, dv_int, dv_abs, dv_lenL, dv_lenT, dv_tupL, dv_tupT, dv_lofL, dv_lofT, dv_lofS, dv_seqL, dv_seqT, dv_ixL, dv_ixT, dv_ixO, atI_0, atI_1, atI_2, Option.bind_some, Option.bind_none, List.getElem?_cons_zero, List.getElem?_cons_succ, List.getElem?_nil, List.set_cons_zero, List.set_cons_succ, List.set_nil, List.length_cons, List.length_nil, List.map_cons, List.map_nil, List.replicate_succ, List.replicate_zero, List.cons_append, List.nil_append, Nat.reduceAdd, Nat.reduceSub, Nat.reduceLeDiff, Nat.zero_add, Nat.sub_zero, Nat.add_zero, if_true, if_false, Bool.false_eq_true, Nat.reduceEqDiff, Bool.not_true, Bool.not_false, decide_true, decide_false, ev_nat, dIs, isL, isTp, dne_bl]
  refine (seq_nx (ρ' := [.val (.lst xs), .val (.lst xs), .non]) (S' := S) ?_).trans ?_
  · simp only [ev_C, ev_V, ev_B, ev_aN, ev_aC, ev_Tup, ev_Lst, ev_Bin, ev_Un, ev_UnF, ev_cV, ev_cAnd, ev_cOr, ev_cNot, ev_cYes, ev_And, ev_Or, ev_Not, ev_If, ev_Chain, ev_Call, ev_Ix, ev_Sl, ev_oN, ev_oE, ev_aS, ev_Comp, ev_iAny, ev_iRange1, ev_iRange2, ev_iZip, ev_iEnum, ev_sNil, ev_sSeq, ev_sIf, ev_sRet, ev_sRetO, ev_sRetN, ev_sAsg, ev_sSet, ev_sSetO, ev_sPar, ev_sFor, ev_sWhile, ev_sApp, ev_sIxO, ev_sIxC, ev_sFrz, ev_sExp, ev_sPass, ev_runB, ev_forN, ev_compN, ev_put0, ev_put1, ev_wipe0, ev_wipe1, ev_bnm, ev_btup, ev_bL0, ev_bL1, dv_add, dv_sub, dv_neg, dv_lt, dv_le, dv_gt, dv_ge, dv_int, dv_abs, dv_lenL, dv_lenT, dv_tupL, dv_tupT, dv_lofL, dv_lofT, dv_lofS, dv_seqL, dv_seqT, dv_ixL, dv_ixT, dv_ixO, atI_0, atI_1, atI_2, Option.bind_some, Option.bind_none, List.getElem?_cons_zero, List.getElem?_cons_succ, List.getElem?_nil, List.set_cons_zero, List.set_cons_succ, List.set_nil, List.length_cons, List.length_nil, List.map_cons, List.map_nil, List.replicate_succ, List.replicate_zero, List.cons_append, List.nil_append, Nat.reduceAdd, Nat.reduceSub, Nat.reduceLeDiff, Nat.zero_add, Nat.sub_zero, Nat.add_zero, if_true, if_false, Bool.false_eq_true, Nat.reduceEqDiff, Bool.not_true, Bool.not_false, decide_true, decide_false, ev_nat, dne_int]
  refine ret_s (bin_s (S' := S) (comp_s (ds := (List.range xs.length).map fun (k : Nat) => D.int (k : Int)) (S' := S) (res := []) ?_ (by simp only [List.length_map, List.length_range]; exact hl) (by simp only [ev_wipe1, ev_wipe0, List.set_cons_succ, List.set_cons_zero]; exact c)) (d2 := .lst []) (S2 := S) (lst_s (ds := []) rfl (Nat.zero_le _)) deq_nil)
  rw [← rangeD_eq]
  exact range1_s (by simp only [ev_C, ev_V, ev_B, ev_aN, ev_aC, ev_Tup, ev_Lst, ev_Bin, ev_Un, ev_UnF, ev_cV, ev_cAnd, ev_cOr, ev_cNot, ev_cYes, ev_And, ev_Or, ev_Not, ev_If, ev_Chain, ev_Call, ev_Ix, ev_Sl, ev_oN, ev_oE, ev_aS, ev_Comp, ev_iAny, ev_iRange1, ev_iRange2, ev_iZip, ev_iEnum, ev_sNil, ev_sSeq, ev_sIf, ev_sRet, ev_sRetO, ev_sRetN, ev_sAsg, ev_sSet, ev_sSetO, ev_sPar, ev_sFor, ev_sWhile, ev_sApp, ev_sIxO, ev_sIxC, ev_sFrz, ev_sExp, ev_sPass, ev_runB, ev_forN, ev_compN, ev_put0, ev_put1, ev_wipe0, ev_wipe1, ev_bnm, ev_btup, ev_bL0, ev_bL1, dv_add, dv_sub, dv_neg, dv_lt, dv_le, dv_gt, dv_ge, dv_int, dv_abs, dv_lenL, dv_lenT, dv_tupL, dv_tupT, dv_lofL, dv_lofT, dv_lofS, dv_seqL, dv_seqT, dv_ixL, dv_ixT, dv_ixO, atI_0, atI_1, atI_2, Option.bind_some, Option.bind_none, List.getElem?_cons_zero, List.getElem?_cons_succ, List.getElem?_nil, List.set_cons_zero, List.set_cons_succ, List.set_nil, List.length_cons, List.length_nil, List.map_cons, List.map_nil, List.replicate_succ, List.replicate_zero, List.cons_append, List.nil_append, Nat.reduceAdd, Nat.reduceSub, Nat.reduceLeDiff, Nat.zero_add, Nat.sub_zero, Nat.add_zero, if_true, if_false, Bool.false_eq_true, Nat.reduceEqDiff, Bool.not_true, Bool.not_false, decide_true, decide_false, ev_nat]) (inWord_len hl)
theorem like_tup (m : List D → List D → Option (D × List D)) (xs S : List D) (hl : xs.length ≤ 16777216) (hm : ∀ (k : Nat) (h : k < xs.length), m [xs[k], xs[k]] S = some (.bl true, S)) : runB false 3 (g_law_like m) [.tup xs, .tup xs] S = some (.bl true, S) := by
  have c := like_comp xs m S (.tup xs) (fun k _ => by rw [dv_ixT, atI_nat]) hm
  unfold g_law_like
  refine run_rt (ρ := [.val (.tup xs), .val (.tup xs), .non]) rfl ((seq_rt ?_))
  refine (if_t (S' := S) ?_).trans ?_
  · simp only [ev_C, ev_V, ev_B, ev_aN, ev_aC, ev_Tup, ev_Lst, ev_Bin, ev_Un, ev_UnF, ev_cV, ev_cAnd, ev_cOr, ev_cNot, ev_cYes, ev_And, ev_Or, ev_Not, ev_If, ev_Chain, ev_Call, ev_Ix, ev_Sl, ev_oN, ev_oE, ev_aS, ev_Comp, ev_iAny, ev_iRange1, ev_iRange2, ev_iZip, ev_iEnum, ev_sNil, ev_sSeq, ev_sIf, ev_sRet, ev_sRetO, ev_sRetN, ev_sAsg, ev_sSet, ev_sSetO, ev_sPar, ev_sFor, ev_sWhile, ev_sApp, ev_sIxO, ev_sIxC, ev_sFrz, ev_sExp, ev_sPass, ev_runB, ev_forN, ev_compN, ev_put0, ev_put1, ev_wipe0, ev_wipe1, ev_bnm, ev_btup, ev_bL0, ev_bL1, dv_add, dv_sub, dv_neg, dv_lt, dv_le, dv_gt, dv_ge, dv_int, dv_abs, dv_lenL, dv_lenT, dv_tupL, dv_tupT, dv_lofL, dv_lofT, dv_lofS, dv_seqL, dv_seqT, dv_ixL, dv_ixT, dv_ixO, atI_0, atI_1, atI_2, Option.bind_some, Option.bind_none, List.getElem?_cons_zero, List.getElem?_cons_succ, List.getElem?_nil, List.set_cons_zero, List.set_cons_succ, List.set_nil, List.length_cons, List.length_nil, List.map_cons, List.map_nil, List.replicate_succ, List.replicate_zero, List.cons_append, List.nil_append, Nat.reduceAdd, Nat.reduceSub, Nat.reduceLeDiff, Nat.zero_add, Nat.sub_zero, Nat.add_zero, if_true, if_false, Bool.false_eq_true, Nat.reduceEqDiff, Bool.not_true, Bool.not_false, decide_true, decide_false, ev_nat, dIs, isLT]
  refine (seq_nx (ρ' := [.val (.tup xs), .val (.tup xs), .non]) (S' := S) ?_).trans ?_
  · simp only [ev_C, ev_V, ev_B, ev_aN, ev_aC, ev_Tup, ev_Lst, ev_Bin, ev_Un, ev_UnF, ev_cV, ev_cAnd, ev_cOr, ev_cNot, ev_cYes, ev_And, ev_Or, ev_Not, ev_If, ev_Chain, ev_Call, ev_Ix, ev_Sl, ev_oN, ev_oE, ev_aS, ev_Comp, ev_iAny, ev_iRange1, ev_iRange2, ev_iZip, ev_iEnum, ev_sNil, ev_sSeq, ev_sIf, ev_sRet, ev_sRetO, ev_sRetN, ev_sAsg, ev_sSet, ev_sSetO, ev_sPar, ev_sFor, ev_sWhile, ev_sApp, ev_sIxO, ev_sIxC, ev_sFrz, ev_sExp, ev_sPass, ev_runB, ev_forN, ev_compN, ev_put0, ev_put1, ev_wipe0, ev_wipe1, ev_bnm, ev_btup, ev_bL0, ev_bL1, dv_add, dv_sub, dv_neg, dv_lt, dv_le, dv_gt, dv_ge, dv_int, dv_abs, dv_lenL, dv_lenT, dv_tupL, dv_tupT, dv_lofL, dv_lofT, dv_lofS, dv_seqL, dv_seqT, dv_ixL, dv_ixT, dv_ixO, atI_0, atI_1, atI_2, Option.bind_some, Option.bind_none, List.getElem?_cons_zero, List.getElem?_cons_succ, List.getElem?_nil, List.set_cons_zero, List.set_cons_succ, List.set_nil, List.length_cons, List.length_nil, List.map_cons, List.map_nil, List.replicate_succ, List.replicate_zero, List.cons_append, List.nil_append, Nat.reduceAdd, Nat.reduceSub, Nat.reduceLeDiff, Nat.zero_add, Nat.sub_zero, Nat.add_zero, if_true, if_false, Bool.false_eq_true, Nat.reduceEqDiff, Bool.not_true, Bool.not_false, decide_true, decide_false, ev_nat, dIs, isL, isTp, dne_bl]
  refine (seq_nx (ρ' := [.val (.tup xs), .val (.tup xs), .non]) (S' := S) ?_).trans ?_
  · simp only [ev_C, ev_V, ev_B, ev_aN, ev_aC, ev_Tup, ev_Lst, ev_Bin, ev_Un, ev_UnF, ev_cV, ev_cAnd, ev_cOr, ev_cNot, ev_cYes, ev_And, ev_Or, ev_Not, ev_If, ev_Chain, ev_Call, ev_Ix, ev_Sl, ev_oN, ev_oE, ev_aS, ev_Comp, ev_iAny, ev_iRange1, ev_iRange2, ev_iZip, ev_iEnum, ev_sNil, ev_sSeq, ev_sIf, ev_sRet, ev_sRetO, ev_sRetN, ev_sAsg, ev_sSet, ev_sSetO, ev_sPar, ev_sFor, ev_sWhile, ev_sApp, ev_sIxO, ev_sIxC, ev_sFrz, ev_sExp, ev_sPass, ev_runB, ev_forN, ev_compN, ev_put0, ev_put1, ev_wipe0, ev_wipe1, ev_bnm, ev_btup, ev_bL0, ev_bL1, dv_add, dv_sub, dv_neg, dv_lt, dv_le, dv_gt, dv_ge, dv_int, dv_abs, dv_lenL, dv_lenT, dv_tupL, dv_tupT, dv_lofL, dv_lofT, dv_lofS, dv_seqL, dv_seqT, dv_ixL, dv_ixT, dv_ixO, atI_0, atI_1, atI_2, Option.bind_some, Option.bind_none, List.getElem?_cons_zero, List.getElem?_cons_succ, List.getElem?_nil, List.set_cons_zero, List.set_cons_succ, List.set_nil, List.length_cons, List.length_nil, List.map_cons, List.map_nil, List.replicate_succ, List.replicate_zero, List.cons_append, List.nil_append, Nat.reduceAdd, Nat.reduceSub, Nat.reduceLeDiff, Nat.zero_add, Nat.sub_zero, Nat.add_zero, if_true, if_false, Bool.false_eq_true, Nat.reduceEqDiff, Bool.not_true, Bool.not_false, decide_true, decide_false, ev_nat, dne_int]
  refine ret_s (bin_s (S' := S) (comp_s (ds := (List.range xs.length).map fun (k : Nat) => D.int (k : Int)) (S' := S) (res := []) ?_ (by simp only [List.length_map, List.length_range]; exact hl) (by simp only [ev_wipe1, ev_wipe0, List.set_cons_succ, List.set_cons_zero]; exact c)) (d2 := .lst []) (S2 := S) (lst_s (ds := []) rfl (Nat.zero_le _)) deq_nil)
  rw [← rangeD_eq]
  exact range1_s (by simp only [ev_C, ev_V, ev_B, ev_aN, ev_aC, ev_Tup, ev_Lst, ev_Bin, ev_Un, ev_UnF, ev_cV, ev_cAnd, ev_cOr, ev_cNot, ev_cYes, ev_And, ev_Or, ev_Not, ev_If, ev_Chain, ev_Call, ev_Ix, ev_Sl, ev_oN, ev_oE, ev_aS, ev_Comp, ev_iAny, ev_iRange1, ev_iRange2, ev_iZip, ev_iEnum, ev_sNil, ev_sSeq, ev_sIf, ev_sRet, ev_sRetO, ev_sRetN, ev_sAsg, ev_sSet, ev_sSetO, ev_sPar, ev_sFor, ev_sWhile, ev_sApp, ev_sIxO, ev_sIxC, ev_sFrz, ev_sExp, ev_sPass, ev_runB, ev_forN, ev_compN, ev_put0, ev_put1, ev_wipe0, ev_wipe1, ev_bnm, ev_btup, ev_bL0, ev_bL1, dv_add, dv_sub, dv_neg, dv_lt, dv_le, dv_gt, dv_ge, dv_int, dv_abs, dv_lenL, dv_lenT, dv_tupL, dv_tupT, dv_lofL, dv_lofT, dv_lofS, dv_seqL, dv_seqT, dv_ixL, dv_ixT, dv_ixO, atI_0, atI_1, atI_2, Option.bind_some, Option.bind_none, List.getElem?_cons_zero, List.getElem?_cons_succ, List.getElem?_nil, List.set_cons_zero, List.set_cons_succ, List.set_nil, List.length_cons, List.length_nil, List.map_cons, List.map_nil, List.replicate_succ, List.replicate_zero, List.cons_append, List.nil_append, Nat.reduceAdd, Nat.reduceSub, Nat.reduceLeDiff, Nat.zero_add, Nat.sub_zero, Nat.add_zero, if_true, if_false, Bool.false_eq_true, Nat.reduceEqDiff, Bool.not_true, Bool.not_false, decide_true, decide_false, ev_nat]) (inWord_len hl)
theorem m_law_like_succ (n : Nat) : m_law_like (n + 1) = runB false 3 (g_law_like (m_law_like n)) := rfl
theorem like_refl (n : Nat) : ∀ (d : D) (S : List D), lkD n d = true → m_law_like (n + 1) [d, d] S = some (.bl true, S) := by
  induction n with
  | zero => intro d S h; rw [m_law_like_succ]; exact like_flat _ d S h
  | succ n ih =>
    intro d S h
    rw [m_law_like_succ]
    cases d with
    | tup xs =>
      have h' : xs.length ≤ 16777216 ∧ lkL n xs = true := by simpa [lkD] using h
      exact like_tup _ xs S h'.1 (fun k hk => ih xs[k] S (lkL_get h'.2 hk))
    | lst xs =>
      have h' : xs.length ≤ 16777216 ∧ lkL n xs = true := by simpa [lkD] using h
      exact like_lst _ xs S h'.1 (fun k hk => ih xs[k] S (lkL_get h'.2 hk))
    | _ => exact like_flat _ _ S (by simpa [lkD] using h)
theorem dv_eqI (a b : Int) : dEq (.int a) (.int b) = some (.bl (decide (a = b))) := by
  unfold dEq
  simp only [okD, Bool.and_self, if_true, eqD]
  rw [Bool.beq_eq_decide_eq]
theorem dv_addT (xs ys : List D) (h : xs.length + ys.length ≤ 16777216) : dAdd (.tup xs) (.tup ys) = some (.tup (xs ++ ys)) := by
  show (if xs.length + ys.length ≤ 16777216 then some (D.tup (xs ++ ys)) else none) = _
  rw [if_pos h]
theorem wide_of {a b : Int} (h : wide b = true) (h1 : a.natAbs ≤ b.natAbs) : wide a = true := by
  have := wide_ok h
  exact decide_eq_true (by unfold Big; omega)
theorem wide_sm {a : Int} (h : a.natAbs < 18446744073709551616) : wide a = true := by
  refine decide_eq_true ?_
  have : (18446744073709551616 : Nat) ≤ Big := by
    show 2 ^ 64 ≤ 2 ^ 8000
    exact Nat.pow_le_pow_right (by decide) (by decide)
  omega
def gcdL (l : List Int) : Nat := l.foldl (fun g h => Nat.gcd g h.natAbs) 0
theorem foldl_gcd (l : List Int) : ∀ (g : Nat), l.foldl (fun g h => Nat.gcd g h.natAbs) g = Nat.gcd g (gcdL l) := by
  unfold gcdL
  induction l with
  | nil => intro g; simp
  | cons x l ih =>
    intro g
    rw [List.foldl_cons, List.foldl_cons, ih, ih (Nat.gcd 0 x.natAbs), Nat.gcd_zero_left, Nat.gcd_assoc]
theorem gcdL_cons (x : Int) (l : List Int) : gcdL (x :: l) = Nat.gcd x.natAbs (gcdL l) := by
  have := foldl_gcd l (Nat.gcd 0 x.natAbs)
  rw [Nat.gcd_zero_left] at this
  unfold gcdL at this ⊢
  rw [List.foldl_cons, Nat.gcd_zero_left]
  exact this
theorem gcdL_dvd : ∀ (l : List Int) (x : Int), x ∈ l → (gcdL l : Int) ∣ x
  | y :: l, x, h => by
    rw [gcdL_cons]
    rcases List.mem_cons.mp h with rfl | h
    · exact Int.ofNat_dvd_left.mpr (Nat.gcd_dvd_left _ _)
    · have := gcdL_dvd l x h
      exact Int.dvd_trans (Int.ofNat_dvd.mpr (Nat.gcd_dvd_right _ _)) this
theorem gcdL_map (c : Int) : ∀ l : List Int, gcdL (l.map (c * ·)) = c.natAbs * gcdL l
  | [] => rfl
  | x :: l => by rw [List.map_cons, gcdL_cons, gcdL_map c l, gcdL_cons, Int.natAbs_mul, Nat.gcd_mul_left]
theorem gcdL_div (l : List Int) (h : 0 < gcdL l) : gcdL (l.map (· / (gcdL l : Int))) = 1 := by
  have e : (l.map (· / (gcdL l : Int))).map ((gcdL l : Int) * ·) = l := by
    rw [List.map_map]
    have : ∀ x ∈ l, ((((gcdL l : Int) * ·) ∘ (· / (gcdL l : Int))) x) = x := fun x hx => Int.mul_ediv_cancel' (gcdL_dvd l x hx)
    rw [List.map_congr_left this, List.map_id']
  have q := gcdL_map (gcdL l) (l.map (· / (gcdL l : Int)))
  rw [e, Int.natAbs_natCast] at q
  have : gcdL l * 1 = gcdL l * gcdL (l.map (· / (gcdL l : Int))) := by rw [Nat.mul_one]; exact q
  exact (Nat.eq_of_mul_eq_mul_left h this).symm
theorem gcdL_pos : ∀ (l : List Int), l ≠ [] → (∀ x ∈ l, x ≠ 0) → 0 < gcdL l
  | [], h, _ => absurd rfl h
  | x :: l, _, h => by
    rw [gcdL_cons]
    have := h x List.mem_cons_self
    exact Nat.gcd_pos_of_pos_left _ (by omega)
def looksOf (n : Nat) : List PySem.Str := if n = 2 then ["aa", "ab"] else if n = 3 then ["aaa", "aab", "abc", "aba"] else if n = 4 then ["aaab", "aabb", "aabc", "abcd", "abab"] else []
structure GoodClk (hands : List Int) (looks : PySem.Str) (marks : Int) (most : Int) : Prop where
  len : 2 ≤ hands.length ∧ hands.length ≤ 4
  nz : ∀ h ∈ hands, h ≠ 0
  bd : ∀ h ∈ hands, (h.natAbs : Int) ≤ most
  gcd : gcdL hands = 1
  looks : looks ∈ looksOf hands.length
  marks : marks = 1 ∨ marks = 2 ∨ marks = 3 ∨ marks = 4
def clkD (hands : List Int) (looks : PySem.Str) (marks : Int) : D := .tup [.tup (hands.map .int), .str looks, .int marks]
def drawE (i : Nat) (k : Ev) : Ev := eCall 2 m_law_draw (aC (eV i) (aC k aN))
theorem drawE_ex (t : Tape) {ρ : List Slot} {i : Nat} {k : Ev} {many : Int} (hρ : ρ[i]? = some (.val (.obj 0))) (hk : k ρ (tp t) = some (.int many, tp t)) (hm : 0 < many) (hw : wide many = true) :
    ∃ r t', 0 ≤ r ∧ r < many ∧ drawE i k ρ (tp t) = some (.int r, tp t') := by
  obtain ⟨r, t', h0, h1, e⟩ := draw_ex t many hm hw
  refine ⟨r, t', h0, h1, ?_⟩
  unfold drawE
  refine call_s (ds := [.obj 0, .int many]) (S' := tp t) ?_ rfl e
  rw [ev_aC, ev_V, hρ]
  simp only [Option.bind_some]
  rw [ev_aC, hk]
  rfl
theorem handsLoop (most : Int) (hm : 0 < most) (hw : wide most = true) (n : Nat) (hn : n ≤ 4) (t : Tape) :
    ∃ hs t' x4 x5, forL (.nm 4) (sSeq (sSet 5 (eBin dAdd (eC (.int 1)) (drawE 0 (eV 1)))) (sSet 3 (eBin dAdd (eB 3) (eTup (aC (eIf (cV (eBin dEq (drawE 0 (eC (.int 5))) (eC (.int 0)))) (eUn dNeg (eB 5)) (eV 5)) aN)))))
      (rangeD 0 n) [.val (.obj 0), .val (.int most), .val (.int n), .val (.tup []), .non, .non, .non, .non] (tp t) = some (.nx [.val (.obj 0), .val (.int most), .val (.int n), .val (.tup (List.map .int hs)), x4, x5, .non, .non] (tp t'))
      ∧ hs.length = n ∧ (∀ h ∈ hs, h ≠ 0) ∧ ∀ h ∈ hs, (h.natAbs : Int) ≤ most := by
  have q := forL_inv (p := .nm 4) (g := (sSeq (sSet 5 (eBin dAdd (eC (.int 1)) (drawE 0 (eV 1)))) (sSet 3 (eBin dAdd (eB 3) (eTup (aC (eIf (cV (eBin dEq (drawE 0 (eC (.int 5))) (eC (.int 0)))) (eUn dNeg (eB 5)) (eV 5)) aN))))))
    (fun pre ρ S => ∃ hs t' x4 x5, ρ = [.val (.obj 0), .val (.int most), .val (.int n), .val (.tup (List.map .int hs)), x4, x5, .non, .non] ∧ S = tp t' ∧ hs.length = pre.length ∧ (∀ h ∈ hs, h ≠ 0) ∧ ∀ h ∈ hs, (h.natAbs : Int) ≤ most)
    (rangeD 0 n) [.val (.obj 0), .val (.int most), .val (.int n), .val (.tup []), .non, .non, .non, .non] (tp t) ⟨[], t, .non, .non, rfl, rfl, rfl, fun _ h => (nomatch h), fun _ h => (nomatch h)⟩ ?_
  · obtain ⟨ρ', S', e, hs, t', x4, x5, rfl, rfl, h1, h2, h3⟩ := q
    exact ⟨hs, t', x4, x5, e, by rw [h1, rangeD_len]; omega, h2, h3⟩
  · rintro pre x ρ S hx hN ⟨hs, t', x4, x5, rfl, rfl, h1, h2, h3⟩
    rw [rangeD_len] at hN
    obtain ⟨r, t1, r0, r1, e1⟩ := drawE_ex t' (ρ := [.val (.obj 0), .val (.int most), .val (.int n), .val (.tup (List.map .int hs)), .val x, x5, .non, .non]) (i := 0) (k := eV 1) rfl rfl hm hw
    obtain ⟨s, t2, s0, s1, e2⟩ := drawE_ex t1 (ρ := [.val (.obj 0), .val (.int most), .val (.int n), .val (.tup (List.map .int hs)), .val x, .val (.int (1 + r)), .non, .non]) (i := 0) (k := eC (.int 5)) rfl rfl (by decide) (wide_sm (by decide))
    by_cases hs0 : s = 0
    · refine ⟨_, [.val (.obj 0), .val (.int most), .val (.int n), .val (.tup (List.map .int (hs ++ [-(1 + r)]))), .val x, .val (.int (1 + r)), .non, .non], tp t2, ev_bnm _ _, ?_, hs ++ [-(1 + r)], t2, _, _, rfl, rfl, by simp [h1], ?_, ?_⟩
      · rw [ev_put1, ev_put0]
        refine (seq_nx (set_s (bin_s (d := .int 1) rfl e1 rfl))).trans (set_s (bin_s (d := .tup (List.map .int hs)) (S' := tp t1) rfl (tup_s (aC_s (d := .int (-(1 + r))) ((eif_t (S' := tp t2) ?_).trans rfl) rfl) (by show 1 ≤ 16777216; decide)) ?_))
        · refine cV_s (bin_s e2 rfl ?_)
          rw [dv_eqI, decide_eq_true hs0]
        · rw [dv_addT _ _ (by simp; omega), List.map_append]; rfl
      · intro h m; rcases List.mem_append.mp m with m | m
        · exact h2 h m
        · have : h = -(1 + r) := by simpa using m
          omega
      · intro h m; rcases List.mem_append.mp m with m | m
        · exact h3 h m
        · have : h = -(1 + r) := by simpa using m
          omega
    · refine ⟨_, [.val (.obj 0), .val (.int most), .val (.int n), .val (.tup (List.map .int (hs ++ [1 + r]))), .val x, .val (.int (1 + r)), .non, .non], tp t2, ev_bnm _ _, ?_, hs ++ [1 + r], t2, _, _, rfl, rfl, by simp [h1], ?_, ?_⟩
      · rw [ev_put1, ev_put0]
        refine (seq_nx (set_s (bin_s (d := .int 1) rfl e1 rfl))).trans (set_s (bin_s (d := .tup (List.map .int hs)) (S' := tp t1) rfl (tup_s (aC_s (d := .int (1 + r)) ((eif_f (S' := tp t2) ?_).trans rfl) rfl) (by show 1 ≤ 16777216; decide)) ?_))
        · refine cV_s (bin_s e2 rfl ?_)
          rw [dv_eqI, decide_eq_false hs0]
        · rw [dv_addT _ _ (by simp; omega), List.map_append]; rfl
      · intro h m; rcases List.mem_append.mp m with m | m
        · exact h2 h m
        · have : h = (1 + r) := by simpa using m
          omega
      · intro h m; rcases List.mem_append.mp m with m | m
        · exact h3 h m
        · have : h = (1 + r) := by simpa using m
          omega
def lastSlot (x : Slot) (l : List Int) : Slot := l.foldl (fun _ h => .val (.int h)) x
theorem gcdLoop (a b c d f : Slot) (hs : List Int) (x : Slot) (S : List D) :
    forL (.nm 5) (sSet 6 (eCall 2 m_law_gcd (aC (eV 6) (aC (eV 5) aN)))) (hs.map .int) [a, b, c, d, f, x, .val (.int 0), .non] S = some (.nx [a, b, c, d, f, lastSlot x hs, .val (.int (gcdL hs)), .non] S) := by
  have q := (forL_fold (p := .nm 5) (g := (sSet 6 (eCall 2 m_law_gcd (aC (eV 6) (aC (eV 5) aN))))) (D.int) (fun (s : Nat × Slot) => [a, b, c, d, f, s.2, .val (.int s.1), .non]) (fun s h => (Nat.gcd s.1 h.natAbs, .val (.int h))) S (fun _ => True)
    (fun s h _ => ⟨_, ev_bnm _ _, ?_, trivial⟩) hs (0, x) trivial).1
  · refine q.trans ?_
    have e : ∀ (l : List Int) (g : Nat) (y : Slot), l.foldl (fun (s : Nat × Slot) h => (Nat.gcd s.1 h.natAbs, Slot.val (.int h))) (g, y) = (l.foldl (fun g h => Nat.gcd g h.natAbs) g, lastSlot y l) := by
      intro l
      induction l with
      | nil => intro g y; rfl
      | cons z l ih => intro g y; rw [List.foldl_cons, ih]; rfl
    rw [e]
    rfl
  · rw [ev_put1, ev_put0]
    refine set_s (call_s (ds := [.int s.1, .int h]) (S' := S) rfl rfl ?_)
    rw [m_law_gcd_eq]
    rfl
theorem divComp (a b c d f x y g : Slot) (hs : List Int) (n : Int) (S : List D) (hn : 0 < n) (hw : wide n = true) :
    compL (.nm 5) cYes (eBin dDiv (eB 5) (eB 6)) [a, b, c, d, f, .non, .val (.int n), g] (hs.map .int) S = some ((hs.map (· / n)).map .int, S) := by
  rw [List.map_map]
  refine compL_map D.int _ hs fun h _ => ⟨_, ev_bnm _ _, ?_⟩
  rw [ev_put1, ev_put0]
  exact bin_s (S' := S) rfl rfl (dv_div _ _ hn hw)
def loCut (n : Nat) (s : PySem.Str) : PySem.Str := L2.cutS s none (some (n : Int))
theorem slS (n : Nat) (s : PySem.Str) (h : s.length ≤ 16777216) : slD none (some (n : Int)) (.str s) = some (.str (loCut n s)) := by
  show (if s.length ≤ 16777216 then some (D.str (L2.cutS s none (some (n : Int)))) else none) = _
  rw [if_pos h]
  rfl
theorem cuts (n : Nat) (h : n = 2 ∨ n = 3 ∨ n = 4) (s : PySem.Str) (hs : s ∈ (["aaab", "aabb", "aabc", "abcd", "abab"] : List PySem.Str)) : loCut n s ∈ looksOf n := by
  have key : ∀ n ∈ [2, 3, 4], ∀ s ∈ (["aaab", "aabb", "aabc", "abcd", "abab"] : List PySem.Str), loCut n s ∈ looksOf n := by decide +kernel
  exact key n (by simp; exact h) s hs
theorem cutA (n : Nat) (h : n = 2 ∨ n = 3) : loCut n "aaa" ∈ looksOf n := by
  have key : ∀ n ∈ [2, 3], loCut n "aaa" ∈ looksOf n := by decide +kernel
  exact key n (by simp; exact h)
theorem len5 (s : PySem.Str) (hs : s ∈ (["aaab", "aabb", "aabc", "abcd", "abab"] : List PySem.Str)) : s.length ≤ 16777216 := by
  have key : ∀ s ∈ (["aaab", "aabb", "aabc", "abcd", "abab"] : List PySem.Str), s.length ≤ 4 := by decide +kernel
  have := key s hs
  omega
theorem fr_den (t b : Int) (hb : 0 < b) : ((fr ((t : Rat) / (b : Rat))).den : Int) ≤ b := by
  have h := part_q t b hb
  unfold dR at h
  injection h with h
  injection h with h1 h2
  injection h2 with h2 _
  injection h2 with h2
  rw [← h2]
  exact Int.ediv_le_self _ (Int.le_of_lt hb)
structure GoodTime (q : Rat) : Prop where
  lo : 0 ≤ q
  hi : q < 1
  den : (q.den : Int) ≤ 1000000
theorem num_mul (q : Rat) (k : Int) : ((q.num * k : Int) : Rat) / (q.den : Int) = q * (k : Rat) := by
  rw [Rat.intCast_mul]
  have := num_div_den q
  have e : ((q.den : Int) : Rat) = (q.den : Rat) := Rat.intCast_natCast _
  rw [e]
  grind
theorem m_turned_eq (q : Rat) (k : Int) (S : List D) (hq : wide q.den = true) (hs : (small q.num || small k || (wide q.num && wide k)) = true) : m_turned [dR q, .int k] S = some (dR (fr (q * k)), S) := by
  have h := m_part_eq (q.num * k) q.den S (den_pos q) hq
  rw [num_mul] at h
  unfold m_turned g_turned dR
  simp only [ev_C, ev_V, ev_B, ev_aN, ev_aC, ev_Tup, ev_Lst, ev_Bin, ev_Un, ev_UnF, ev_cV, ev_cAnd, ev_cOr, ev_cNot, ev_cYes, ev_And, ev_Or, ev_Not, ev_If, ev_Chain, ev_Call, ev_Ix, ev_Sl, ev_oN, ev_oE, ev_aS, ev_Comp, ev_iAny, ev_iRange1, ev_iRange2, ev_iZip, ev_iEnum, ev_sNil, ev_sSeq, ev_sIf, ev_sRet, ev_sRetO, ev_sRetN, ev_sAsg, ev_sSet, ev_sSetO, ev_sPar, ev_sFor, ev_sWhile, ev_sApp, ev_sIxO, ev_sIxC, ev_sFrz, ev_sExp, ev_sPass, ev_runB, ev_forN, ev_compN, ev_put0, ev_put1, ev_wipe0, ev_wipe1, ev_bnm, ev_btup, ev_bL0, ev_bL1, dv_add, dv_sub, dv_neg, dv_lt, dv_le, dv_gt, dv_ge, dv_int, dv_abs, dv_lenL, dv_lenT, dv_tupL, dv_tupT, dv_lofL, dv_lofT, dv_lofS, dv_seqL, dv_seqT, dv_ixL, dv_ixT, dv_ixO, atI_0, atI_1, atI_2, Option.bind_some, Option.bind_none, List.getElem?_cons_zero, List.getElem?_cons_succ, List.getElem?_nil, List.set_cons_zero, List.set_cons_succ, List.set_nil, List.length_cons, List.length_nil, List.map_cons, List.map_nil, List.replicate_succ, List.replicate_zero, List.cons_append, List.nil_append, Nat.reduceAdd, Nat.reduceSub, Nat.reduceLeDiff, Nat.zero_add, Nat.sub_zero, Nat.add_zero, if_true, if_false, Bool.false_eq_true, Nat.reduceEqDiff, Bool.not_true, Bool.not_false, decide_true, decide_false, ev_nat, dv_mul _ _ hs, h]
  rfl
def dial (hands : List Int) (q : Rat) : List D := hands.map fun (h : Int) => dR (fr (q * (h : Rat)))
theorem lk_dial (hands : List Int) (q : Rat) (hl : hands.length ≤ 16777216) : lkD 7 (.tup (dial hands q)) = true := by
  have a : lkL 6 (dial hands q) = true := lkL_of fun x hx => by
    obtain ⟨h, _, rfl⟩ := List.mem_map.mp hx
    simp [dR, lkD, lkL]
  have b : (dial hands q).length ≤ 16777216 := by unfold dial; rw [List.length_map]; exact hl
  simp only [lkD, a, decide_eq_true b, Bool.and_self]
end K
namespace K
open DL
open L2 (atI ixN)
structure P (n : Nat) (q : Rat) : Prop where
  lo : 0 ≤ q
  hi : q < 1
  den : q.den < 2 ^ n
theorem P.mono {n m : Nat} {q : Rat} (h : P n q) (k : n ≤ m) : P m q := ⟨h.lo, h.hi, Nat.lt_of_lt_of_le h.den (Nat.pow_le_pow_right (by decide) k)⟩
theorem P.fr {n : Nat} {q : Rat} (h : P n q) : fr q = q := fr_self h.lo h.hi
theorem wide_pow {n : Nat} (hn : n ≤ 8000) {k : Int} (h : k.natAbs < 2 ^ n) : wide k = true := decide_eq_true (Nat.lt_of_lt_of_le h (Nat.pow_le_pow_right (by decide) hn))
theorem P.wden {n : Nat} {q : Rat} (h : P n q) (hn : n ≤ 8000) : wide q.den = true := wide_pow hn (by rw [Int.natAbs_natCast]; exact h.den)
theorem P.num {n : Nat} {q : Rat} (h : P n q) : 0 ≤ q.num ∧ q.num < q.den := by
  refine ⟨Rat.num_nonneg.mpr h.lo, ?_⟩
  have h1 := h.hi
  rw [← num_div_den q, Rat.div_lt_iff (by
    have := int_pos_rat (den_pos q)
    rw [Rat.intCast_natCast] at this
    exact this), Rat.one_mul, ← Rat.intCast_natCast, Rat.intCast_lt_intCast] at h1
  exact h1
theorem P.wnum {n : Nat} {q : Rat} (h : P n q) (hn : n ≤ 8000) : wide q.num = true := by
  have a := h.num
  have b := h.den
  exact wide_pow hn (by omega)
theorem P.snum {n : Nat} {q : Rat} (h : P n q) (hn : n ≤ 64) : small q.num = true := by
  have a := h.num
  have b := h.den
  have c : 2 ^ n ≤ 2 ^ 64 := Nat.pow_le_pow_right (by decide) hn
  exact decide_eq_true (by show q.num.natAbs < 2 ^ 64; omega)
theorem P_fr {n : Nat} {t b : Int} (hb : 0 < b) (h : b.natAbs < 2 ^ n) : P n (fr ((t : Rat) / (b : Rat))) := by
  refine ⟨fr_nonneg _, fr_lt _, ?_⟩
  have := fr_den t b hb
  omega
theorem num_add (q r : Rat) : ((q.num * r.den + r.num * q.den : Int) : Rat) / ((q.den * r.den : Int) : Rat) = q + r := by
  have e1 := num_div_den q
  have e2 := num_div_den r
  have h1 := ne_of_pos_rat (int_pos_rat (den_pos q))
  have h2 := ne_of_pos_rat (int_pos_rat (den_pos r))
  rw [Rat.intCast_natCast] at h1 h2
  rw [Rat.intCast_add, Rat.intCast_mul, Rat.intCast_mul, Rat.intCast_mul, Rat.intCast_natCast, Rat.intCast_natCast]
  rw [frac_add h1 h2, e1, e2]
theorem P.mul {n : Nat} {q : Rat} (h : P n q) (k : Int) : P n (K.fr (q * k)) := by
  have e := num_mul q k
  rw [← e]
  exact P_fr (den_pos q) (by rw [Int.natAbs_natCast]; exact h.den)
theorem P.add {n m : Nat} {q r : Rat} (h : P n q) (h' : P m r) : P (n + m) (K.fr (q + r)) := by
  rw [← num_add q r]
  refine P_fr (Int.mul_pos (den_pos q) (den_pos r)) ?_
  rw [Int.natAbs_mul, Int.natAbs_natCast, Int.natAbs_natCast, Nat.pow_add]
  exact Nat.mul_lt_mul'' h.den h'.den
theorem P.zero : P 1 0 := ⟨by decide, by decide, by decide⟩
theorem dR_zero : dR 0 = .tup [.int 0, .int 1] := rfl
theorem m_turnedP {n : Nat} {q : Rat} {k : Int} (h : P n q) (hn : n ≤ 8000) (hk : (small k || wide k) = true) (S : List D) : m_turned [dR q, .int k] S = some (dR (K.fr (q * k)), S) := by
  refine m_turned_eq q k S (h.wden hn) ?_
  rw [h.wnum hn]
  revert hk
  cases small k <;> cases wide k <;> cases small q.num <;> decide
theorem m_turned64 {n : Nat} {q : Rat} {k : Int} (h : P n q) (hn : n ≤ 64) (S : List D) : m_turned [dR q, .int k] S = some (dR (K.fr (q * k)), S) := by
  refine m_turned_eq q k S (h.wden (by omega)) ?_
  rw [h.snum hn]
  rfl
theorem wide_den {n : Nat} {q : Rat} (h : P n q) (hn : n ≤ 8000) : (small q.num || small q.den || (wide q.num && wide q.den)) = true := by
  rw [h.wnum hn, h.wden hn]
  cases small q.num <;> cases small (q.den : Int) <;> rfl
theorem sum_small {n m : Nat} {q r : Rat} (h : P n q) (h' : P m r) (hn : n + m ≤ 8000) : (small q.num || small r.den || (wide q.num && wide r.den)) = true ∧ (small r.num || small q.den || (wide r.num && wide q.den)) = true ∧ (small q.den || small r.den || (wide q.den && wide r.den)) = true := by
  rw [h.wnum (by omega), h'.wden (by omega), h'.wnum (by omega), h.wden (by omega)]
  refine ⟨?_, ?_, ?_⟩
  · cases small q.num <;> cases small (r.den : Int) <;> rfl
  · cases small r.num <;> cases small (q.den : Int) <;> rfl
  · cases small (q.den : Int) <;> cases small (r.den : Int) <;> rfl
theorem m_togetherP {n m : Nat} {q r : Rat} (h : P n q) (h' : P m r) (hn : n + m ≤ 8000) (S : List D) : m_together [dR q, dR r] S = some (dR (K.fr (q + r)), S) := by
  obtain ⟨a, b, c⟩ := sum_small h h' hn
  have hw : wide ((q.den : Int) * (r.den : Int)) = true := wide_pow hn (by
    rw [Int.natAbs_mul, Int.natAbs_natCast, Int.natAbs_natCast, Nat.pow_add]
    exact Nat.mul_lt_mul'' h.den h'.den)
  have e := m_part_eq (q.num * r.den + r.num * q.den) (q.den * r.den) S (Int.mul_pos (den_pos q) (den_pos r)) hw
  rw [num_add] at e
  unfold m_together g_together dR
  simp only [ev_C, ev_V, ev_B, ev_aN, ev_aC, ev_Tup, ev_Lst, ev_Bin, ev_Un, ev_UnF, ev_cV, ev_cAnd, ev_cOr, ev_cNot, ev_cYes, ev_And, ev_Or, ev_Not, ev_If, ev_Chain, ev_Call, ev_Ix, ev_Sl, ev_oN, ev_oE, ev_aS, ev_Comp, ev_iAny, ev_iRange1, ev_iRange2, ev_iZip, ev_iEnum, ev_sNil, ev_sSeq, ev_sIf, ev_sRet, ev_sRetO, ev_sRetN, ev_sAsg, ev_sSet, ev_sSetO, ev_sPar, ev_sFor, ev_sWhile, ev_sApp, ev_sIxO, ev_sIxC, ev_sFrz, ev_sExp, ev_sPass, ev_runB, ev_forN, ev_compN, ev_put0, ev_put1, ev_wipe0, ev_wipe1, ev_bnm, ev_btup, ev_bL0, ev_bL1, dv_add, dv_sub, dv_neg, dv_lt, dv_le, dv_gt, dv_ge, dv_int, dv_abs, dv_lenL, dv_lenT, dv_tupL, dv_tupT, dv_lofL, dv_lofT, dv_lofS, dv_seqL, dv_seqT, dv_ixL, dv_ixT, dv_ixO, atI_0, atI_1, atI_2, Option.bind_some, Option.bind_none, List.getElem?_cons_zero, List.getElem?_cons_succ, List.getElem?_nil, List.set_cons_zero, List.set_cons_succ, List.set_nil, List.length_cons, List.length_nil, List.map_cons, List.map_nil, List.replicate_succ, List.replicate_zero, List.cons_append, List.nil_append, Nat.reduceAdd, Nat.reduceSub, Nat.reduceLeDiff, Nat.zero_add, Nat.sub_zero, Nat.add_zero, if_true, if_false, Bool.false_eq_true, Nat.reduceEqDiff, Bool.not_true, Bool.not_false, decide_true, decide_false, ev_nat, dv_mul _ _ a, dv_mul _ _ b, dv_mul _ _ c, e]
  rfl
theorem m_law_sumP {n m : Nat} {q r : Rat} (h : P n q) (h' : P m r) (hn : n + m ≤ 8000) (S : List D) : m_law_sum [dR q, dR r] S = some (dR (K.fr (q + r)), S) := by
  obtain ⟨a, b, c⟩ := sum_small h h' hn
  have hw : wide ((q.den : Int) * (r.den : Int)) = true := wide_pow hn (by
    rw [Int.natAbs_mul, Int.natAbs_natCast, Int.natAbs_natCast, Nat.pow_add]
    exact Nat.mul_lt_mul'' h.den h'.den)
  have e := m_law_part_eq (q.num * r.den + r.num * q.den) (q.den * r.den) S (Int.mul_pos (den_pos q) (den_pos r)) hw
  rw [num_add] at e
  unfold m_law_sum g_law_sum dR
  simp only [ev_C, ev_V, ev_B, ev_aN, ev_aC, ev_Tup, ev_Lst, ev_Bin, ev_Un, ev_UnF, ev_cV, ev_cAnd, ev_cOr, ev_cNot, ev_cYes, ev_And, ev_Or, ev_Not, ev_If, ev_Chain, ev_Call, ev_Ix, ev_Sl, ev_oN, ev_oE, ev_aS, ev_Comp, ev_iAny, ev_iRange1, ev_iRange2, ev_iZip, ev_iEnum, ev_sNil, ev_sSeq, ev_sIf, ev_sRet, ev_sRetO, ev_sRetN, ev_sAsg, ev_sSet, ev_sSetO, ev_sPar, ev_sFor, ev_sWhile, ev_sApp, ev_sIxO, ev_sIxC, ev_sFrz, ev_sExp, ev_sPass, ev_runB, ev_forN, ev_compN, ev_put0, ev_put1, ev_wipe0, ev_wipe1, ev_bnm, ev_btup, ev_bL0, ev_bL1, dv_add, dv_sub, dv_neg, dv_lt, dv_le, dv_gt, dv_ge, dv_int, dv_abs, dv_lenL, dv_lenT, dv_tupL, dv_tupT, dv_lofL, dv_lofT, dv_lofS, dv_seqL, dv_seqT, dv_ixL, dv_ixT, dv_ixO, atI_0, atI_1, atI_2, Option.bind_some, Option.bind_none, List.getElem?_cons_zero, List.getElem?_cons_succ, List.getElem?_nil, List.set_cons_zero, List.set_cons_succ, List.set_nil, List.length_cons, List.length_nil, List.map_cons, List.map_nil, List.replicate_succ, List.replicate_zero, List.cons_append, List.nil_append, Nat.reduceAdd, Nat.reduceSub, Nat.reduceLeDiff, Nat.zero_add, Nat.sub_zero, Nat.add_zero, if_true, if_false, Bool.false_eq_true, Nat.reduceEqDiff, Bool.not_true, Bool.not_false, decide_true, decide_false, ev_nat, dv_mul _ _ a, dv_mul _ _ b, dv_mul _ _ c, e]
  rfl
theorem m_law_sum_stp {n : Nat} {q : Rat} (h : P n q) (hn : n ≤ 7990) (s m : Nat) (hs : s < m) (hm : m ≤ 6) (S : List D) : m_law_sum [dR q, .tup [.int s, .int m]] S = some (dR (K.fr (q + stp m s)), S) := by
  have sm : small (m : Int) = true := decide_eq_true (by omega)
  have ss : small (s : Int) = true := decide_eq_true (by omega)
  have hw : wide ((q.den : Int) * (m : Int)) = true := wide_pow (n := n + 3) (by omega) (by
    rw [Int.natAbs_mul, Int.natAbs_natCast, Int.natAbs_natCast, Nat.pow_add]
    exact Nat.mul_lt_mul'' h.den (show m < 8 by omega))
  have e := m_law_part_eq (q.num * m + s * q.den) (q.den * m) S (Int.mul_pos (den_pos q) (by omega)) hw
  have e2 : ((q.num * m + s * q.den : Int) : Rat) / ((q.den * m : Int) : Rat) = q + stp m s := by
    have h1 := ne_of_pos_rat (int_pos_rat (den_pos q))
    have h2 : (m : Rat) ≠ 0 := ne_of_pos_rat (by have := int_pos_rat (show (0 : Int) < m by omega); rw [Rat.intCast_natCast] at this; exact this)
    rw [Rat.intCast_natCast] at h1
    have e1 := num_div_den q
    unfold stp
    rw [Rat.intCast_add, Rat.intCast_mul, Rat.intCast_mul, Rat.intCast_mul, Rat.intCast_natCast, Rat.intCast_natCast, Rat.intCast_natCast]
    rw [frac_add h1 h2, e1]
  rw [e2] at e
  have a : (small q.num || small (m : Int) || (wide q.num && wide (m : Int))) = true := by rw [sm]; cases small q.num <;> rfl
  have b : (small (s : Int) || small (q.den : Int) || (wide (s : Int) && wide (q.den : Int))) = true := by rw [ss]; rfl
  have c : (small (q.den : Int) || small (m : Int) || (wide (q.den : Int) && wide (m : Int))) = true := by rw [sm]; cases small (q.den : Int) <;> rfl
  unfold m_law_sum g_law_sum
  unfold dR
  simp only [ev_C, ev_V, ev_B, ev_aN, ev_aC, ev_Tup, ev_Lst, ev_Bin, ev_Un, ev_UnF, ev_cV, ev_cAnd, ev_cOr, ev_cNot, ev_cYes, ev_And, ev_Or, ev_Not, ev_If, ev_Chain, ev_Call, ev_Ix, ev_Sl, ev_oN, ev_oE, ev_aS, ev_Comp, ev_iAny, ev_iRange1, ev_iRange2, ev_iZip, ev_iEnum, ev_sNil, ev_sSeq, ev_sIf, ev_sRet, ev_sRetO, ev_sRetN, ev_sAsg, ev_sSet, ev_sSetO, ev_sPar, ev_sFor, ev_sWhile, ev_sApp, ev_sIxO, ev_sIxC, ev_sFrz, ev_sExp, ev_sPass, ev_runB, ev_forN, ev_compN, ev_put0, ev_put1, ev_wipe0, ev_wipe1, ev_bnm, ev_btup, ev_bL0, ev_bL1, dv_add, dv_sub, dv_neg, dv_lt, dv_le, dv_gt, dv_ge, dv_int, dv_abs, dv_lenL, dv_lenT, dv_tupL, dv_tupT, dv_lofL, dv_lofT, dv_lofS, dv_seqL, dv_seqT, dv_ixL, dv_ixT, dv_ixO, atI_0, atI_1, atI_2, Option.bind_some, Option.bind_none, List.getElem?_cons_zero, List.getElem?_cons_succ, List.getElem?_nil, List.set_cons_zero, List.set_cons_succ, List.set_nil, List.length_cons, List.length_nil, List.map_cons, List.map_nil, List.replicate_succ, List.replicate_zero, List.cons_append, List.nil_append, Nat.reduceAdd, Nat.reduceSub, Nat.reduceLeDiff, Nat.zero_add, Nat.sub_zero, Nat.add_zero, if_true, if_false, Bool.false_eq_true, Nat.reduceEqDiff, Bool.not_true, Bool.not_false, decide_true, decide_false, ev_nat, dv_mul _ _ a, dv_mul _ _ b, dv_mul _ _ c, e]
  rfl
theorem stp_P (m s : Nat) (hs : s < m) (hm : m ≤ 6) : P 3 (K.fr (stp m s)) := by
  unfold stp
  have e : ((s : Nat) : Rat) / ((m : Nat) : Rat) = ((s : Int) : Rat) / ((m : Int) : Rat) := by rw [Rat.intCast_natCast, Rat.intCast_natCast]
  rw [e]
  exact P_fr (by omega) (by show ((m : Int)).natAbs < 8; omega)
theorem m_part_stp (m s : Nat) (hs : s < m) (hm : m ≤ 6) (S : List D) : m_part [.int s, .int m] S = some (dR (K.fr (stp m s)), S) := by
  have e := m_part_eq s m S (by omega) (wide_sm (by omega))
  have e2 : ((s : Int) : Rat) / ((m : Int) : Rat) = stp m s := by unfold stp; rw [Rat.intCast_natCast, Rat.intCast_natCast]
  rw [e2] at e
  exact e
def T3 (a b c : Int) : D := .tup [.int a, .int b, .int c]
theorem dv_neI (a b : Int) : dNe (.int a) (.int b) = some (.bl (!decide (a = b))) := by
  unfold dNe
  simp only [okD, Bool.and_self, if_true, eqD]
  rw [Bool.beq_eq_decide_eq]
theorem wide_nat {n : Nat} {X : Nat} (hX : X < 2 ^ 8000) (h : n ≤ X) : wide (n : Int) = true := wide_pow (n := 8000) (Nat.le_refl _) (by rw [Int.natAbs_natCast]; omega)
theorem wide_abs {n : Int} {X : Nat} (hX : X < 2 ^ 8000) (h : n.natAbs ≤ X) : wide n = true := wide_pow (n := 8000) (Nat.le_refl _) (Nat.lt_of_le_of_lt h hX)
theorem both_w {a b : Int} (h : wide a = true) (h' : wide b = true) : (small a || small b || (wide a && wide b)) = true := by
  rw [h, h']; cases small a <;> cases small b <;> rfl
theorem bez_step {x0 x1 : Int} {r0 r1 X : Nat} (h : x1.natAbs * r0 + x0.natAbs * r1 ≤ X) (hr : 0 < r1) : (x0 - (r0 / r1 : Nat) * x1).natAbs * r1 + x1.natAbs * (r0 % r1) ≤ X ∧ (x0 - (r0 / r1 : Nat) * x1).natAbs ≤ X := by
  have a : (x0 - (r0 / r1 : Nat) * x1).natAbs ≤ x0.natAbs + (r0 / r1) * x1.natAbs := by
    have := Int.natAbs_sub_le x0 ((r0 / r1 : Nat) * x1)
    rw [Int.natAbs_mul, Int.natAbs_natCast] at this
    exact this
  have b : (x0 - (r0 / r1 : Nat) * x1).natAbs * r1 + x1.natAbs * (r0 % r1) ≤ X := by
    have c := Nat.mul_le_mul_right r1 a
    have d := Nat.div_add_mod r0 r1
    have e : x1.natAbs * r0 = (r0 / r1) * x1.natAbs * r1 + x1.natAbs * (r0 % r1) := by
      conv => lhs; rw [← d]
      rw [Nat.mul_add, ← Nat.mul_assoc, Nat.mul_right_comm, Nat.mul_comm x1.natAbs (r0 / r1)]
    rw [Nat.add_mul] at c
    omega
  refine ⟨b, ?_⟩
  have : (x0 - (r0 / r1 : Nat) * x1).natAbs * 1 ≤ (x0 - (r0 / r1 : Nat) * x1).natAbs * r1 := Nat.mul_le_mul_left _ hr
  omega
theorem fac_comp (a0 a1 a2 b0 b1 b2 q : Int) (s0 s1 s2 s3 : Slot) (S : List D) (h0 : (small q || small b0 || (wide q && wide b0)) = true) (h1 : (small q || small b1 || (wide q && wide b1)) = true) (h2 : (small q || small b2 || (wide q && wide b2)) = true) :
    compL (.tup [(.nm 5), (.nm 6)]) cYes (eBin dSub (eB 5) (eBin dMul (eB 4) (eB 6))) [s0, s1, s2, s3, .val (.int q), .non, .non] (zipD [.int a0, .int a1, .int a2] [.int b0, .int b1, .int b2]) S = some ([.int (a0 - q * b0), .int (a1 - q * b1), .int (a2 - q * b2)], S) := by
  simp only [zipD, ev_compC, ev_C, ev_V, ev_B, ev_aN, ev_aC, ev_Tup, ev_Lst, ev_Bin, ev_Un, ev_UnF, ev_cV, ev_cAnd, ev_cOr, ev_cNot, ev_cYes, ev_And, ev_Or, ev_Not, ev_If, ev_Chain, ev_Call, ev_Ix, ev_Sl, ev_oN, ev_oE, ev_aS, ev_Comp, ev_iAny, ev_iRange1, ev_iRange2, ev_iZip, ev_iEnum, ev_sNil, ev_sSeq, ev_sIf, ev_sRet, ev_sRetO, ev_sRetN, ev_sAsg, ev_sSet, ev_sSetO, ev_sPar, ev_sFor, ev_sWhile, ev_sApp, ev_sIxO, ev_sIxC, ev_sFrz, ev_sExp, ev_sPass, ev_runB, ev_forN, ev_compN, ev_put0, ev_put1, ev_wipe0, ev_wipe1, ev_bnm, ev_btup, ev_bL0, ev_bL1, dv_add, dv_sub, dv_neg, dv_lt, dv_le, dv_gt, dv_ge, dv_int, dv_abs, dv_lenL, dv_lenT, dv_tupL, dv_tupT, dv_lofL, dv_lofT, dv_lofS, dv_seqL, dv_seqT, dv_ixL, dv_ixT, dv_ixO, atI_0, atI_1, atI_2, Option.bind_some, Option.bind_none, List.getElem?_cons_zero, List.getElem?_cons_succ, List.getElem?_nil, List.set_cons_zero, List.set_cons_succ, List.set_nil, List.length_cons, List.length_nil, List.map_cons, List.map_nil, List.replicate_succ, List.replicate_zero, List.cons_append, List.nil_append, Nat.reduceAdd, Nat.reduceSub, Nat.reduceLeDiff, Nat.zero_add, Nat.sub_zero, Nat.add_zero, if_true, if_false, Bool.false_eq_true, Nat.reduceEqDiff, Bool.not_true, Bool.not_false, decide_true, decide_false, ev_nat, dv_mul _ _ h0, dv_mul _ _ h1, dv_mul _ _ h2]
theorem fac_loop (a b : Int) (W X Y : Nat) (hW : W < 2 ^ 8000) (hX : X < 2 ^ 8000) (hY : Y < 2 ^ 8000) (s0 s1 : Slot) (S : List D) : ∀ (n r0 r1 : Nat) (x0 y0 x1 y1 : Int) (s4 : Slot), r1 < n → r0 ≤ W → r1 ≤ W → x0.natAbs ≤ X → y0.natAbs ≤ Y → x1.natAbs ≤ X → y1.natAbs ≤ Y →
    x1.natAbs * r0 + x0.natAbs * r1 ≤ X → y1.natAbs * r0 + y0.natAbs * r1 ≤ Y → x0 * a + y0 * b = r0 → x1 * a + y1 * b = r1 →
    ∃ x y x' y' s4', whileN (cV (eBin dNe (eIx (eB 3) (eC (.int 0))) (eC (.int 0)))) (sSeq (sSet 4 (eBin dDiv (eIx (eB 2) (eC (.int 0))) (eIx (eB 3) (eC (.int 0))))) (sPar 2 3 (eV 3) (eUn dTup (eComp (.tup [(.nm 5), (.nm 6)]) (iZip (aC (eV 2) (aC (eV 3) aN))) cYes (eBin dSub (eB 5) (eBin dMul (eB 4) (eB 6))) [5, 6])))) n
      [s0, s1, .val (T3 r0 x0 y0), .val (T3 r1 x1 y1), s4, .non, .non] S = some (.nx [s0, s1, .val (T3 (Nat.gcd r1 r0 : Nat) x y), .val (T3 0 x' y'), s4', .non, .non] S) ∧ x * a + y * b = (Nat.gcd r1 r0 : Nat) ∧ x.natAbs ≤ X ∧ y.natAbs ≤ Y := by
  intro n
  induction n with
  | zero => intro _ r1 _ _ _ _ _ h; omega
  | succ n ih =>
    intro r0 r1 x0 y0 x1 y1 s4 hn hr0 hr1 hx0 hy0 hx1 hy1 hX1 hY1 e0 e1
    rw [ev_while]
    by_cases h : r1 = 0
    · subst h
      have z : ((0 : Nat) : Int) = 0 := rfl
      refine ⟨x0, y0, x1, y1, s4, ?_, by rw [Nat.gcd_zero_left]; exact e0, hx0, hy0⟩
      simp only [T3, ev_C, ev_V, ev_B, ev_aN, ev_aC, ev_Tup, ev_Lst, ev_Bin, ev_Un, ev_UnF, ev_cV, ev_cAnd, ev_cOr, ev_cNot, ev_cYes, ev_And, ev_Or, ev_Not, ev_If, ev_Chain, ev_Call, ev_Ix, ev_Sl, ev_oN, ev_oE, ev_aS, ev_Comp, ev_iAny, ev_iRange1, ev_iRange2, ev_iZip, ev_iEnum, ev_sNil, ev_sSeq, ev_sIf, ev_sRet, ev_sRetO, ev_sRetN, ev_sAsg, ev_sSet, ev_sSetO, ev_sPar, ev_sFor, ev_sWhile, ev_sApp, ev_sIxO, ev_sIxC, ev_sFrz, ev_sExp, ev_sPass, ev_runB, ev_forN, ev_compN, ev_put0, ev_put1, ev_wipe0, ev_wipe1, ev_bnm, ev_btup, ev_bL0, ev_bL1, dv_add, dv_sub, dv_neg, dv_lt, dv_le, dv_gt, dv_ge, dv_int, dv_abs, dv_lenL, dv_lenT, dv_tupL, dv_tupT, dv_lofL, dv_lofT, dv_lofS, dv_seqL, dv_seqT, dv_ixL, dv_ixT, dv_ixO, atI_0, atI_1, atI_2, Option.bind_some, Option.bind_none, List.getElem?_cons_zero, List.getElem?_cons_succ, List.getElem?_nil, List.set_cons_zero, List.set_cons_succ, List.set_nil, List.length_cons, List.length_nil, List.map_cons, List.map_nil, List.replicate_succ, List.replicate_zero, List.cons_append, List.nil_append, Nat.reduceAdd, Nat.reduceSub, Nat.reduceLeDiff, Nat.zero_add, Nat.sub_zero, Nat.add_zero, if_true, if_false, Bool.false_eq_true, Nat.reduceEqDiff, Bool.not_true, Bool.not_false, decide_true, decide_false, ev_nat, dv_neI, z]
      rw [Nat.gcd_zero_left]
    · have hp : 0 < r1 := Nat.pos_of_ne_zero h
      have hpi : (0 : Int) < (r1 : Int) := by omega
      have hne : ¬ (r1 : Int) = 0 := by omega
      have hlt := Nat.mod_lt r0 hp
      have hq : r0 / r1 ≤ W := Nat.le_trans (Nat.div_le_self _ _) hr0
      have wq := wide_nat hW hq
      obtain ⟨q1, q2⟩ := bez_step hX1 hp
      obtain ⟨q3, q4⟩ := bez_step hY1 hp
      have em : (r0 : Int) - ((r0 / r1 : Nat) : Int) * (r1 : Int) = ((r0 % r1 : Nat) : Int) := by
        have := Nat.div_add_mod r0 r1
        have h2 : ((r1 * (r0 / r1) + r0 % r1 : Nat) : Int) = (r0 : Int) := by rw [this]
        rw [Int.natCast_add, Int.natCast_mul] at h2
        have := Int.mul_comm (r1 : Int) ((r0 / r1 : Nat) : Int)
        omega
      have e2 : (x0 - ((r0 / r1 : Nat) : Int) * x1) * a + (y0 - ((r0 / r1 : Nat) : Int) * y1) * b = ((r0 % r1 : Nat) : Int) := by
        rw [← em, ← e0, ← e1]
        grind
      obtain ⟨x, y, x', y', s4', k1, k2, k3, k4⟩ := ih r1 (r0 % r1) x1 y1 (x0 - ((r0 / r1 : Nat) : Int) * x1) (y0 - ((r0 / r1 : Nat) : Int) * y1) (.val (.int ((r0 / r1 : Nat) : Int))) (by omega) hr1 (by omega) hx1 hy1 q2 q4 q1 q3 e1 e2
      have eg : Nat.gcd (r0 % r1) r1 = Nat.gcd r1 r0 := (Nat.gcd_rec r1 r0).symm
      rw [eg] at k1 k2
      refine ⟨x, y, x', y', s4', ?_, k2, k3, k4⟩
      have ec := fac_comp r0 x0 y0 r1 x1 y1 ((r0 / r1 : Nat) : Int) s0 s1 (.val (T3 r0 x0 y0)) (.val (T3 r1 x1 y1)) S (both_w wq (wide_nat hW hr1)) (both_w wq (wide_abs hX hx1)) (both_w wq (wide_abs hY hy1))
      rw [em] at ec
      have hd : dDiv (.int (r0 : Int)) (.int (r1 : Int)) = some (.int ((r0 / r1 : Nat) : Int)) := by rw [dv_div _ _ hpi (wide_nat hW hr1), Int.natCast_ediv]
      unfold T3 at ec k1 ⊢
      simp only [ev_C, ev_V, ev_B, ev_aN, ev_aC, ev_Tup, ev_Lst, ev_Bin, ev_Un, ev_UnF, ev_cV, ev_cAnd, ev_cOr, ev_cNot, ev_cYes, ev_And, ev_Or, ev_Not, ev_If, ev_Chain, ev_Call, ev_Ix, ev_Sl, ev_oN, ev_oE, ev_aS, ev_Comp, ev_iAny, ev_iRange1, ev_iRange2, ev_iZip, ev_iEnum, ev_sNil, ev_sSeq, ev_sIf, ev_sRet, ev_sRetO, ev_sRetN, ev_sAsg, ev_sSet, ev_sSetO, ev_sPar, ev_sFor, ev_sWhile, ev_sApp, ev_sIxO, ev_sIxC, ev_sFrz, ev_sExp, ev_sPass, ev_runB, ev_forN, ev_compN, ev_put0, ev_put1, ev_wipe0, ev_wipe1, ev_bnm, ev_btup, ev_bL0, ev_bL1, dv_add, dv_sub, dv_neg, dv_lt, dv_le, dv_gt, dv_ge, dv_int, dv_abs, dv_lenL, dv_lenT, dv_tupL, dv_tupT, dv_lofL, dv_lofT, dv_lofS, dv_seqL, dv_seqT, dv_ixL, dv_ixT, dv_ixO, atI_0, atI_1, atI_2, Option.bind_some, Option.bind_none, List.getElem?_cons_zero, List.getElem?_cons_succ, List.getElem?_nil, List.set_cons_zero, List.set_cons_succ, List.set_nil, List.length_cons, List.length_nil, List.map_cons, List.map_nil, List.replicate_succ, List.replicate_zero, List.cons_append, List.nil_append, Nat.reduceAdd, Nat.reduceSub, Nat.reduceLeDiff, Nat.zero_add, Nat.sub_zero, Nat.add_zero, if_true, if_false, Bool.false_eq_true, Nat.reduceEqDiff, Bool.not_true, Bool.not_false, decide_true, decide_false, ev_nat, dv_neI, decide_eq_false hne, hd, zipD_len, ec]
      exact k1
theorem m_factors_ex (a b : Nat) (W : Nat) (hW : W < 2 ^ 8000) (ha : a ≤ W) (hb : b ≤ W) (h1 : 1 ≤ W) (S : List D) : ∃ x y : Int, m_factors [.int a, .int b] S = some (.tup [.int x, .int y], S) ∧ x * a + y * b = (Nat.gcd a b : Nat) ∧ x.natAbs ≤ W ∧ y.natAbs ≤ W := by
  obtain ⟨x, y, x', y', s4', k1, k2, k3, k4⟩ := fac_loop a b W W W hW hW hW (.val (.int a)) (.val (.int b)) S (b + 1) a b 1 0 0 1 .non (by omega) ha hb (by simpa using h1) (by simp) (by simp) (by simpa using h1) (by simpa using hb) (by simpa using ha) (by omega) (by omega)
  rw [Nat.gcd_comm] at k1 k2
  refine ⟨x, y, ?_, k2, k3, k4⟩
  unfold m_factors g_factors
  unfold T3 at k1
  simp only [ev_C, ev_V, ev_B, ev_aN, ev_aC, ev_Tup, ev_Lst, ev_Bin, ev_Un, ev_UnF, ev_cV, ev_cAnd, ev_cOr, ev_cNot, ev_cYes, ev_And, ev_Or, ev_Not, ev_If, ev_Chain, ev_Call, ev_Ix, ev_Sl, ev_oN, ev_oE, ev_aS, ev_Comp, ev_iAny, ev_iRange1, ev_iRange2, ev_iZip, ev_iEnum, ev_sNil, ev_sSeq, ev_sIf, ev_sRet, ev_sRetO, ev_sRetN, ev_sAsg, ev_sSet, ev_sSetO, ev_sPar, ev_sFor, ev_sWhile, ev_sApp, ev_sIxO, ev_sIxC, ev_sFrz, ev_sExp, ev_sPass, ev_runB, ev_forN, ev_compN, ev_put0, ev_put1, ev_wipe0, ev_wipe1, ev_bnm, ev_btup, ev_bL0, ev_bL1, dv_add, dv_sub, dv_neg, dv_lt, dv_le, dv_gt, dv_ge, dv_int, dv_abs, dv_lenL, dv_lenT, dv_tupL, dv_tupT, dv_lofL, dv_lofT, dv_lofS, dv_seqL, dv_seqT, dv_ixL, dv_ixT, dv_ixO, atI_0, atI_1, atI_2, Option.bind_some, Option.bind_none, List.getElem?_cons_zero, List.getElem?_cons_succ, List.getElem?_nil, List.set_cons_zero, List.set_cons_succ, List.set_nil, List.length_cons, List.length_nil, List.map_cons, List.map_nil, List.replicate_succ, List.replicate_zero, List.cons_append, List.nil_append, Nat.reduceAdd, Nat.reduceSub, Nat.reduceLeDiff, Nat.zero_add, Nat.sub_zero, Nat.add_zero, if_true, if_false, Bool.false_eq_true, Nat.reduceEqDiff, Bool.not_true, Bool.not_false, decide_true, decide_false, ev_nat, ev_natFst, Int.natAbs_natCast, k1]
def rowD (r : Nat × Rat) : D := .tup [.int (r.1 : Int), dR r.2]
def roD : Option (Nat × Rat) → D
  | none => .non
  | some r => rowD r
def hasR (r : Nat × Rat) (t : Rat) : Prop := has (r.1 : Int) r.2 t
structure GR (b c : Nat) (r : Nat × Rat) : Prop where
  n : r.1 < 2 ^ b
  p : P c r.2
  z : r.1 = 0 → r.2 = 0
theorem GR.mono {b c b' c' : Nat} {r : Nat × Rat} (h : GR b c r) (hb : b ≤ b') (hc : c ≤ c') : GR b' c' r := ⟨Nat.lt_of_lt_of_le h.n (Nat.pow_le_pow_right (by decide) hb), h.p.mono hc, h.z⟩
structure Says (o : Option (Nat × Rat)) (b c : Nat) (φ : Rat → Prop) : Prop where
  yes : ∀ r, o = some r → GR b c r ∧ ∀ t, hasR r t ↔ φ t
  no : o = none → ∀ t, ¬ φ t
theorem Says.congr {o : Option (Nat × Rat)} {b c : Nat} {φ ψ : Rat → Prop} (h : Says o b c φ) (e : ∀ t, φ t ↔ ψ t) : Says o b c ψ := ⟨fun r q => ⟨(h.yes r q).1, fun t => ((h.yes r q).2 t).trans (e t)⟩, fun q t => fun w => h.no q t ((e t).mpr w)⟩
theorem Says.mono {o : Option (Nat × Rat)} {b c b' c' : Nat} {φ : Rat → Prop} (h : Says o b c φ) (hb : b ≤ b') (hc : c ≤ c') : Says o b' c' φ := ⟨fun r q => ⟨(h.yes r q).1.mono hb hc, (h.yes r q).2⟩, h.no⟩
theorem k_ALL_is : k_ALL = rowD (0, 0) := rfl
theorem hasR_all (t : Rat) : hasR (0, 0) t := (has_zero (p := 0) (t := t)).mpr (Eqv.refl 0)
theorem says_all {b c : Nat} : Says (some (0, 0)) b (c + 1) (fun _ => True) := ⟨fun r q => by cases q; exact ⟨⟨Nat.pow_pos (by decide), P.zero.mono (by omega), fun _ => rfl⟩, fun t => ⟨fun _ => trivial, fun _ => hasR_all t⟩⟩, fun q => nomatch q⟩
theorem dv_eqR (q r : Rat) : dEq (dR q) (dR r) = some (.bl (decide (q = r))) := by
  unfold dEq dR
  simp only [okD, okL, Bool.and_self, if_true, eqD, eqL]
  have : (q.num == r.num && ((q.den : Int) == (r.den : Int) && true)) = decide (q = r) := by
    rw [Bool.and_true]
    by_cases h : q = r
    · subst h; simp
    · rw [decide_eq_false h]
      by_cases h1 : q.num = r.num
      · by_cases h2 : q.den = r.den
        · exact absurd (Rat.ext h1 h2) h
        · have : ¬ (q.den : Int) = r.den := by omega
          rw [Bool.and_eq_false_iff]
          exact .inr (beq_eq_false_iff_ne.mpr this)
      · rw [Bool.and_eq_false_iff]
        exact .inl (by simpa using h1)
  rw [this]
theorem m_row_of_ex {b c : Nat} {h : Int} {p : Rat} (hh : h.natAbs < 2 ^ b) (hp : P c p) (hc : c ≤ 8000) (S : List D) : ∃ o, m_row_of [.int h, dR p] S = some (roD o, S) ∧ Says o b c (has h p) ∧ (h ≠ 0 → ∃ q, o = some (h.natAbs, q)) := by
  unfold m_row_of g_row_of
  by_cases h0 : h = 0
  · subst h0
    by_cases hp0 : p = 0
    · subst hp0
      refine ⟨some (0, 0), ?_, ⟨fun r q => ?_, fun q => nomatch q⟩, fun z => absurd rfl z⟩
      · have := dv_eqR 0 0
        rw [dR_zero] at this
        simp only [ev_C, ev_V, ev_B, ev_aN, ev_aC, ev_Tup, ev_Lst, ev_Bin, ev_Un, ev_UnF, ev_cV, ev_cAnd, ev_cOr, ev_cNot, ev_cYes, ev_And, ev_Or, ev_Not, ev_If, ev_Chain, ev_Call, ev_Ix, ev_Sl, ev_oN, ev_oE, ev_aS, ev_Comp, ev_iAny, ev_iRange1, ev_iRange2, ev_iZip, ev_iEnum, ev_sNil, ev_sSeq, ev_sIf, ev_sRet, ev_sRetO, ev_sRetN, ev_sAsg, ev_sSet, ev_sSetO, ev_sPar, ev_sFor, ev_sWhile, ev_sApp, ev_sIxO, ev_sIxC, ev_sFrz, ev_sExp, ev_sPass, ev_runB, ev_forN, ev_compN, ev_put0, ev_put1, ev_wipe0, ev_wipe1, ev_bnm, ev_btup, ev_bL0, ev_bL1, dv_add, dv_sub, dv_neg, dv_lt, dv_le, dv_gt, dv_ge, dv_int, dv_abs, dv_lenL, dv_lenT, dv_tupL, dv_tupT, dv_lofL, dv_lofT, dv_lofS, dv_seqL, dv_seqT, dv_ixL, dv_ixT, dv_ixO, atI_0, atI_1, atI_2, Option.bind_some, Option.bind_none, List.getElem?_cons_zero, List.getElem?_cons_succ, List.getElem?_nil, List.set_cons_zero, List.set_cons_succ, List.set_nil, List.length_cons, List.length_nil, List.map_cons, List.map_nil, List.replicate_succ, List.replicate_zero, List.cons_append, List.nil_append, Nat.reduceAdd, Nat.reduceSub, Nat.reduceLeDiff, Nat.zero_add, Nat.sub_zero, Nat.add_zero, if_true, if_false, Bool.false_eq_true, Nat.reduceEqDiff, Bool.not_true, Bool.not_false, decide_true, decide_false, ev_nat, dv_eqI, dR_zero, this]
        rfl
      · cases q
        exact ⟨⟨Nat.pow_pos (by decide), hp, fun _ => rfl⟩, fun t => Iff.rfl⟩
    · refine ⟨none, ?_, ⟨fun r q => (nomatch q), fun _ t w => hp0 ?_⟩, fun z => absurd rfl z⟩
      · have := dv_eqR p 0
        rw [dR_zero, decide_eq_false hp0] at this
        simp only [ev_C, ev_V, ev_B, ev_aN, ev_aC, ev_Tup, ev_Lst, ev_Bin, ev_Un, ev_UnF, ev_cV, ev_cAnd, ev_cOr, ev_cNot, ev_cYes, ev_And, ev_Or, ev_Not, ev_If, ev_Chain, ev_Call, ev_Ix, ev_Sl, ev_oN, ev_oE, ev_aS, ev_Comp, ev_iAny, ev_iRange1, ev_iRange2, ev_iZip, ev_iEnum, ev_sNil, ev_sSeq, ev_sIf, ev_sRet, ev_sRetO, ev_sRetN, ev_sAsg, ev_sSet, ev_sSetO, ev_sPar, ev_sFor, ev_sWhile, ev_sApp, ev_sIxO, ev_sIxC, ev_sFrz, ev_sExp, ev_sPass, ev_runB, ev_forN, ev_compN, ev_put0, ev_put1, ev_wipe0, ev_wipe1, ev_bnm, ev_btup, ev_bL0, ev_bL1, dv_add, dv_sub, dv_neg, dv_lt, dv_le, dv_gt, dv_ge, dv_int, dv_abs, dv_lenL, dv_lenT, dv_tupL, dv_tupT, dv_lofL, dv_lofT, dv_lofS, dv_seqL, dv_seqT, dv_ixL, dv_ixT, dv_ixO, atI_0, atI_1, atI_2, Option.bind_some, Option.bind_none, List.getElem?_cons_zero, List.getElem?_cons_succ, List.getElem?_nil, List.set_cons_zero, List.set_cons_succ, List.set_nil, List.length_cons, List.length_nil, List.map_cons, List.map_nil, List.replicate_succ, List.replicate_zero, List.cons_append, List.nil_append, Nat.reduceAdd, Nat.reduceSub, Nat.reduceLeDiff, Nat.zero_add, Nat.sub_zero, Nat.add_zero, if_true, if_false, Bool.false_eq_true, Nat.reduceEqDiff, Bool.not_true, Bool.not_false, decide_true, decide_false, ev_nat, dv_eqI, this]
        rfl
      · exact eqv_eq (has_zero.mp w) hp.lo hp.hi (by decide) (by decide)
  · by_cases hpos : 0 < h
    · refine ⟨some (h.natAbs, p), ?_, ⟨fun r q => ?_, fun q => nomatch q⟩, fun _ => ⟨p, rfl⟩⟩
      · have e : ((h.natAbs : Nat) : Int) = h := by omega
        simp only [ev_C, ev_V, ev_B, ev_aN, ev_aC, ev_Tup, ev_Lst, ev_Bin, ev_Un, ev_UnF, ev_cV, ev_cAnd, ev_cOr, ev_cNot, ev_cYes, ev_And, ev_Or, ev_Not, ev_If, ev_Chain, ev_Call, ev_Ix, ev_Sl, ev_oN, ev_oE, ev_aS, ev_Comp, ev_iAny, ev_iRange1, ev_iRange2, ev_iZip, ev_iEnum, ev_sNil, ev_sSeq, ev_sIf, ev_sRet, ev_sRetO, ev_sRetN, ev_sAsg, ev_sSet, ev_sSetO, ev_sPar, ev_sFor, ev_sWhile, ev_sApp, ev_sIxO, ev_sIxC, ev_sFrz, ev_sExp, ev_sPass, ev_runB, ev_forN, ev_compN, ev_put0, ev_put1, ev_wipe0, ev_wipe1, ev_bnm, ev_btup, ev_bL0, ev_bL1, dv_add, dv_sub, dv_neg, dv_lt, dv_le, dv_gt, dv_ge, dv_int, dv_abs, dv_lenL, dv_lenT, dv_tupL, dv_tupT, dv_lofL, dv_lofT, dv_lofS, dv_seqL, dv_seqT, dv_ixL, dv_ixT, dv_ixO, atI_0, atI_1, atI_2, Option.bind_some, Option.bind_none, List.getElem?_cons_zero, List.getElem?_cons_succ, List.getElem?_nil, List.set_cons_zero, List.set_cons_succ, List.set_nil, List.length_cons, List.length_nil, List.map_cons, List.map_nil, List.replicate_succ, List.replicate_zero, List.cons_append, List.nil_append, Nat.reduceAdd, Nat.reduceSub, Nat.reduceLeDiff, Nat.zero_add, Nat.sub_zero, Nat.add_zero, if_true, if_false, Bool.false_eq_true, Nat.reduceEqDiff, Bool.not_true, Bool.not_false, decide_true, decide_false, ev_nat, dv_eqI, decide_eq_false h0, decide_eq_true hpos, roD, rowD, e]
      · cases q
        have e : ((h.natAbs : Nat) : Int) = h := by omega
        refine ⟨⟨hh, hp, fun z => by have : h.natAbs = 0 := z; omega⟩, fun t => ?_⟩
        unfold hasR
        simp only [e]
    · have hneg : ¬ (0 : Int) < h := hpos
      have et := m_turnedP hp hc (k := -1) (by decide) S
      have e : ((h.natAbs : Nat) : Int) = -h := by omega
      refine ⟨some (h.natAbs, K.fr (p * ((-1 : Int) : Rat))), ?_, ⟨fun r q => ?_, fun q => nomatch q⟩, fun _ => ⟨_, rfl⟩⟩
      · have e1 : dNeg (.int 1) = some (.int (-1)) := rfl
        simp only [ev_C, ev_V, ev_B, ev_aN, ev_aC, ev_Tup, ev_Lst, ev_Bin, ev_Un, ev_UnF, ev_cV, ev_cAnd, ev_cOr, ev_cNot, ev_cYes, ev_And, ev_Or, ev_Not, ev_If, ev_Chain, ev_Call, ev_Ix, ev_Sl, ev_oN, ev_oE, ev_aS, ev_Comp, ev_iAny, ev_iRange1, ev_iRange2, ev_iZip, ev_iEnum, ev_sNil, ev_sSeq, ev_sIf, ev_sRet, ev_sRetO, ev_sRetN, ev_sAsg, ev_sSet, ev_sSetO, ev_sPar, ev_sFor, ev_sWhile, ev_sApp, ev_sIxO, ev_sIxC, ev_sFrz, ev_sExp, ev_sPass, ev_runB, ev_forN, ev_compN, ev_put0, ev_put1, ev_wipe0, ev_wipe1, ev_bnm, ev_btup, ev_bL0, ev_bL1, dv_add, dv_sub, dv_neg, dv_lt, dv_le, dv_gt, dv_ge, dv_int, dv_abs, dv_lenL, dv_lenT, dv_tupL, dv_tupT, dv_lofL, dv_lofT, dv_lofS, dv_seqL, dv_seqT, dv_ixL, dv_ixT, dv_ixO, atI_0, atI_1, atI_2, Option.bind_some, Option.bind_none, List.getElem?_cons_zero, List.getElem?_cons_succ, List.getElem?_nil, List.set_cons_zero, List.set_cons_succ, List.set_nil, List.length_cons, List.length_nil, List.map_cons, List.map_nil, List.replicate_succ, List.replicate_zero, List.cons_append, List.nil_append, Nat.reduceAdd, Nat.reduceSub, Nat.reduceLeDiff, Nat.zero_add, Nat.sub_zero, Nat.add_zero, if_true, if_false, Bool.false_eq_true, Nat.reduceEqDiff, Bool.not_true, Bool.not_false, decide_true, decide_false, ev_nat, dv_eqI, decide_eq_false h0, decide_eq_false hneg, roD, rowD, e, et]
      · cases q
        refine ⟨⟨hh, hp.mul _, fun z => by have : h.natAbs = 0 := z; omega⟩, fun t => ?_⟩
        unfold hasR
        simp only [e]
        rw [has_fr]
        have e2 : p * ((-1 : Int) : Rat) = -p := by rw [Rat.intCast_neg]; show p * (-(1 : Rat)) = -p; grind
        rw [e2]
        exact has_neg
theorem m_meet_ex {b1 c1 b2 c2 : Nat} {o1 o2 : Option (Nat × Rat)} {φ ψ : Rat → Prop} (h1 : Says o1 b1 c1 φ) (h2 : Says o2 b2 c2 ψ) (hc : c1 + c2 ≤ 8000) (hb1 : b1 ≤ 7999) (hb2 : b2 ≤ 7999) (S : List D) :
    ∃ o, m_meet [roD o1, roD o2] S = some (roD o, S) ∧ Says o (max b1 b2) (c1 + c2) (fun t => φ t ∧ ψ t) ∧ ∀ r, o = some r → ∃ r1 r2, o1 = some r1 ∧ o2 = some r2 ∧ r.1 = Nat.gcd r1.1 r2.1 := by
  unfold m_meet g_meet
  cases o1 with
  | none =>
    refine ⟨none, ?_, ⟨fun r q => (nomatch q), fun _ t w => h1.no rfl t w.1⟩, fun r q => nomatch q⟩
    simp only [ev_C, ev_V, ev_B, ev_aN, ev_aC, ev_Tup, ev_Lst, ev_Bin, ev_Un, ev_UnF, ev_cV, ev_cAnd, ev_cOr, ev_cNot, ev_cYes, ev_And, ev_Or, ev_Not, ev_If, ev_Chain, ev_Call, ev_Ix, ev_Sl, ev_oN, ev_oE, ev_aS, ev_Comp, ev_iAny, ev_iRange1, ev_iRange2, ev_iZip, ev_iEnum, ev_sNil, ev_sSeq, ev_sIf, ev_sRet, ev_sRetO, ev_sRetN, ev_sAsg, ev_sSet, ev_sSetO, ev_sPar, ev_sFor, ev_sWhile, ev_sApp, ev_sIxO, ev_sIxC, ev_sFrz, ev_sExp, ev_sPass, ev_runB, ev_forN, ev_compN, ev_put0, ev_put1, ev_wipe0, ev_wipe1, ev_bnm, ev_btup, ev_bL0, ev_bL1, dv_add, dv_sub, dv_neg, dv_lt, dv_le, dv_gt, dv_ge, dv_int, dv_abs, dv_lenL, dv_lenT, dv_tupL, dv_tupT, dv_lofL, dv_lofT, dv_lofS, dv_seqL, dv_seqT, dv_ixL, dv_ixT, dv_ixO, atI_0, atI_1, atI_2, Option.bind_some, Option.bind_none, List.getElem?_cons_zero, List.getElem?_cons_succ, List.getElem?_nil, List.set_cons_zero, List.set_cons_succ, List.set_nil, List.length_cons, List.length_nil, List.map_cons, List.map_nil, List.replicate_succ, List.replicate_zero, List.cons_append, List.nil_append, Nat.reduceAdd, Nat.reduceSub, Nat.reduceLeDiff, Nat.zero_add, Nat.sub_zero, Nat.add_zero, if_true, if_false, Bool.false_eq_true, Nat.reduceEqDiff, Bool.not_true, Bool.not_false, decide_true, decide_false, ev_nat, roD, dIsN, isNonD]
  | some r1 =>
  cases o2 with
  | none =>
    refine ⟨none, ?_, ⟨fun r q => (nomatch q), fun _ t w => h2.no rfl t w.2⟩, fun r q => nomatch q⟩
    simp only [ev_C, ev_V, ev_B, ev_aN, ev_aC, ev_Tup, ev_Lst, ev_Bin, ev_Un, ev_UnF, ev_cV, ev_cAnd, ev_cOr, ev_cNot, ev_cYes, ev_And, ev_Or, ev_Not, ev_If, ev_Chain, ev_Call, ev_Ix, ev_Sl, ev_oN, ev_oE, ev_aS, ev_Comp, ev_iAny, ev_iRange1, ev_iRange2, ev_iZip, ev_iEnum, ev_sNil, ev_sSeq, ev_sIf, ev_sRet, ev_sRetO, ev_sRetN, ev_sAsg, ev_sSet, ev_sSetO, ev_sPar, ev_sFor, ev_sWhile, ev_sApp, ev_sIxO, ev_sIxC, ev_sFrz, ev_sExp, ev_sPass, ev_runB, ev_forN, ev_compN, ev_put0, ev_put1, ev_wipe0, ev_wipe1, ev_bnm, ev_btup, ev_bL0, ev_bL1, dv_add, dv_sub, dv_neg, dv_lt, dv_le, dv_gt, dv_ge, dv_int, dv_abs, dv_lenL, dv_lenT, dv_tupL, dv_tupT, dv_lofL, dv_lofT, dv_lofS, dv_seqL, dv_seqT, dv_ixL, dv_ixT, dv_ixO, atI_0, atI_1, atI_2, Option.bind_some, Option.bind_none, List.getElem?_cons_zero, List.getElem?_cons_succ, List.getElem?_nil, List.set_cons_zero, List.set_cons_succ, List.set_nil, List.length_cons, List.length_nil, List.map_cons, List.map_nil, List.replicate_succ, List.replicate_zero, List.cons_append, List.nil_append, Nat.reduceAdd, Nat.reduceSub, Nat.reduceLeDiff, Nat.zero_add, Nat.sub_zero, Nat.add_zero, if_true, if_false, Bool.false_eq_true, Nat.reduceEqDiff, Bool.not_true, Bool.not_false, decide_true, decide_false, ev_nat, roD, rowD, dIsN, isNonD]
  | some r2 =>
    obtain ⟨n1, p1⟩ := r1
    obtain ⟨n2, p2⟩ := r2
    obtain ⟨g1, s1⟩ := h1.yes _ rfl
    obtain ⟨g2, s2⟩ := h2.yes _ rfl
    have hn1 : n1 < 2 ^ b1 := g1.n
    have hn2 : n2 < 2 ^ b2 := g2.n
    have hp1 : P c1 p1 := g1.p
    have hp2 : P c2 p2 := g2.p
    have ed := m_divisor_eq n1 n2 S
    rw [Int.gcd_natCast_natCast] at ed
    by_cases hg : Nat.gcd n1 n2 = 0
    · obtain ⟨z1, z2⟩ := Nat.gcd_eq_zero_iff.mp hg
      subst z1 z2
      have e1 : p1 = 0 := g1.z rfl
      have e2 : p2 = 0 := g2.z rfl
      subst e1 e2
      refine ⟨some (0, 0), ?_, ⟨fun r q => ?_, fun q => nomatch q⟩, fun r q => ⟨_, _, rfl, rfl, by cases q; rfl⟩⟩
      · rw [hg] at ed
        simp only [ev_C, ev_V, ev_B, ev_aN, ev_aC, ev_Tup, ev_Lst, ev_Bin, ev_Un, ev_UnF, ev_cV, ev_cAnd, ev_cOr, ev_cNot, ev_cYes, ev_And, ev_Or, ev_Not, ev_If, ev_Chain, ev_Call, ev_Ix, ev_Sl, ev_oN, ev_oE, ev_aS, ev_Comp, ev_iAny, ev_iRange1, ev_iRange2, ev_iZip, ev_iEnum, ev_sNil, ev_sSeq, ev_sIf, ev_sRet, ev_sRetO, ev_sRetN, ev_sAsg, ev_sSet, ev_sSetO, ev_sPar, ev_sFor, ev_sWhile, ev_sApp, ev_sIxO, ev_sIxC, ev_sFrz, ev_sExp, ev_sPass, ev_runB, ev_forN, ev_compN, ev_put0, ev_put1, ev_wipe0, ev_wipe1, ev_bnm, ev_btup, ev_bL0, ev_bL1, dv_add, dv_sub, dv_neg, dv_lt, dv_le, dv_gt, dv_ge, dv_int, dv_abs, dv_lenL, dv_lenT, dv_tupL, dv_tupT, dv_lofL, dv_lofT, dv_lofS, dv_seqL, dv_seqT, dv_ixL, dv_ixT, dv_ixO, atI_0, atI_1, atI_2, Option.bind_some, Option.bind_none, List.getElem?_cons_zero, List.getElem?_cons_succ, List.getElem?_nil, List.set_cons_zero, List.set_cons_succ, List.set_nil, List.length_cons, List.length_nil, List.map_cons, List.map_nil, List.replicate_succ, List.replicate_zero, List.cons_append, List.nil_append, Nat.reduceAdd, Nat.reduceSub, Nat.reduceLeDiff, Nat.zero_add, Nat.sub_zero, Nat.add_zero, if_true, if_false, Bool.false_eq_true, Nat.reduceEqDiff, Bool.not_true, Bool.not_false, decide_true, decide_false, ev_nat, roD, rowD, dIsN, isNonD, ed, dv_eqI]
        rfl
      · cases q
        exact ⟨⟨Nat.pow_pos (by decide), P.zero.mono (by have := hp1.den; have : c1 ≠ 0 := fun z => (by subst z; exact absurd this (by decide)); omega), fun _ => rfl⟩, fun t => ⟨fun _ => ⟨(s1 t).mp (hasR_all t), (s2 t).mp (hasR_all t)⟩, fun _ => hasR_all t⟩⟩
    · have gpos : 0 < Nat.gcd n1 n2 := Nat.pos_of_ne_zero hg
      have gle : Nat.gcd n1 n2 ≤ max n1 n2 := by
        rcases Nat.eq_zero_or_pos n1 with z | z
        · rw [z, Nat.gcd_zero_left]; omega
        · have := Nat.le_of_dvd z (Nat.gcd_dvd_left n1 n2); omega
      have pw1 : (2 : Nat) ^ b1 ≤ 2 ^ 7999 := Nat.pow_le_pow_right (by decide) hb1
      have pw2 : (2 : Nat) ^ b2 ≤ 2 ^ 7999 := Nat.pow_le_pow_right (by decide) hb2
      have hW : max (max n1 n2) 1 < 2 ^ 8000 := by
        have e : (2 : Nat) ^ 8000 = 2 ^ 7999 * 2 := Nat.pow_succ 2 7999
        have : 0 < (2 : Nat) ^ 7999 := Nat.pow_pos (by decide)
        generalize (2 : Nat) ^ 8000 = u at *
        generalize (2 : Nat) ^ 7999 = v at *
        omega
      obtain ⟨x, y, ef, exy, hx, hy⟩ := m_factors_ex n1 n2 (max (max n1 n2) 1) hW (by omega) (by omega) (by omega) S
      have wx : (small x || wide x) = true := by rw [wide_abs hW hx]; cases small x <;> rfl
      have wy : (small y || wide y) = true := by rw [wide_abs hW hy]; cases small y <;> rfl
      have hgi : ¬ ((Nat.gcd n1 n2 : Nat) : Int) = 0 := by omega
      have et1 := m_turnedP hp1 (by omega) wx S
      have et2 := m_turnedP hp2 (by omega) wy S
      have q1 := hp1.mul x
      have q2 := hp2.mul y
      have es := m_togetherP q1 q2 hc S
      have q3 := q1.add q2
      generalize hown : K.fr (K.fr (p1 * (x : Rat)) + K.fr (p2 * (y : Rat))) = own at *
      have eown : Eqv own (p1 * (x : Rat) + p2 * (y : Rat)) := by
        rw [← hown]
        exact (fr_eqv _).trans ((fr_eqv _).add (fr_eqv _))
      have gw : wide ((Nat.gcd n1 n2 : Nat) : Int) = true := wide_nat hW (by omega)
      have gi : (0 : Int) < ((Nat.gcd n1 n2 : Nat) : Int) := by omega
      have d1 : dDiv (.int (n1 : Int)) (.int ((Nat.gcd n1 n2 : Nat) : Int)) = some (.int ((n1 / Nat.gcd n1 n2 : Nat) : Int)) := by rw [dv_div _ _ gi gw, Int.natCast_ediv]
      have d2 : dDiv (.int (n2 : Int)) (.int ((Nat.gcd n1 n2 : Nat) : Int)) = some (.int ((n2 / Nat.gcd n1 n2 : Nat) : Int)) := by rw [dv_div _ _ gi gw, Int.natCast_ediv]
      have l1 : n1 / Nat.gcd n1 n2 ≤ max (max n1 n2) 1 := Nat.le_trans (Nat.div_le_self _ _) (by omega)
      have l2 : n2 / Nat.gcd n1 n2 ≤ max (max n1 n2) 1 := Nat.le_trans (Nat.div_le_self _ _) (by omega)
      have ec1 := m_turnedP q3 hc (k := ((n1 / Nat.gcd n1 n2 : Nat) : Int)) (by rw [wide_nat hW l1]; cases small ((n1 / Nat.gcd n1 n2 : Nat) : Int) <;> rfl) S
      have ec2 := m_turnedP q3 hc (k := ((n2 / Nat.gcd n1 n2 : Nat) : Int)) (by rw [wide_nat hW l2]; cases small ((n2 / Nat.gcd n1 n2 : Nat) : Int) <;> rfl) S
      have c1e : (n1 : Int) = ((Nat.gcd n1 n2 : Nat) : Int) * ((n1 / Nat.gcd n1 n2 : Nat) : Int) := by rw [← Int.natCast_mul, Nat.mul_div_cancel' (Nat.gcd_dvd_left n1 n2)]
      have c2e : (n2 : Int) = ((Nat.gcd n1 n2 : Nat) : Int) * ((n2 / Nat.gcd n1 n2 : Nat) : Int) := by rw [← Int.natCast_mul, Nat.mul_div_cancel' (Nat.gcd_dvd_right n1 n2)]
      have inn : ∀ t, has n1 p1 t → has n2 p2 t → has (Nat.gcd n1 n2 : Nat) own t := fun t a b => (has_eqv eown).mpr (meet_in exy a b)
      have run : ∀ k1 k2 : Bool, dEq (dR (K.fr (own * (((n1 / Nat.gcd n1 n2 : Nat) : Int) : Rat)))) (dR p1) = some (.bl k1) → dEq (dR (K.fr (own * (((n2 / Nat.gcd n1 n2 : Nat) : Int) : Rat)))) (dR p2) = some (.bl k2) →
          runB false 7 g_meet [roD (some (n1, p1)), roD (some (n2, p2))] S = some (if (k1 && k2) = true then rowD (Nat.gcd n1 n2, own) else .non, S) := by
        intro k1 k2 w1 w2
        unfold g_meet
        cases k1 <;> cases k2 <;> simp only [ev_C, ev_V, ev_B, ev_aN, ev_aC, ev_Tup, ev_Lst, ev_Bin, ev_Un, ev_UnF, ev_cV, ev_cAnd, ev_cOr, ev_cNot, ev_cYes, ev_And, ev_Or, ev_Not, ev_If, ev_Chain, ev_Call, ev_Ix, ev_Sl, ev_oN, ev_oE, ev_aS, ev_Comp, ev_iAny, ev_iRange1, ev_iRange2, ev_iZip, ev_iEnum, ev_sNil, ev_sSeq, ev_sIf, ev_sRet, ev_sRetO, ev_sRetN, ev_sAsg, ev_sSet, ev_sSetO, ev_sPar, ev_sFor, ev_sWhile, ev_sApp, ev_sIxO, ev_sIxC, ev_sFrz, ev_sExp, ev_sPass, ev_runB, ev_forN, ev_compN, ev_put0, ev_put1, ev_wipe0, ev_wipe1, ev_bnm, ev_btup, ev_bL0, ev_bL1, dv_add, dv_sub, dv_neg, dv_lt, dv_le, dv_gt, dv_ge, dv_int, dv_abs, dv_lenL, dv_lenT, dv_tupL, dv_tupT, dv_lofL, dv_lofT, dv_lofS, dv_seqL, dv_seqT, dv_ixL, dv_ixT, dv_ixO, atI_0, atI_1, atI_2, Option.bind_some, Option.bind_none, List.getElem?_cons_zero, List.getElem?_cons_succ, List.getElem?_nil, List.set_cons_zero, List.set_cons_succ, List.set_nil, List.length_cons, List.length_nil, List.map_cons, List.map_nil, List.replicate_succ, List.replicate_zero, List.cons_append, List.nil_append, Nat.reduceAdd, Nat.reduceSub, Nat.reduceLeDiff, Nat.zero_add, Nat.sub_zero, Nat.add_zero, if_true, if_false, Bool.false_eq_true, Nat.reduceEqDiff, Bool.not_true, Bool.not_false, decide_true, decide_false, ev_nat, roD, rowD, dIsN, isNonD, ed, dv_eqI, decide_eq_false hgi, ef, et1, et2, es, d1, d2, ec1, ec2, w1, w2, Bool.and_true, Bool.and_false, Bool.and_self]
      have rr := run _ _ (dv_eqR _ _) (dv_eqR _ _)
      unfold g_meet at rr
      by_cases good : Eqv (own * (((n1 / Nat.gcd n1 n2 : Nat) : Int) : Rat)) p1 ∧ Eqv (own * (((n2 / Nat.gcd n1 n2 : Nat) : Int) : Rat)) p2
      · refine ⟨some (Nat.gcd n1 n2, own), ?_, ⟨fun r q => ?_, fun q => nomatch q⟩, fun r q => ⟨_, _, rfl, rfl, by cases q; rfl⟩⟩
        · have f1 : K.fr (own * (((n1 / Nat.gcd n1 n2 : Nat) : Int) : Rat)) = p1 := by rw [← hp1.fr]; exact fr_eq_iff.mpr good.1
          have f2 : K.fr (own * (((n2 / Nat.gcd n1 n2 : Nat) : Int) : Rat)) = p2 := by rw [← hp2.fr]; exact fr_eq_iff.mpr good.2
          rw [rr, decide_eq_true f1, decide_eq_true f2]
          rfl
        · cases q
          refine ⟨⟨?_, q3, fun z => absurd z (by have : Nat.gcd n1 n2 ≠ 0 := hg; exact this)⟩, fun t => ⟨fun w => ⟨(s1 t).mp (meet_out c1e w good.1), (s2 t).mp (meet_out c2e w good.2)⟩, fun w => inn t ((s1 t).mpr w.1) ((s2 t).mpr w.2)⟩⟩
          show Nat.gcd n1 n2 < 2 ^ max b1 b2
          have e1 : (2 : Nat) ^ b1 ≤ 2 ^ max b1 b2 := Nat.pow_le_pow_right (by decide) (by omega)
          have e2 : (2 : Nat) ^ b2 ≤ 2 ^ max b1 b2 := Nat.pow_le_pow_right (by decide) (by omega)
          generalize (2 : Nat) ^ b1 = u at *
          generalize (2 : Nat) ^ b2 = v at *
          generalize (2 : Nat) ^ max b1 b2 = w at *
          omega
      · refine ⟨none, ?_, ⟨fun r q => (nomatch q), fun _ t w => good ?_⟩, fun r q => nomatch q⟩
        · rw [rr]
          have : (decide (K.fr (own * (((n1 / Nat.gcd n1 n2 : Nat) : Int) : Rat)) = p1) && decide (K.fr (own * (((n2 / Nat.gcd n1 n2 : Nat) : Int) : Rat)) = p2)) = false := by
            rw [Bool.eq_false_iff]
            intro q
            rw [Bool.and_eq_true, decide_eq_true_eq, decide_eq_true_eq] at q
            refine good ⟨?_, ?_⟩
            · have := fr_eqv (own * (((n1 / Nat.gcd n1 n2 : Nat) : Int) : Rat))
              rw [q.1] at this
              exact this.symm
            · have := fr_eqv (own * (((n2 / Nat.gcd n1 n2 : Nat) : Int) : Rat))
              rw [q.2] at this
              exact this.symm
          rw [this]
          rfl
        · have a := (s1 t).mpr w.1
          have b := (s2 t).mpr w.2
          have i := inn t a b
          exact ⟨meet_chk c1e i a, meet_chk c2e i b⟩
theorem hasR_iff {b c : Nat} {r : Nat × Rat} (g : GR b c r) (t : Rat) : K.fr (t * ((r.1 : Int) : Rat)) = r.2 ↔ hasR r t := by
  unfold hasR has
  conv => lhs; rhs; rw [← g.p.fr]
  exact fr_eq_iff
def eqD3 (e : Eq3) : D := .tup [.int e.a, .int e.b, dR e.c]
theorem MN.P {N n : Nat} (hN : 0 < N) (h : N < 2 ^ n) {c : Rat} (hc : MN N c) : P n c := by
  obtain ⟨k, rfl⟩ := hc
  have e : (k : Rat) / ((N : Nat) : Rat) = (k : Rat) / ((N : Int) : Rat) := by rw [Rat.intCast_natCast]
  rw [e]
  exact P_fr (by omega) (by rw [Int.natAbs_natCast]; exact h)
theorem small_of {k : Int} (h : k.natAbs < 18446744073709551616) : small k = true := decide_eq_true h
theorem small_l {a b : Int} (h : small a = true) : (small a || small b || (wide a && wide b)) = true := by rw [h]; rfl
theorem dv_fdiv (a b : Int) (h : b ≠ 0) (hb : b.natAbs < 1073741824) : dDiv (.int a) (.int b) = some (.int (a.fdiv b)) := by
  by_cases hp : 0 < b
  · rw [dv_div a b hp (wide_sm (by omega)), Int.fdiv_eq_ediv_of_nonneg _ (by omega)]
  · show (if (decide (0 < b) && wide b) = true then some (D.int (a / b)) else if (decide (b ≠ 0) && decide (b.natAbs < 1073741824)) = true then some (D.int (a.fdiv b)) else none) = _
    rw [decide_eq_false hp]
    simp only [Bool.false_and, Bool.false_eq_true, if_false]
    rw [if_pos (by rw [decide_eq_true h, decide_eq_true hb]; rfl)]
theorem m_less_eq {N n : Nat} (hN : 0 < N) (hn : N < 2 ^ n) (hn64 : n ≤ 32) (e f : Eq3) (q : Int) (he : MN N e.c) (hf : MN N f.c) (hq : q.natAbs < 18446744073709551616) (S : List D) : m_less [eqD3 e, eqD3 f, .int q] S = some (eqD3 (e.less f q), S) := by
  have pe := he.P hN hn
  have pf := hf.P hN hn
  have et := m_turned64 pf (by omega) (k := -q) S
  have es := m_togetherP pe (pf.mul (-q)) (by omega) S
  have d1 := dv_mul q f.a (small_l (small_of hq))
  have d2 := dv_mul q f.b (small_l (small_of hq))
  unfold m_less g_less eqD3
  simp only [ev_C, ev_V, ev_B, ev_aN, ev_aC, ev_Tup, ev_Lst, ev_Bin, ev_Un, ev_UnF, ev_cV, ev_cAnd, ev_cOr, ev_cNot, ev_cYes, ev_And, ev_Or, ev_Not, ev_If, ev_Chain, ev_Call, ev_Ix, ev_Sl, ev_oN, ev_oE, ev_aS, ev_Comp, ev_iAny, ev_iRange1, ev_iRange2, ev_iZip, ev_iEnum, ev_sNil, ev_sSeq, ev_sIf, ev_sRet, ev_sRetO, ev_sRetN, ev_sAsg, ev_sSet, ev_sSetO, ev_sPar, ev_sFor, ev_sWhile, ev_sApp, ev_sIxO, ev_sIxC, ev_sFrz, ev_sExp, ev_sPass, ev_runB, ev_forN, ev_compN, ev_put0, ev_put1, ev_wipe0, ev_wipe1, ev_bnm, ev_btup, ev_bL0, ev_bL1, dv_add, dv_sub, dv_neg, dv_lt, dv_le, dv_gt, dv_ge, dv_int, dv_abs, dv_lenL, dv_lenT, dv_tupL, dv_tupT, dv_lofL, dv_lofT, dv_lofS, dv_seqL, dv_seqT, dv_ixL, dv_ixT, dv_ixO, atI_0, atI_1, atI_2, Option.bind_some, Option.bind_none, List.getElem?_cons_zero, List.getElem?_cons_succ, List.getElem?_nil, List.set_cons_zero, List.set_cons_succ, List.set_nil, List.length_cons, List.length_nil, List.map_cons, List.map_nil, List.replicate_succ, List.replicate_zero, List.cons_append, List.nil_append, Nat.reduceAdd, Nat.reduceSub, Nat.reduceLeDiff, Nat.zero_add, Nat.sub_zero, Nat.add_zero, if_true, if_false, Bool.false_eq_true, Nat.reduceEqDiff, Bool.not_true, Bool.not_false, decide_true, decide_false, ev_nat, d1, d2, et, es, Eq3.less]
theorem fdiv_natAbs_le (a b : Int) (hb : b ≠ 0) : (a.fdiv b).natAbs ≤ a.natAbs + b.natAbs := by
  have e := Int.mul_fdiv_add_fmod a b
  have h := (fm_small a b hb).1
  have e1 : (b * a.fdiv b).natAbs ≤ a.natAbs + (a.fmod b).natAbs := by omega
  rw [Int.natAbs_mul] at e1
  have hp : 0 < b.natAbs := by omega
  have := Nat.mul_le_mul_right (a.fdiv b).natAbs hp
  omega
def solBody : Sv := (sPar 1 4 (eV 4) (eCall 3 m_less (aC (eV 1) (aC (eV 4) (aC (eBin dDiv (eIx (eB 1) (eC (.int 0))) (eIx (eB 4) (eC (.int 0)))) aN)))))
def solTest : Et := (cV (eBin dNe (eIx (eB 4) (eC (.int 0))) (eC (.int 0))))
theorem sol_step {N n A : Nat} (hN : 0 < N) (hn : N < 2 ^ n) (hn64 : n ≤ 32) (hA : A < 2 ^ 29) (e f : Eq3) (he : MN N e.c) (hf : MN N f.c) (h1 : f.a ≠ 0) (ha : e.a.natAbs ≤ A) (hb : f.a.natAbs ≤ A) (k : Nat) (s0 s2 s3 : Slot) (S : List D) :
    whileN solTest solBody (k + 1) [s0, .val (eqD3 e), s2, s3, .val (eqD3 f)] S = whileN solTest solBody k [s0, .val (eqD3 f), s2, s3, .val (eqD3 (e.less f (e.a.fdiv f.a)))] S := by
  have hq := fdiv_natAbs_le e.a f.a h1
  have hl := m_less_eq hN hn hn64 e f (e.a.fdiv f.a) he hf (by have : (2 : Nat) ^ 29 = 536870912 := rfl; omega) S
  have hd := dv_fdiv e.a f.a h1 (by have : (2 : Nat) ^ 29 = 536870912 := rfl; omega)
  rw [ev_while]
  unfold solTest solBody
  have z1 : ∀ x : Eq3, ixD S (eqD3 x) (.int 0) = some (.int x.a) := fun x => by unfold eqD3; simp only [ev_C, ev_V, ev_B, ev_aN, ev_aC, ev_Tup, ev_Lst, ev_Bin, ev_Un, ev_UnF, ev_cV, ev_cAnd, ev_cOr, ev_cNot, ev_cYes, ev_And, ev_Or, ev_Not, ev_If, ev_Chain, ev_Call, ev_Ix, ev_Sl, ev_oN, ev_oE, ev_aS, ev_Comp, ev_iAny, ev_iRange1, ev_iRange2, ev_iZip, ev_iEnum, ev_sNil, ev_sSeq, ev_sIf, ev_sRet, ev_sRetO, ev_sRetN, ev_sAsg, ev_sSet, ev_sSetO, ev_sPar, ev_sFor, ev_sWhile, ev_sApp, ev_sIxO, ev_sIxC, ev_sFrz, ev_sExp, ev_sPass, ev_runB, ev_forN, ev_compN, ev_put0, ev_put1, ev_wipe0, ev_wipe1, ev_bnm, ev_btup, ev_bL0, ev_bL1, dv_add, dv_sub, dv_neg, dv_lt, dv_le, dv_gt, dv_ge, dv_int, dv_abs, dv_lenL, dv_lenT, dv_tupL, dv_tupT, dv_lofL, dv_lofT, dv_lofS, dv_seqL, dv_seqT, dv_ixL, dv_ixT, dv_ixO, atI_0, atI_1, atI_2, Option.bind_some, Option.bind_none, List.getElem?_cons_zero, List.getElem?_cons_succ, List.getElem?_nil, List.set_cons_zero, List.set_cons_succ, List.set_nil, List.length_cons, List.length_nil, List.map_cons, List.map_nil, List.replicate_succ, List.replicate_zero, List.cons_append, List.nil_append, Nat.reduceAdd, Nat.reduceSub, Nat.reduceLeDiff, Nat.zero_add, Nat.sub_zero, Nat.add_zero, if_true, if_false, Bool.false_eq_true, Nat.reduceEqDiff, Bool.not_true, Bool.not_false, decide_true, decide_false, ev_nat]
  simp only [ev_C, ev_V, ev_B, ev_aN, ev_aC, ev_Tup, ev_Lst, ev_Bin, ev_Un, ev_UnF, ev_cV, ev_cAnd, ev_cOr, ev_cNot, ev_cYes, ev_And, ev_Or, ev_Not, ev_If, ev_Chain, ev_Call, ev_Ix, ev_Sl, ev_oN, ev_oE, ev_aS, ev_Comp, ev_iAny, ev_iRange1, ev_iRange2, ev_iZip, ev_iEnum, ev_sNil, ev_sSeq, ev_sIf, ev_sRet, ev_sRetO, ev_sRetN, ev_sAsg, ev_sSet, ev_sSetO, ev_sPar, ev_sFor, ev_sWhile, ev_sApp, ev_sIxO, ev_sIxC, ev_sFrz, ev_sExp, ev_sPass, ev_runB, ev_forN, ev_compN, ev_put0, ev_put1, ev_wipe0, ev_wipe1, ev_bnm, ev_btup, ev_bL0, ev_bL1, dv_add, dv_sub, dv_neg, dv_lt, dv_le, dv_gt, dv_ge, dv_int, dv_abs, dv_lenL, dv_lenT, dv_tupL, dv_tupT, dv_lofL, dv_lofT, dv_lofS, dv_seqL, dv_seqT, dv_ixL, dv_ixT, dv_ixO, atI_0, atI_1, atI_2, Option.bind_some, Option.bind_none, List.getElem?_cons_zero, List.getElem?_cons_succ, List.getElem?_nil, List.set_cons_zero, List.set_cons_succ, List.set_nil, List.length_cons, List.length_nil, List.map_cons, List.map_nil, List.replicate_succ, List.replicate_zero, List.cons_append, List.nil_append, Nat.reduceAdd, Nat.reduceSub, Nat.reduceLeDiff, Nat.zero_add, Nat.sub_zero, Nat.add_zero, if_true, if_false, Bool.false_eq_true, Nat.reduceEqDiff, Bool.not_true, Bool.not_false, decide_true, decide_false, ev_nat, z1, dv_neI, decide_eq_false h1, hd, hl]
theorem sol_stop (e f : Eq3) (h1 : f.a = 0) (k : Nat) (s0 s2 s3 : Slot) (S : List D) : whileN solTest solBody (k + 1) [s0, .val (eqD3 e), s2, s3, .val (eqD3 f)] S = some (.nx [s0, .val (eqD3 e), s2, s3, .val (eqD3 f)] S) := by
  rw [ev_while]
  unfold solTest solBody
  have z1 : ∀ x : Eq3, ixD S (eqD3 x) (.int 0) = some (.int x.a) := fun x => by unfold eqD3; simp only [ev_C, ev_V, ev_B, ev_aN, ev_aC, ev_Tup, ev_Lst, ev_Bin, ev_Un, ev_UnF, ev_cV, ev_cAnd, ev_cOr, ev_cNot, ev_cYes, ev_And, ev_Or, ev_Not, ev_If, ev_Chain, ev_Call, ev_Ix, ev_Sl, ev_oN, ev_oE, ev_aS, ev_Comp, ev_iAny, ev_iRange1, ev_iRange2, ev_iZip, ev_iEnum, ev_sNil, ev_sSeq, ev_sIf, ev_sRet, ev_sRetO, ev_sRetN, ev_sAsg, ev_sSet, ev_sSetO, ev_sPar, ev_sFor, ev_sWhile, ev_sApp, ev_sIxO, ev_sIxC, ev_sFrz, ev_sExp, ev_sPass, ev_runB, ev_forN, ev_compN, ev_put0, ev_put1, ev_wipe0, ev_wipe1, ev_bnm, ev_btup, ev_bL0, ev_bL1, dv_add, dv_sub, dv_neg, dv_lt, dv_le, dv_gt, dv_ge, dv_int, dv_abs, dv_lenL, dv_lenT, dv_tupL, dv_tupT, dv_lofL, dv_lofT, dv_lofS, dv_seqL, dv_seqT, dv_ixL, dv_ixT, dv_ixO, atI_0, atI_1, atI_2, Option.bind_some, Option.bind_none, List.getElem?_cons_zero, List.getElem?_cons_succ, List.getElem?_nil, List.set_cons_zero, List.set_cons_succ, List.set_nil, List.length_cons, List.length_nil, List.map_cons, List.map_nil, List.replicate_succ, List.replicate_zero, List.cons_append, List.nil_append, Nat.reduceAdd, Nat.reduceSub, Nat.reduceLeDiff, Nat.zero_add, Nat.sub_zero, Nat.add_zero, if_true, if_false, Bool.false_eq_true, Nat.reduceEqDiff, Bool.not_true, Bool.not_false, decide_true, decide_false, ev_nat]
  simp only [ev_C, ev_V, ev_B, ev_aN, ev_aC, ev_Tup, ev_Lst, ev_Bin, ev_Un, ev_UnF, ev_cV, ev_cAnd, ev_cOr, ev_cNot, ev_cYes, ev_And, ev_Or, ev_Not, ev_If, ev_Chain, ev_Call, ev_Ix, ev_Sl, ev_oN, ev_oE, ev_aS, ev_Comp, ev_iAny, ev_iRange1, ev_iRange2, ev_iZip, ev_iEnum, ev_sNil, ev_sSeq, ev_sIf, ev_sRet, ev_sRetO, ev_sRetN, ev_sAsg, ev_sSet, ev_sSetO, ev_sPar, ev_sFor, ev_sWhile, ev_sApp, ev_sIxO, ev_sIxC, ev_sFrz, ev_sExp, ev_sPass, ev_runB, ev_forN, ev_compN, ev_put0, ev_put1, ev_wipe0, ev_wipe1, ev_bnm, ev_btup, ev_bL0, ev_bL1, dv_add, dv_sub, dv_neg, dv_lt, dv_le, dv_gt, dv_ge, dv_int, dv_abs, dv_lenL, dv_lenT, dv_tupL, dv_tupT, dv_lofL, dv_lofT, dv_lofS, dv_seqL, dv_seqT, dv_ixL, dv_ixT, dv_ixO, atI_0, atI_1, atI_2, Option.bind_some, Option.bind_none, List.getElem?_cons_zero, List.getElem?_cons_succ, List.getElem?_nil, List.set_cons_zero, List.set_cons_succ, List.set_nil, List.length_cons, List.length_nil, List.map_cons, List.map_nil, List.replicate_succ, List.replicate_zero, List.cons_append, List.nil_append, Nat.reduceAdd, Nat.reduceSub, Nat.reduceLeDiff, Nat.zero_add, Nat.sub_zero, Nat.add_zero, if_true, if_false, Bool.false_eq_true, Nat.reduceEqDiff, Bool.not_true, Bool.not_false, decide_true, decide_false, ev_nat, z1, dv_neI, decide_eq_true h1]
structure Elim (N B : Nat) (e f e' f' : Eq3) : Prop where
  z : f'.a = 0
  g : e'.a.natAbs = Nat.gcd e.a.natAbs f.a.natAbs
  s : ∀ t u, (e'.sat t u ∧ f'.sat t u) ↔ (e.sat t u ∧ f.sat t u)
  b1 : e'.b.natAbs ≤ B
  b2 : f'.b.natAbs ≤ B
  c1 : MN N e'.c
  c2 : MN N f'.c
theorem sol_loop {N n A B : Nat} (hN : 0 < N) (hn : N < 2 ^ n) (hn64 : n ≤ 32) (hA : A < 2 ^ 29) (s0 s2 s3 : Slot) (S : List D) : ∀ (k : Nat) (e f : Eq3), f.a.natAbs < k → MN N e.c → MN N f.c → e.a.natAbs ≤ A → f.a.natAbs ≤ A → SW e.a f.a → e.b.natAbs ≤ B → f.b.natAbs ≤ B → f.b.natAbs * e.a.natAbs + e.b.natAbs * f.a.natAbs ≤ B →
    ∃ e' f', whileN solTest solBody k [s0, .val (eqD3 e), s2, s3, .val (eqD3 f)] S = some (.nx [s0, .val (eqD3 e'), s2, s3, .val (eqD3 f')] S) ∧ Elim N B e f e' f' := by
  intro k
  induction k with
  | zero => intro e f h; omega
  | succ k ih =>
    intro e f hk he hf ha hb hs h0 h1 h2
    by_cases hz : f.a = 0
    · exact ⟨e, f, sol_stop e f hz k s0 s2 s3 S, hz, by rw [hz]; simp, fun t u => Iff.rfl, h0, h1, he, hf⟩
    · rw [sol_step hN hn hn64 hA e f he hf hz ha hb]
      have m := fm_small e.a f.a hz
      have ea : (e.less f (e.a.fdiv f.a)).a = e.a.fmod f.a := fm_eq e.a f.a
      obtain ⟨q1, q2⟩ := euc_step hs hz h2
      obtain ⟨e', f', w, x⟩ := ih f (e.less f (e.a.fdiv f.a)) (by rw [ea]; omega) hf (he.less hN _ hf) hb (by rw [ea]; omega) (by rw [ea]; exact m.2) h1 q2 (by rw [ea]; exact q1)
      refine ⟨e', f', w, x.z, ?_, fun t u => (x.s t u).trans less_sat, x.b1, x.b2, x.c1, x.c2⟩
      rw [x.g, ea]
      exact gcd_fm e.a f.a
theorem sol_all {N n A H : Nat} (hN : 0 < N) (hn : N < 2 ^ n) (hn64 : n ≤ 32) (hA : A < 2 ^ 29) (s0 s2 s3 : Slot) (S : List D) (e f : Eq3) (he : MN N e.c) (hf : MN N f.c) (ha : e.a.natAbs ≤ A) (hb : f.a.natAbs ≤ A) (h0 : e.b.natAbs ≤ H) (h1 : f.b.natAbs ≤ H) :
    ∃ e' f', whileN solTest solBody (f.a.natAbs + 1) [s0, .val (eqD3 e), s2, s3, .val (eqD3 f)] S = some (.nx [s0, .val (eqD3 e'), s2, s3, .val (eqD3 f')] S) ∧ Elim N (H * ((2 * A + 2) * (A + 1))) e f e' f' := by
  have big : H ≤ H * ((2 * A + 2) * (A + 1)) := Nat.le_mul_of_pos_right _ (Nat.mul_pos (by omega) (by omega))
  by_cases hz : f.a = 0
  · exact ⟨e, f, sol_stop e f hz _ s0 s2 s3 S, hz, by rw [hz]; simp, fun t u => Iff.rfl, by omega, by omega, he, hf⟩
  · rw [sol_step hN hn hn64 hA e f he hf hz ha hb]
    have m := fm_small e.a f.a hz
    have ea : (e.less f (e.a.fdiv f.a)).a = e.a.fmod f.a := fm_eq e.a f.a
    obtain ⟨q1, q2⟩ := euc_first hz ha hb h0 h1
    obtain ⟨e', f', w, x⟩ := sol_loop hN hn hn64 hA s0 s2 s3 S f.a.natAbs f (e.less f (e.a.fdiv f.a)) (by rw [ea]; omega) hf (he.less hN _ hf) hb (by rw [ea]; omega) (by rw [ea]; exact m.2) (by omega) q2 (by rw [ea]; exact q1)
    refine ⟨e', f', w, x.z, ?_, fun t u => (x.s t u).trans less_sat, x.b1, x.b2, x.c1, x.c2⟩
    rw [x.g, ea]
    exact gcd_fm e.a f.a
def Bd (H A : Nat) : Nat → Nat
  | 0 => H
  | k + 1 => Bd H A k * ((2 * A + 2) * (A + 1))
theorem Bd_le (H A k : Nat) : H ≤ Bd H A k := by
  induction k with
  | zero => exact Nat.le_refl _
  | succ k ih => exact Nat.le_trans ih (Nat.le_mul_of_pos_right _ (Nat.mul_pos (by omega) (by omega)))
theorem Bd_bits {H A h a : Nat} (hH : H < 2 ^ h) (hA : A + 1 ≤ 2 ^ a) : ∀ k, Bd H A k < 2 ^ (h + k * (2 * a + 1))
  | 0 => by simpa [Bd] using hH
  | k + 1 => by
    have ih := Bd_bits hH hA k
    have e1 : (2 * A + 2) * (A + 1) ≤ 2 ^ (2 * a + 1) := by
      have : (2 * A + 2) * (A + 1) = 2 * ((A + 1) * (A + 1)) := by
        rw [show 2 * A + 2 = 2 * (A + 1) by omega, Nat.mul_assoc]
      rw [this]
      have q := Nat.mul_le_mul hA hA
      rw [← Nat.pow_add] at q
      have : (2 : Nat) ^ (2 * a + 1) = 2 * 2 ^ (a + a) := by rw [Nat.pow_succ, Nat.mul_comm, show 2 * a = a + a by omega]
      omega
    have e2 : 0 < (2 * A + 2) * (A + 1) := Nat.mul_pos (by omega) (by omega)
    show Bd H A k * ((2 * A + 2) * (A + 1)) < _
    have e3 : (2 : Nat) ^ (h + (k + 1) * (2 * a + 1)) = 2 ^ (h + k * (2 * a + 1)) * 2 ^ (2 * a + 1) := by
      rw [← Nat.pow_add, Nat.add_mul, Nat.one_mul, Nat.add_assoc]
    rw [e3]
    exact Nat.lt_of_lt_of_le (Nat.mul_lt_mul_of_pos_right ih e2) (Nat.mul_le_mul_left _ e1)
structure Sol (N A H b n : Nat) (es : List Eq3) (m : Eq3) (o : Option (Nat × Rat)) : Prop where
  g : m.a.natAbs = gcdL (es.map (·.a))
  c : MN N m.c
  bd : m.b.natAbs ≤ Bd H A es.length
  r : ∃ φ : Rat → Prop, Says o b (1 + es.length * n) φ ∧ ∀ t u, (∀ e ∈ es, e.sat t u) ↔ (m.sat t u ∧ φ t)
def solOut (o : Option ((Nat × Rat) × Int × Rat)) : D := match o with
  | none => .non
  | some (r, b, c) => .tup [rowD r, .int b, dR c]
theorem gcdL_snoc (l : List Int) (x : Int) : gcdL (l ++ [x]) = Nat.gcd (gcdL l) x.natAbs := by
  unfold gcdL
  rw [List.foldl_append]
  rfl
theorem gcdL_le (A : Nat) : ∀ (l : List Int), (∀ x ∈ l, x.natAbs ≤ A) → gcdL l ≤ A
  | [], _ => Nat.zero_le _
  | x :: l, h => by
    rw [gcdL_cons]
    by_cases hx : x.natAbs = 0
    · rw [hx, Nat.gcd_zero_left]
      exact gcdL_le A l fun y hy => h y (List.mem_cons_of_mem _ hy)
    · exact Nat.le_trans (Nat.le_of_dvd (by omega) (Nat.gcd_dvd_left _ _)) (h x List.mem_cons_self)
def solIn : Sv := (sSeq (sSet 4 (eV 3)) (sSeq (sWhile (fun ρ => natFst 4 ρ + 1) solTest solBody) (sSet 2 (eCall 2 m_meet (aC (eV 2) (aC (eCall 2 m_row_of (aC (eIx (eB 4) (eC (.int 1))) (aC (eIx (eB 4) (eC (.int 2))) aN))) aN))))))
theorem g_solved_is : g_solved = (sSeq (sPar 1 2 (eTup (aC (eC (.int 0)) (aC (eC (.int 0)) (aC (eTup (aC (eC (.int 0)) (aC (eC (.int 1)) aN))) aN)))) (eC k_ALL)) (sSeq (sFor (.nm 3) (iAny (eV 0)) solIn) (sSeq (sIf (cV (eBin dIsN (eB 2) (eC .non))) (sRet (eC .non)) sNil) (sSeq (sIf (cV (eBin dLt (eIx (eB 1) (eC (.int 0))) (eC (.int 0)))) (sSet 1 (eTup (aC (eUn dNeg (eIx (eB 1) (eC (.int 0)))) (aC (eUn dNeg (eIx (eB 1) (eC (.int 1)))) (aC (eCall 2 m_turned (aC (eIx (eB 1) (eC (.int 2))) (aC (eUn dNeg (eC (.int 1))) aN))) aN))))) sNil) (sRet (eTup (aC (eV 2) (aC (eIx (eB 1) (eC (.int 1))) (aC (eIx (eB 1) (eC (.int 2))) aN))))))))) := rfl
theorem sol_turn {N n A H b : Nat} (hN : 0 < N) (hn : N < 2 ^ n) (hn64 : n ≤ 32) (hA : A < 2 ^ 29) (es : List Eq3) (e : Eq3) (hes : ∀ x ∈ es, x.a.natAbs ≤ A) (hc : MN N e.c) (hea : e.a.natAbs ≤ A) (heb : e.b.natAbs ≤ H) (hb : Bd H A (es.length + 1) < 2 ^ b) (hb2 : b ≤ 7999) (hsz : 1 + (es.length + 1) * n ≤ 8000)
    {m : Eq3} {o : Option (Nat × Rat)} (h : Sol N A H b n es m o) (s0 s3 s4 : Slot) (S : List D) : ∃ m' o' s4', solIn [s0, .val (eqD3 m), .val (roD o), .val (eqD3 e), s4] S = some (.nx [s0, .val (eqD3 m'), .val (roD o'), .val (eqD3 e), s4'] S) ∧ Sol N A H b n (es ++ [e]) m' o' := by
  have ma : m.a.natAbs ≤ A := by
    rw [h.g]
    refine gcdL_le A _ fun x hx => ?_
    obtain ⟨y, hy, rfl⟩ := List.mem_map.mp hx
    exact hes y hy
  obtain ⟨e', f', w, x⟩ := sol_all (H := Bd H A es.length) hN hn hn64 hA s0 (.val (roD o)) (.val (eqD3 e)) S m e h.c hc ma hea h.bd (Nat.le_trans heb (Bd_le H A _))
  obtain ⟨φ, hφ, hsat⟩ := h.r
  have pf := x.c2.P hN hn
  have hbb : f'.b.natAbs < 2 ^ b := Nat.lt_of_le_of_lt x.b2 hb
  obtain ⟨o1, e1, s1, _⟩ := m_row_of_ex (h := f'.b) (p := f'.c) hbb pf (by omega) S
  have hsz2 : 1 + es.length * n + n ≤ 8000 := by rw [Nat.add_mul, Nat.one_mul] at hsz; omega
  obtain ⟨o2, e2, s2, _⟩ := m_meet_ex hφ s1 hsz2 (by omega) (by omega) S
  refine ⟨e', o2, .val (eqD3 f'), ?_, ?_, x.c1, ?_, fun t => φ t ∧ has f'.b f'.c t, ?_, fun t u => ?_⟩
  · unfold solIn
    refine (seq_nx (ρ' := [s0, .val (eqD3 m), .val (roD o), .val (eqD3 e), .val (eqD3 e)]) (S' := S) rfl).trans ?_
    refine (seq_nx (ρ' := [s0, .val (eqD3 e'), .val (roD o), .val (eqD3 e), .val (eqD3 f')]) (S' := S) ?_).trans ?_
    · rw [ev_sWhile]
      exact w
    · have z1 : ixD S (eqD3 f') (.int 1) = some (.int f'.b) := by unfold eqD3; simp only [ev_C, ev_V, ev_B, ev_aN, ev_aC, ev_Tup, ev_Lst, ev_Bin, ev_Un, ev_UnF, ev_cV, ev_cAnd, ev_cOr, ev_cNot, ev_cYes, ev_And, ev_Or, ev_Not, ev_If, ev_Chain, ev_Call, ev_Ix, ev_Sl, ev_oN, ev_oE, ev_aS, ev_Comp, ev_iAny, ev_iRange1, ev_iRange2, ev_iZip, ev_iEnum, ev_sNil, ev_sSeq, ev_sIf, ev_sRet, ev_sRetO, ev_sRetN, ev_sAsg, ev_sSet, ev_sSetO, ev_sPar, ev_sFor, ev_sWhile, ev_sApp, ev_sIxO, ev_sIxC, ev_sFrz, ev_sExp, ev_sPass, ev_runB, ev_forN, ev_compN, ev_put0, ev_put1, ev_wipe0, ev_wipe1, ev_bnm, ev_btup, ev_bL0, ev_bL1, dv_add, dv_sub, dv_neg, dv_lt, dv_le, dv_gt, dv_ge, dv_int, dv_abs, dv_lenL, dv_lenT, dv_tupL, dv_tupT, dv_lofL, dv_lofT, dv_lofS, dv_seqL, dv_seqT, dv_ixL, dv_ixT, dv_ixO, atI_0, atI_1, atI_2, Option.bind_some, Option.bind_none, List.getElem?_cons_zero, List.getElem?_cons_succ, List.getElem?_nil, List.set_cons_zero, List.set_cons_succ, List.set_nil, List.length_cons, List.length_nil, List.map_cons, List.map_nil, List.replicate_succ, List.replicate_zero, List.cons_append, List.nil_append, Nat.reduceAdd, Nat.reduceSub, Nat.reduceLeDiff, Nat.zero_add, Nat.sub_zero, Nat.add_zero, if_true, if_false, Bool.false_eq_true, Nat.reduceEqDiff, Bool.not_true, Bool.not_false, decide_true, decide_false, ev_nat]
      have z2 : ixD S (eqD3 f') (.int 2) = some (dR f'.c) := by unfold eqD3; simp only [ev_C, ev_V, ev_B, ev_aN, ev_aC, ev_Tup, ev_Lst, ev_Bin, ev_Un, ev_UnF, ev_cV, ev_cAnd, ev_cOr, ev_cNot, ev_cYes, ev_And, ev_Or, ev_Not, ev_If, ev_Chain, ev_Call, ev_Ix, ev_Sl, ev_oN, ev_oE, ev_aS, ev_Comp, ev_iAny, ev_iRange1, ev_iRange2, ev_iZip, ev_iEnum, ev_sNil, ev_sSeq, ev_sIf, ev_sRet, ev_sRetO, ev_sRetN, ev_sAsg, ev_sSet, ev_sSetO, ev_sPar, ev_sFor, ev_sWhile, ev_sApp, ev_sIxO, ev_sIxC, ev_sFrz, ev_sExp, ev_sPass, ev_runB, ev_forN, ev_compN, ev_put0, ev_put1, ev_wipe0, ev_wipe1, ev_bnm, ev_btup, ev_bL0, ev_bL1, dv_add, dv_sub, dv_neg, dv_lt, dv_le, dv_gt, dv_ge, dv_int, dv_abs, dv_lenL, dv_lenT, dv_tupL, dv_tupT, dv_lofL, dv_lofT, dv_lofS, dv_seqL, dv_seqT, dv_ixL, dv_ixT, dv_ixO, atI_0, atI_1, atI_2, Option.bind_some, Option.bind_none, List.getElem?_cons_zero, List.getElem?_cons_succ, List.getElem?_nil, List.set_cons_zero, List.set_cons_succ, List.set_nil, List.length_cons, List.length_nil, List.map_cons, List.map_nil, List.replicate_succ, List.replicate_zero, List.cons_append, List.nil_append, Nat.reduceAdd, Nat.reduceSub, Nat.reduceLeDiff, Nat.zero_add, Nat.sub_zero, Nat.add_zero, if_true, if_false, Bool.false_eq_true, Nat.reduceEqDiff, Bool.not_true, Bool.not_false, decide_true, decide_false, ev_nat]
      simp only [ev_C, ev_V, ev_B, ev_aN, ev_aC, ev_Tup, ev_Lst, ev_Bin, ev_Un, ev_UnF, ev_cV, ev_cAnd, ev_cOr, ev_cNot, ev_cYes, ev_And, ev_Or, ev_Not, ev_If, ev_Chain, ev_Call, ev_Ix, ev_Sl, ev_oN, ev_oE, ev_aS, ev_Comp, ev_iAny, ev_iRange1, ev_iRange2, ev_iZip, ev_iEnum, ev_sNil, ev_sSeq, ev_sIf, ev_sRet, ev_sRetO, ev_sRetN, ev_sAsg, ev_sSet, ev_sSetO, ev_sPar, ev_sFor, ev_sWhile, ev_sApp, ev_sIxO, ev_sIxC, ev_sFrz, ev_sExp, ev_sPass, ev_runB, ev_forN, ev_compN, ev_put0, ev_put1, ev_wipe0, ev_wipe1, ev_bnm, ev_btup, ev_bL0, ev_bL1, dv_add, dv_sub, dv_neg, dv_lt, dv_le, dv_gt, dv_ge, dv_int, dv_abs, dv_lenL, dv_lenT, dv_tupL, dv_tupT, dv_lofL, dv_lofT, dv_lofS, dv_seqL, dv_seqT, dv_ixL, dv_ixT, dv_ixO, atI_0, atI_1, atI_2, Option.bind_some, Option.bind_none, List.getElem?_cons_zero, List.getElem?_cons_succ, List.getElem?_nil, List.set_cons_zero, List.set_cons_succ, List.set_nil, List.length_cons, List.length_nil, List.map_cons, List.map_nil, List.replicate_succ, List.replicate_zero, List.cons_append, List.nil_append, Nat.reduceAdd, Nat.reduceSub, Nat.reduceLeDiff, Nat.zero_add, Nat.sub_zero, Nat.add_zero, if_true, if_false, Bool.false_eq_true, Nat.reduceEqDiff, Bool.not_true, Bool.not_false, decide_true, decide_false, ev_nat, z1, z2, e1, e2]
  · rw [x.g, h.g, List.map_append, List.map_cons, List.map_nil, gcdL_snoc]
  · rw [List.length_append]
    exact x.b1
  · rw [List.length_append]
    have q : 1 + (es.length + [e].length) * n = 1 + es.length * n + n := by
      show 1 + (es.length + 1) * n = _
      rw [Nat.add_mul, Nat.one_mul]; omega
    rw [q]
    have := s2
    rw [Nat.max_self] at this
    exact this
  · have hf0 : f'.sat t u ↔ has f'.b f'.c t := by
      unfold Eq3.sat has
      rw [x.z]
      have : u * ((0 : Int) : Rat) + t * (f'.b : Rat) = t * (f'.b : Rat) := by grind
      rw [this]
    constructor
    · intro q
      have q1 := (hsat t u).mp fun y hy => q y (List.mem_append_left _ hy)
      have q2 := (x.s t u).mpr ⟨q1.1, q e (List.mem_append_right _ List.mem_cons_self)⟩
      exact ⟨q2.1, q1.2, hf0.mp q2.2⟩
    · rintro ⟨q1, q2, q3⟩
      have q4 := (x.s t u).mp ⟨q1, hf0.mpr q3⟩
      have q5 := (hsat t u).mpr ⟨q4.1, q2⟩
      intro y hy
      rcases List.mem_append.mp hy with hy | hy
      · exact q5 y hy
      · have : y = e := by simpa using hy
        rw [this]
        exact q4.2
theorem eqD3_zero : eqD3 ⟨0, 0, 0⟩ = .tup [.int 0, .int 0, .tup [.int 0, .int 1]] := rfl
theorem m_solved_ex {N n A H b : Nat} (hN : 0 < N) (hn : N < 2 ^ n) (hn64 : n ≤ 32) (hA : A < 2 ^ 29) (es : List Eq3) (hes : ∀ x ∈ es, x.a.natAbs ≤ A ∧ x.b.natAbs ≤ H ∧ MN N x.c) (hb : Bd H A es.length < 2 ^ b) (hb2 : b ≤ 7999) (hsz : 1 + es.length * n ≤ 8000) (hg : gcdL (es.map (·.a)) = 1) (S : List D) :
    ∃ o, m_solved [.lst (es.map eqD3)] S = some (solOut o, S) ∧ (o = none → ∀ t u, ¬ ∀ e ∈ es, e.sat t u) ∧
      ∀ r d c, o = some (r, d, c) → GR b (1 + es.length * n) r ∧ d.natAbs < 2 ^ b ∧ MN N c ∧ ∀ t u, (∀ e ∈ es, e.sat t u) ↔ (hasR r t ∧ Eqv u (c - t * (d : Rat))) := by
  have loop : ∃ m o s3 s4, forL (.nm 3) solIn (es.map eqD3) [.val (.lst (es.map eqD3)), .val (eqD3 ⟨0, 0, 0⟩), .val (roD (some (0, 0))), .non, .non] S = some (.nx [.val (.lst (es.map eqD3)), .val (eqD3 m), .val (roD o), s3, s4] S) ∧ Sol N A H b n es m o := by
    have go : ∀ (rest pre : List Eq3) (m : Eq3) (o : Option (Nat × Rat)) (s3 s4 : Slot), pre ++ rest = es → Sol N A H b n pre m o →
        ∃ m' o' s3' s4', forL (.nm 3) solIn (rest.map eqD3) [.val (.lst (es.map eqD3)), .val (eqD3 m), .val (roD o), s3, s4] S = some (.nx [.val (.lst (es.map eqD3)), .val (eqD3 m'), .val (roD o'), s3', s4'] S) ∧ Sol N A H b n es m' o' := by
      intro rest
      induction rest with
      | nil =>
        intro pre m o s3 s4 h q
        rw [List.append_nil] at h
        subst h
        exact ⟨m, o, s3, s4, rfl, q⟩
      | cons e rest ih =>
        intro pre m o s3 s4 h q
        have he : e ∈ es := by rw [← h]; exact List.mem_append_right _ List.mem_cons_self
        have hp : ∀ x ∈ pre, x ∈ es := fun x hx => by rw [← h]; exact List.mem_append_left _ hx
        have hl : pre.length + 1 ≤ es.length := by rw [← h, List.length_append, List.length_cons]; omega
        have hbk : ∀ i j, i ≤ j → Bd H A i ≤ Bd H A j := by
          intro i j hij
          induction hij with
          | refl => exact Nat.le_refl _
          | step _ ih => exact Nat.le_trans ih (Nat.le_mul_of_pos_right _ (Nat.mul_pos (by omega) (by omega)))
        have hml : (pre.length + 1) * n ≤ es.length * n := Nat.mul_le_mul_right n hl
        obtain ⟨m1, o1, s4', e1, q1⟩ := sol_turn hN hn hn64 hA pre e (fun x hx => (hes x (hp x hx)).1) (hes e he).2.2 (hes e he).1 (hes e he).2.1 (Nat.lt_of_le_of_lt (hbk _ _ hl) hb) hb2 (by omega) q (.val (.lst (es.map eqD3))) s3 s4 S
        obtain ⟨m2, o2, s3', s4'', e2, q2⟩ := ih (pre ++ [e]) m1 o1 (.val (eqD3 e)) s4' (by rw [List.append_assoc]; exact h) q1
        refine ⟨m2, o2, s3', s4'', ?_, q2⟩
        rw [List.map_cons, ev_forC, ev_bnm, Option.bind_some, ev_put1, ev_put0]
        simp only [List.set_cons_succ, List.set_cons_zero]
        rw [e1, Option.bind_some]
        exact e2
    refine go es [] ⟨0, 0, 0⟩ (some (0, 0)) .non .non rfl ⟨rfl, MN.zero, Nat.zero_le _, fun _ => True, (says_all (b := b) (c := 0)).mono (Nat.le_refl _) (Nat.le_add_right 1 _), fun t u => ⟨fun _ => ⟨?_, trivial⟩, fun _ e he => nomatch he⟩⟩
    unfold Eq3.sat
    have : u * ((0 : Int) : Rat) + t * ((0 : Int) : Rat) = 0 := by grind
    rw [this]
    exact Eqv.refl 0
  obtain ⟨m, o, s3, s4, e1, q⟩ := loop
  obtain ⟨φ, hφ, hsat⟩ := q.r
  unfold m_solved
  rw [g_solved_is]
  have pre : ∀ (T : Sv), (sSeq (sPar 1 2 (eTup (aC (eC (.int 0)) (aC (eC (.int 0)) (aC (eTup (aC (eC (.int 0)) (aC (eC (.int 1)) aN))) aN)))) (eC k_ALL)) (sSeq (sFor (.nm 3) (iAny (eV 0)) solIn) T)) [.val (.lst (es.map eqD3)), .non, .non, .non, .non] S = T [.val (.lst (es.map eqD3)), .val (eqD3 m), .val (roD o), s3, s4] S := fun T => by
    refine (seq_nx (ρ' := [.val (.lst (es.map eqD3)), .val (eqD3 ⟨0, 0, 0⟩), .val (roD (some (0, 0))), .non, .non]) (S' := S) (by simp only [ev_C, ev_V, ev_B, ev_aN, ev_aC, ev_Tup, ev_Lst, ev_Bin, ev_Un, ev_UnF, ev_cV, ev_cAnd, ev_cOr, ev_cNot, ev_cYes, ev_And, ev_Or, ev_Not, ev_If, ev_Chain, ev_Call, ev_Ix, ev_Sl, ev_oN, ev_oE, ev_aS, ev_Comp, ev_iAny, ev_iRange1, ev_iRange2, ev_iZip, ev_iEnum, ev_sNil, ev_sSeq, ev_sIf, ev_sRet, ev_sRetO, ev_sRetN, ev_sAsg, ev_sSet, ev_sSetO, ev_sPar, ev_sFor, ev_sWhile, ev_sApp, ev_sIxO, ev_sIxC, ev_sFrz, ev_sExp, ev_sPass, ev_runB, ev_forN, ev_compN, ev_put0, ev_put1, ev_wipe0, ev_wipe1, ev_bnm, ev_btup, ev_bL0, ev_bL1, dv_add, dv_sub, dv_neg, dv_lt, dv_le, dv_gt, dv_ge, dv_int, dv_abs, dv_lenL, dv_lenT, dv_tupL, dv_tupT, dv_lofL, dv_lofT, dv_lofS, dv_seqL, dv_seqT, dv_ixL, dv_ixT, dv_ixO, atI_0, atI_1, atI_2, Option.bind_some, Option.bind_none, List.getElem?_cons_zero, List.getElem?_cons_succ, List.getElem?_nil, List.set_cons_zero, List.set_cons_succ, List.set_nil, List.length_cons, List.length_nil, List.map_cons, List.map_nil, List.replicate_succ, List.replicate_zero, List.cons_append, List.nil_append, Nat.reduceAdd, Nat.reduceSub, Nat.reduceLeDiff, Nat.zero_add, Nat.sub_zero, Nat.add_zero, if_true, if_false, Bool.false_eq_true, Nat.reduceEqDiff, Bool.not_true, Bool.not_false, decide_true, decide_false, ev_nat]; rfl)).trans ?_
    exact seq_nx (for_s (ds := es.map eqD3) (S' := S) rfl e1)
  cases o with
  | none =>
    refine ⟨none, ?_, fun _ t u w => hφ.no rfl t ((hsat t u).mp w).2, fun r d c z => nomatch z⟩
    refine run_rt (ρ := [.val (.lst (es.map eqD3)), .non, .non, .non, .non]) rfl ?_
    rw [pre]
    simp only [ev_C, ev_V, ev_B, ev_aN, ev_aC, ev_Tup, ev_Lst, ev_Bin, ev_Un, ev_UnF, ev_cV, ev_cAnd, ev_cOr, ev_cNot, ev_cYes, ev_And, ev_Or, ev_Not, ev_If, ev_Chain, ev_Call, ev_Ix, ev_Sl, ev_oN, ev_oE, ev_aS, ev_Comp, ev_iAny, ev_iRange1, ev_iRange2, ev_iZip, ev_iEnum, ev_sNil, ev_sSeq, ev_sIf, ev_sRet, ev_sRetO, ev_sRetN, ev_sAsg, ev_sSet, ev_sSetO, ev_sPar, ev_sFor, ev_sWhile, ev_sApp, ev_sIxO, ev_sIxC, ev_sFrz, ev_sExp, ev_sPass, ev_runB, ev_forN, ev_compN, ev_put0, ev_put1, ev_wipe0, ev_wipe1, ev_bnm, ev_btup, ev_bL0, ev_bL1, dv_add, dv_sub, dv_neg, dv_lt, dv_le, dv_gt, dv_ge, dv_int, dv_abs, dv_lenL, dv_lenT, dv_tupL, dv_tupT, dv_lofL, dv_lofT, dv_lofS, dv_seqL, dv_seqT, dv_ixL, dv_ixT, dv_ixO, atI_0, atI_1, atI_2, Option.bind_some, Option.bind_none, List.getElem?_cons_zero, List.getElem?_cons_succ, List.getElem?_nil, List.set_cons_zero, List.set_cons_succ, List.set_nil, List.length_cons, List.length_nil, List.map_cons, List.map_nil, List.replicate_succ, List.replicate_zero, List.cons_append, List.nil_append, Nat.reduceAdd, Nat.reduceSub, Nat.reduceLeDiff, Nat.zero_add, Nat.sub_zero, Nat.add_zero, if_true, if_false, Bool.false_eq_true, Nat.reduceEqDiff, Bool.not_true, Bool.not_false, decide_true, decide_false, ev_nat, roD, dIsN, isNonD, solOut]
  | some r =>
    obtain ⟨gr, hr⟩ := hφ.yes r rfl
    have m1 : m.a.natAbs = 1 := by rw [q.g, hg]
    have z0 : ixD S (eqD3 m) (.int 0) = some (.int m.a) := by unfold eqD3; simp only [ev_C, ev_V, ev_B, ev_aN, ev_aC, ev_Tup, ev_Lst, ev_Bin, ev_Un, ev_UnF, ev_cV, ev_cAnd, ev_cOr, ev_cNot, ev_cYes, ev_And, ev_Or, ev_Not, ev_If, ev_Chain, ev_Call, ev_Ix, ev_Sl, ev_oN, ev_oE, ev_aS, ev_Comp, ev_iAny, ev_iRange1, ev_iRange2, ev_iZip, ev_iEnum, ev_sNil, ev_sSeq, ev_sIf, ev_sRet, ev_sRetO, ev_sRetN, ev_sAsg, ev_sSet, ev_sSetO, ev_sPar, ev_sFor, ev_sWhile, ev_sApp, ev_sIxO, ev_sIxC, ev_sFrz, ev_sExp, ev_sPass, ev_runB, ev_forN, ev_compN, ev_put0, ev_put1, ev_wipe0, ev_wipe1, ev_bnm, ev_btup, ev_bL0, ev_bL1, dv_add, dv_sub, dv_neg, dv_lt, dv_le, dv_gt, dv_ge, dv_int, dv_abs, dv_lenL, dv_lenT, dv_tupL, dv_tupT, dv_lofL, dv_lofT, dv_lofS, dv_seqL, dv_seqT, dv_ixL, dv_ixT, dv_ixO, atI_0, atI_1, atI_2, Option.bind_some, Option.bind_none, List.getElem?_cons_zero, List.getElem?_cons_succ, List.getElem?_nil, List.set_cons_zero, List.set_cons_succ, List.set_nil, List.length_cons, List.length_nil, List.map_cons, List.map_nil, List.replicate_succ, List.replicate_zero, List.cons_append, List.nil_append, Nat.reduceAdd, Nat.reduceSub, Nat.reduceLeDiff, Nat.zero_add, Nat.sub_zero, Nat.add_zero, if_true, if_false, Bool.false_eq_true, Nat.reduceEqDiff, Bool.not_true, Bool.not_false, decide_true, decide_false, ev_nat]
    have z1 : ixD S (eqD3 m) (.int 1) = some (.int m.b) := by unfold eqD3; simp only [ev_C, ev_V, ev_B, ev_aN, ev_aC, ev_Tup, ev_Lst, ev_Bin, ev_Un, ev_UnF, ev_cV, ev_cAnd, ev_cOr, ev_cNot, ev_cYes, ev_And, ev_Or, ev_Not, ev_If, ev_Chain, ev_Call, ev_Ix, ev_Sl, ev_oN, ev_oE, ev_aS, ev_Comp, ev_iAny, ev_iRange1, ev_iRange2, ev_iZip, ev_iEnum, ev_sNil, ev_sSeq, ev_sIf, ev_sRet, ev_sRetO, ev_sRetN, ev_sAsg, ev_sSet, ev_sSetO, ev_sPar, ev_sFor, ev_sWhile, ev_sApp, ev_sIxO, ev_sIxC, ev_sFrz, ev_sExp, ev_sPass, ev_runB, ev_forN, ev_compN, ev_put0, ev_put1, ev_wipe0, ev_wipe1, ev_bnm, ev_btup, ev_bL0, ev_bL1, dv_add, dv_sub, dv_neg, dv_lt, dv_le, dv_gt, dv_ge, dv_int, dv_abs, dv_lenL, dv_lenT, dv_tupL, dv_tupT, dv_lofL, dv_lofT, dv_lofS, dv_seqL, dv_seqT, dv_ixL, dv_ixT, dv_ixO, atI_0, atI_1, atI_2, Option.bind_some, Option.bind_none, List.getElem?_cons_zero, List.getElem?_cons_succ, List.getElem?_nil, List.set_cons_zero, List.set_cons_succ, List.set_nil, List.length_cons, List.length_nil, List.map_cons, List.map_nil, List.replicate_succ, List.replicate_zero, List.cons_append, List.nil_append, Nat.reduceAdd, Nat.reduceSub, Nat.reduceLeDiff, Nat.zero_add, Nat.sub_zero, Nat.add_zero, if_true, if_false, Bool.false_eq_true, Nat.reduceEqDiff, Bool.not_true, Bool.not_false, decide_true, decide_false, ev_nat]
    have z2 : ixD S (eqD3 m) (.int 2) = some (dR m.c) := by unfold eqD3; simp only [ev_C, ev_V, ev_B, ev_aN, ev_aC, ev_Tup, ev_Lst, ev_Bin, ev_Un, ev_UnF, ev_cV, ev_cAnd, ev_cOr, ev_cNot, ev_cYes, ev_And, ev_Or, ev_Not, ev_If, ev_Chain, ev_Call, ev_Ix, ev_Sl, ev_oN, ev_oE, ev_aS, ev_Comp, ev_iAny, ev_iRange1, ev_iRange2, ev_iZip, ev_iEnum, ev_sNil, ev_sSeq, ev_sIf, ev_sRet, ev_sRetO, ev_sRetN, ev_sAsg, ev_sSet, ev_sSetO, ev_sPar, ev_sFor, ev_sWhile, ev_sApp, ev_sIxO, ev_sIxC, ev_sFrz, ev_sExp, ev_sPass, ev_runB, ev_forN, ev_compN, ev_put0, ev_put1, ev_wipe0, ev_wipe1, ev_bnm, ev_btup, ev_bL0, ev_bL1, dv_add, dv_sub, dv_neg, dv_lt, dv_le, dv_gt, dv_ge, dv_int, dv_abs, dv_lenL, dv_lenT, dv_tupL, dv_tupT, dv_lofL, dv_lofT, dv_lofS, dv_seqL, dv_seqT, dv_ixL, dv_ixT, dv_ixO, atI_0, atI_1, atI_2, Option.bind_some, Option.bind_none, List.getElem?_cons_zero, List.getElem?_cons_succ, List.getElem?_nil, List.set_cons_zero, List.set_cons_succ, List.set_nil, List.length_cons, List.length_nil, List.map_cons, List.map_nil, List.replicate_succ, List.replicate_zero, List.cons_append, List.nil_append, Nat.reduceAdd, Nat.reduceSub, Nat.reduceLeDiff, Nat.zero_add, Nat.sub_zero, Nat.add_zero, if_true, if_false, Bool.false_eq_true, Nat.reduceEqDiff, Bool.not_true, Bool.not_false, decide_true, decide_false, ev_nat]
    have hmb : m.b.natAbs < 2 ^ b := Nat.lt_of_le_of_lt q.bd hb
    by_cases hneg : m.a < 0
    · have et := m_turned64 (q.c.P hN hn) (by omega) (k := -1) S
      refine ⟨some (r, -m.b, K.fr (m.c * ((-1 : Int) : Rat))), ?_, fun z => (nomatch z), fun r' d c z => ?_⟩
      · refine run_rt (ρ := [.val (.lst (es.map eqD3)), .non, .non, .non, .non]) rfl ?_
        rw [pre]
        have e1 : dNeg (.int 1) = some (.int (-1)) := rfl
        simp only [ev_C, ev_V, ev_B, ev_aN, ev_aC, ev_Tup, ev_Lst, ev_Bin, ev_Un, ev_UnF, ev_cV, ev_cAnd, ev_cOr, ev_cNot, ev_cYes, ev_And, ev_Or, ev_Not, ev_If, ev_Chain, ev_Call, ev_Ix, ev_Sl, ev_oN, ev_oE, ev_aS, ev_Comp, ev_iAny, ev_iRange1, ev_iRange2, ev_iZip, ev_iEnum, ev_sNil, ev_sSeq, ev_sIf, ev_sRet, ev_sRetO, ev_sRetN, ev_sAsg, ev_sSet, ev_sSetO, ev_sPar, ev_sFor, ev_sWhile, ev_sApp, ev_sIxO, ev_sIxC, ev_sFrz, ev_sExp, ev_sPass, ev_runB, ev_forN, ev_compN, ev_put0, ev_put1, ev_wipe0, ev_wipe1, ev_bnm, ev_btup, ev_bL0, ev_bL1, dv_add, dv_sub, dv_neg, dv_lt, dv_le, dv_gt, dv_ge, dv_int, dv_abs, dv_lenL, dv_lenT, dv_tupL, dv_tupT, dv_lofL, dv_lofT, dv_lofS, dv_seqL, dv_seqT, dv_ixL, dv_ixT, dv_ixO, atI_0, atI_1, atI_2, Option.bind_some, Option.bind_none, List.getElem?_cons_zero, List.getElem?_cons_succ, List.getElem?_nil, List.set_cons_zero, List.set_cons_succ, List.set_nil, List.length_cons, List.length_nil, List.map_cons, List.map_nil, List.replicate_succ, List.replicate_zero, List.cons_append, List.nil_append, Nat.reduceAdd, Nat.reduceSub, Nat.reduceLeDiff, Nat.zero_add, Nat.sub_zero, Nat.add_zero, if_true, if_false, Bool.false_eq_true, Nat.reduceEqDiff, Bool.not_true, Bool.not_false, decide_true, decide_false, ev_nat, roD, rowD, dIsN, isNonD, solOut, z0, z1, z2, decide_eq_true hneg, et]
      · cases z
        refine ⟨gr, by rw [Int.natAbs_neg]; exact hmb, q.c.mul _, fun t u => ?_⟩
        rw [hsat, hr]
        have ea : m.a = -1 := by omega
        have eq : m.sat t u ↔ Eqv u (K.fr (m.c * ((-1 : Int) : Rat)) - t * ((-m.b : Int) : Rat)) := by
          unfold Eq3.sat
          rw [ea]
          have e1 : u * ((-1 : Int) : Rat) = -u := by rw [Rat.intCast_neg]; show u * (-(1 : Rat)) = -u; grind
          have e2 : m.c * ((-1 : Int) : Rat) = -m.c := by rw [Rat.intCast_neg]; show m.c * (-(1 : Rat)) = -m.c; grind
          rw [e1, e2, Rat.intCast_neg]
          have f := fr_eqv (-m.c)
          constructor
          · intro w
            have w1 := (w.sub (Eqv.refl (t * (m.b : Rat)))).neg
            have w2 := (f.symm).sub (Eqv.refl (t * (-(m.b : Rat))))
            exact ((Eqv.of_eq (by grind)).trans w1).trans ((Eqv.of_eq (by grind)).trans w2)
          · intro w
            have w1 := w.trans (f.sub (Eqv.refl (t * (-(m.b : Rat)))))
            have w2 := (w1.neg).add (Eqv.refl (t * (m.b : Rat)))
            exact ((Eqv.of_eq (by grind)).trans w2).trans (Eqv.of_eq (by grind))
        rw [eq]
        exact And.comm
    · refine ⟨some (r, m.b, m.c), ?_, fun z => (nomatch z), fun r' d c z => ?_⟩
      · refine run_rt (ρ := [.val (.lst (es.map eqD3)), .non, .non, .non, .non]) rfl ?_
        rw [pre]
        simp only [ev_C, ev_V, ev_B, ev_aN, ev_aC, ev_Tup, ev_Lst, ev_Bin, ev_Un, ev_UnF, ev_cV, ev_cAnd, ev_cOr, ev_cNot, ev_cYes, ev_And, ev_Or, ev_Not, ev_If, ev_Chain, ev_Call, ev_Ix, ev_Sl, ev_oN, ev_oE, ev_aS, ev_Comp, ev_iAny, ev_iRange1, ev_iRange2, ev_iZip, ev_iEnum, ev_sNil, ev_sSeq, ev_sIf, ev_sRet, ev_sRetO, ev_sRetN, ev_sAsg, ev_sSet, ev_sSetO, ev_sPar, ev_sFor, ev_sWhile, ev_sApp, ev_sIxO, ev_sIxC, ev_sFrz, ev_sExp, ev_sPass, ev_runB, ev_forN, ev_compN, ev_put0, ev_put1, ev_wipe0, ev_wipe1, ev_bnm, ev_btup, ev_bL0, ev_bL1, dv_add, dv_sub, dv_neg, dv_lt, dv_le, dv_gt, dv_ge, dv_int, dv_abs, dv_lenL, dv_lenT, dv_tupL, dv_tupT, dv_lofL, dv_lofT, dv_lofS, dv_seqL, dv_seqT, dv_ixL, dv_ixT, dv_ixO, atI_0, atI_1, atI_2, Option.bind_some, Option.bind_none, List.getElem?_cons_zero, List.getElem?_cons_succ, List.getElem?_nil, List.set_cons_zero, List.set_cons_succ, List.set_nil, List.length_cons, List.length_nil, List.map_cons, List.map_nil, List.replicate_succ, List.replicate_zero, List.cons_append, List.nil_append, Nat.reduceAdd, Nat.reduceSub, Nat.reduceLeDiff, Nat.zero_add, Nat.sub_zero, Nat.add_zero, if_true, if_false, Bool.false_eq_true, Nat.reduceEqDiff, Bool.not_true, Bool.not_false, decide_true, decide_false, ev_nat, roD, rowD, dIsN, isNonD, solOut, z0, z1, z2, decide_eq_false hneg]
      · cases z
        refine ⟨gr, hmb, q.c, fun t u => ?_⟩
        rw [hsat, hr]
        have ea : m.a = 1 := by omega
        have eq : m.sat t u ↔ Eqv u (m.c - t * (m.b : Rat)) := by
          unfold Eq3.sat
          rw [ea]
          have e1 : u * ((1 : Int) : Rat) = u := by show u * (1 : Rat) = u; grind
          rw [e1]
          constructor
          · intro w
            have w1 := w.sub (Eqv.refl (t * (m.b : Rat)))
            exact (Eqv.of_eq (by grind)).trans w1
          · intro w
            have w1 := w.add (Eqv.refl (t * (m.b : Rat)))
            exact w1.trans (Eqv.of_eq (by grind))
        rw [eq]
        exact And.comm
def sgn (c : Nat) : PySem.Str := ⟨#[c]⟩
def cds (x : PySem.Str) : List Nat := x.cps.toList
theorem sgn_inj {c d : Nat} : sgn c = sgn d ↔ c = d := by
  constructor
  · intro h
    unfold sgn at h
    injection h with h
    have := congrArg Array.toList h
    simpa using this
  · rintro rfl; rfl
def okS (l : List Nat) : Prop := ∀ c ∈ l, PySem.PyData.strOk (sgn c) = true
theorem dv_eqS (x y : PySem.Str) (hx : PySem.PyData.strOk x = true) (hy : PySem.PyData.strOk y = true) : dEq (.str x) (.str y) = some (.bl (decide (x = y))) := by
  unfold dEq
  simp only [okD, hx, hy, Bool.and_self, if_true, eqD]
  rw [Bool.beq_eq_decide_eq]
def tupN (e : List Nat) : D := .tup (e.map fun (k : Nat) => D.int (k : Int))
theorem allInt_map (e : List Nat) : allInt (e.map fun (k : Nat) => D.int (k : Int)) = true := by
  induction e with
  | nil => rfl
  | cons k e ih => simpa [allInt] using ih
theorem inI_map (e : List Nat) (i : Nat) : inI (i : Int) (e.map fun (k : Nat) => D.int (k : Int)) = decide (i ∈ e) := by
  induction e with
  | nil => rfl
  | cons k e ih =>
    simp only [List.map_cons, inI, ih, List.mem_cons]
    by_cases h : i = k
    · subst h; simp
    · have : ((k : Int) == (i : Int)) = false := beq_eq_false_iff_ne.mpr (by omega)
      rw [this, Bool.false_or]
      simp [h]
theorem dv_niN (e : List Nat) (i : Nat) : dNi (.int (i : Int)) (tupN e) = some (.bl (!decide (i ∈ e))) := by
  have e1 : inB (.int (i : Int)) (tupN e) = if allInt (e.map fun (k : Nat) => D.int (k : Int)) = true then some (inI (i : Int) (e.map fun (k : Nat) => D.int (k : Int))) else none := rfl
  unfold dNi
  rw [e1, allInt_map, if_pos rfl, inI_map]
  rfl
def enN : Nat → List Nat → List (Nat × Nat)
  | _, [] => []
  | n, c :: b => (n, c) :: enN (n + 1) b
def enE (p : Nat × Nat) : D := .tup [.int (p.1 : Int), .str (sgn p.2)]
theorem enumD_is : ∀ (n : Nat) (b : List Nat), enumD n (b.map fun c => D.str (sgn c)) = (enN n b).map enE
  | _, [] => rfl
  | n, c :: b => by
    show D.tup [.int n, .str (sgn c)] :: enumD (n + 1) _ = _
    rw [enumD_is (n + 1) b]
    rfl
theorem mem_enN : ∀ (n : Nat) (b : List Nat) (p : Nat × Nat), p ∈ enN n b ↔ n ≤ p.1 ∧ b[p.1 - n]? = some p.2
  | n, [], p => by simp [enN]
  | n, c :: b, p => by
    obtain ⟨k, d⟩ := p
    unfold enN
    rw [List.mem_cons, mem_enN (n + 1) b]
    by_cases h : k = n
    · subst h
      simp only [Nat.sub_self, List.getElem?_cons_zero]
      constructor
      · rintro (h | h)
        · injection h with _ h; subst h; exact ⟨Nat.le_refl _, rfl⟩
        · omega
      · rintro ⟨_, h⟩
        injection h with h
        exact .inl (by rw [h])
    · constructor
      · rintro (h' | ⟨h1, h2⟩)
        · injection h' with h' _; exact absurd h' h
        · refine ⟨by omega, ?_⟩
          have : k - n = (k - (n + 1)) + 1 := by omega
          show (c :: b)[k - n]? = _
          rw [this, List.getElem?_cons_succ]
          exact h2
      · rintro ⟨h1, h2⟩
        have h1 : n ≤ k := h1
        have : k - n = (k - (n + 1)) + 1 := by omega
        have h2 : (c :: b)[k - n]? = some d := h2
        rw [this, List.getElem?_cons_succ] at h2
        exact .inr ⟨by show n + 1 ≤ k; omega, h2⟩
def exRow (b : List Nat) (c : Nat) (row : List Nat) : List (List Nat) := ((enN 0 b).filter fun p => decide (p.2 = c) && !decide (p.1 ∈ row)).map fun p => row ++ [p.1]
def exStep (b : List Nat) (c : Nat) (f : List (List Nat)) : List (List Nat) := f.flatMap (exRow b c)
def exs (a b : List Nat) : List (List Nat) := a.foldl (fun f c => exStep b c f) [[]]
theorem exs_snoc (a b : List Nat) (c : Nat) : exs (a ++ [c]) b = exStep b c (exs a b) := by
  unfold exs
  rw [List.foldl_append]
  rfl
theorem mem_exRow {b : List Nat} {c : Nat} {row e : List Nat} : e ∈ exRow b c row ↔ ∃ k, b[k]? = some c ∧ k ∉ row ∧ e = row ++ [k] := by
  unfold exRow
  rw [List.mem_map]
  constructor
  · rintro ⟨p, hp, rfl⟩
    obtain ⟨h1, h2⟩ := List.mem_filter.mp hp
    rw [Bool.and_eq_true, decide_eq_true_eq, Bool.not_eq_true', decide_eq_false_iff_not] at h2
    have := ((mem_enN 0 b p).mp h1).2
    rw [Nat.sub_zero, h2.1] at this
    exact ⟨p.1, this, h2.2, rfl⟩
  · rintro ⟨k, h1, h2, rfl⟩
    exact ⟨(k, c), List.mem_filter.mpr ⟨(mem_enN 0 b (k, c)).mpr ⟨Nat.zero_le _, by simpa using h1⟩, by simp [h2]⟩, rfl⟩
theorem mem_exs (b : List Nat) : ∀ (n : Nat) (a : List Nat), a.length = n → ∀ e, e ∈ exs a b ↔ IsEx a b e := by
  intro n
  induction n with
  | zero =>
    intro a h e
    have : a = [] := List.eq_nil_of_length_eq_zero h
    subst this
    unfold exs IsEx
    simp only [List.foldl_nil, List.mem_singleton, List.map_nil, List.map_eq_nil_iff]
    constructor
    · rintro rfl; exact ⟨List.nodup_nil, rfl⟩
    · exact fun h => h.2
  | succ n ih =>
    intro a h e
    obtain ⟨a', c, rfl⟩ : ∃ a' c, a = a' ++ [c] := ⟨a.dropLast, a.getLast (by intro z; rw [z] at h; cases h), (List.dropLast_concat_getLast _).symm⟩
    have ha : a'.length = n := by rw [List.length_append] at h; simpa using h
    rw [exs_snoc]
    unfold exStep
    rw [List.mem_flatMap]
    constructor
    · rintro ⟨row, hr, he⟩
      obtain ⟨k, h1, h2, rfl⟩ := mem_exRow.mp he
      obtain ⟨i1, i2⟩ := (ih a' ha row).mp hr
      refine ⟨?_, ?_⟩
      · rw [List.nodup_append]
        exact ⟨i1, by simp, fun x hx y hy => by
          have : y = k := by simpa using hy
          subst this
          intro z
          subst z
          exact h2 hx⟩
      · rw [List.map_append, i2, List.map_append, List.map_cons, List.map_nil, h1]
        rfl
    · rintro ⟨h1, h2⟩
      rw [List.map_append] at h2
      have hl := congrArg List.length h2
      have ne : e ≠ [] := by
        intro z
        subst z
        simp at hl
      obtain ⟨row, k, rfl⟩ : ∃ row k, e = row ++ [k] := ⟨e.dropLast, e.getLast ne, (List.dropLast_concat_getLast _).symm⟩
      rw [List.map_append] at h2
      have h3 := List.append_inj' h2 rfl
      rw [List.nodup_append] at h1
      have hk : b[k]? = some c := by simpa using h3.2
      exact ⟨row, (ih a' ha row).mpr ⟨h1.1, h3.1⟩, mem_exRow.mpr ⟨k, hk, fun z => h1.2.2 k z k (by simp) rfl, rfl⟩⟩
theorem len_enN : ∀ (n : Nat) (b : List Nat), (enN n b).length = b.length
  | _, [] => rfl
  | n, c :: b => congrArg (· + 1) (len_enN (n + 1) b)
theorem len_exStep (b : List Nat) (c : Nat) : ∀ (f : List (List Nat)), (exStep b c f).length ≤ f.length * b.length
  | [] => by simp [exStep]
  | r :: f => by
    have ih := len_exStep b c f
    unfold exStep at ih ⊢
    rw [List.flatMap_cons, List.length_append, List.length_cons, Nat.add_mul, Nat.one_mul]
    have : (exRow b c r).length ≤ b.length := by
      unfold exRow
      rw [List.length_map, ← len_enN 0 b]
      exact List.length_filter_le _ _
    omega
theorem cAnd_s {c c2 : Et} {ρ : List Slot} {S : List D} {p q : Bool} (h : c ρ S = some (p, S)) (h2 : c2 ρ S = some (q, S)) : cAnd c c2 ρ S = some (p && q, S) := by
  rw [ev_cAnd, h, Option.bind_some]
  cases p
  · rfl
  · simpa using h2
theorem ex_inner (b : List Nat) (c : Nat) (row : List Nat) (hb : okS b) (hc : PySem.PyData.strOk (sgn c) = true) (hl : row.length ≤ 1000) (s0 s1 s2 : Slot) (S : List D) :
    compL (.tup [(.nm 5), (.nm 6)]) (cAnd (cV (eBin dEq (eB 6) (eB 3))) (cV (eBin dNi (eB 5) (eB 4)))) (eTup (aS (eB 4) (aC (eV 5) aN))) [s0, s1, s2, .val (.str (sgn c)), .val (tupN row), .non, .non] (enumD 0 (b.map fun c => D.str (sgn c))) S = some ((exRow b c row).map tupN, S) := by
  rw [enumD_is]
  have q := compL_filter (p := .tup [(.nm 5), (.nm 6)]) (c := (cAnd (cV (eBin dEq (eB 6) (eB 3))) (cV (eBin dNi (eB 5) (eB 4))))) (f := (eTup (aS (eB 4) (aC (eV 5) aN)))) (ρ := [s0, s1, s2, .val (.str (sgn c)), .val (tupN row), .non, .non]) (S := S) enE (fun p => tupN (row ++ [p.1])) (fun p => decide (p.2 = c) && !decide (p.1 ∈ row)) (enN 0 b) (fun p hp => ?_)
  · rw [q]
    unfold exRow
    rw [List.map_map]
    rfl
  · have hp2 : p.2 ∈ b := List.mem_of_getElem? ((mem_enN 0 b p).mp hp).2
    have e1 : binds (.tup [(.nm 5), (.nm 6)]) (enE p) = some [(5, .int (p.1 : Int)), (6, .str (sgn p.2))] := by unfold enE; simp only [ev_C, ev_V, ev_B, ev_aN, ev_aC, ev_Tup, ev_Lst, ev_Bin, ev_Un, ev_UnF, ev_cV, ev_cAnd, ev_cOr, ev_cNot, ev_cYes, ev_And, ev_Or, ev_Not, ev_If, ev_Chain, ev_Call, ev_Ix, ev_Sl, ev_oN, ev_oE, ev_aS, ev_Comp, ev_iAny, ev_iRange1, ev_iRange2, ev_iZip, ev_iEnum, ev_sNil, ev_sSeq, ev_sIf, ev_sRet, ev_sRetO, ev_sRetN, ev_sAsg, ev_sSet, ev_sSetO, ev_sPar, ev_sFor, ev_sWhile, ev_sApp, ev_sIxO, ev_sIxC, ev_sFrz, ev_sExp, ev_sPass, ev_runB, ev_forN, ev_compN, ev_put0, ev_put1, ev_wipe0, ev_wipe1, ev_bnm, ev_btup, ev_bL0, ev_bL1, dv_add, dv_sub, dv_neg, dv_lt, dv_le, dv_gt, dv_ge, dv_int, dv_abs, dv_lenL, dv_lenT, dv_tupL, dv_tupT, dv_lofL, dv_lofT, dv_lofS, dv_seqL, dv_seqT, dv_ixL, dv_ixT, dv_ixO, atI_0, atI_1, atI_2, Option.bind_some, Option.bind_none, List.getElem?_cons_zero, List.getElem?_cons_succ, List.getElem?_nil, List.set_cons_zero, List.set_cons_succ, List.set_nil, List.length_cons, List.length_nil, List.map_cons, List.map_nil, List.replicate_succ, List.replicate_zero, List.cons_append, List.nil_append, Nat.reduceAdd, Nat.reduceSub, Nat.reduceLeDiff, Nat.zero_add, Nat.sub_zero, Nat.add_zero, if_true, if_false, Bool.false_eq_true, Nat.reduceEqDiff, Bool.not_true, Bool.not_false, decide_true, decide_false, ev_nat]
    refine ⟨_, e1, ?_, fun _ => ?_⟩
    · rw [ev_put1, ev_put1, ev_put0]
      refine cAnd_s ?_ ?_
      · have := dv_eqS (sgn p.2) (sgn c) (hb _ hp2) hc
        have e2 : decide (sgn p.2 = sgn c) = decide (p.2 = c) := decide_eq_decide.mpr sgn_inj
        simp only [ev_C, ev_V, ev_B, ev_aN, ev_aC, ev_Tup, ev_Lst, ev_Bin, ev_Un, ev_UnF, ev_cV, ev_cAnd, ev_cOr, ev_cNot, ev_cYes, ev_And, ev_Or, ev_Not, ev_If, ev_Chain, ev_Call, ev_Ix, ev_Sl, ev_oN, ev_oE, ev_aS, ev_Comp, ev_iAny, ev_iRange1, ev_iRange2, ev_iZip, ev_iEnum, ev_sNil, ev_sSeq, ev_sIf, ev_sRet, ev_sRetO, ev_sRetN, ev_sAsg, ev_sSet, ev_sSetO, ev_sPar, ev_sFor, ev_sWhile, ev_sApp, ev_sIxO, ev_sIxC, ev_sFrz, ev_sExp, ev_sPass, ev_runB, ev_forN, ev_compN, ev_put0, ev_put1, ev_wipe0, ev_wipe1, ev_bnm, ev_btup, ev_bL0, ev_bL1, dv_add, dv_sub, dv_neg, dv_lt, dv_le, dv_gt, dv_ge, dv_int, dv_abs, dv_lenL, dv_lenT, dv_tupL, dv_tupT, dv_lofL, dv_lofT, dv_lofS, dv_seqL, dv_seqT, dv_ixL, dv_ixT, dv_ixO, atI_0, atI_1, atI_2, Option.bind_some, Option.bind_none, List.getElem?_cons_zero, List.getElem?_cons_succ, List.getElem?_nil, List.set_cons_zero, List.set_cons_succ, List.set_nil, List.length_cons, List.length_nil, List.map_cons, List.map_nil, List.replicate_succ, List.replicate_zero, List.cons_append, List.nil_append, Nat.reduceAdd, Nat.reduceSub, Nat.reduceLeDiff, Nat.zero_add, Nat.sub_zero, Nat.add_zero, if_true, if_false, Bool.false_eq_true, Nat.reduceEqDiff, Bool.not_true, Bool.not_false, decide_true, decide_false, ev_nat, this, e2]
      · simp only [ev_C, ev_V, ev_B, ev_aN, ev_aC, ev_Tup, ev_Lst, ev_Bin, ev_Un, ev_UnF, ev_cV, ev_cAnd, ev_cOr, ev_cNot, ev_cYes, ev_And, ev_Or, ev_Not, ev_If, ev_Chain, ev_Call, ev_Ix, ev_Sl, ev_oN, ev_oE, ev_aS, ev_Comp, ev_iAny, ev_iRange1, ev_iRange2, ev_iZip, ev_iEnum, ev_sNil, ev_sSeq, ev_sIf, ev_sRet, ev_sRetO, ev_sRetN, ev_sAsg, ev_sSet, ev_sSetO, ev_sPar, ev_sFor, ev_sWhile, ev_sApp, ev_sIxO, ev_sIxC, ev_sFrz, ev_sExp, ev_sPass, ev_runB, ev_forN, ev_compN, ev_put0, ev_put1, ev_wipe0, ev_wipe1, ev_bnm, ev_btup, ev_bL0, ev_bL1, dv_add, dv_sub, dv_neg, dv_lt, dv_le, dv_gt, dv_ge, dv_int, dv_abs, dv_lenL, dv_lenT, dv_tupL, dv_tupT, dv_lofL, dv_lofT, dv_lofS, dv_seqL, dv_seqT, dv_ixL, dv_ixT, dv_ixO, atI_0, atI_1, atI_2, Option.bind_some, Option.bind_none, List.getElem?_cons_zero, List.getElem?_cons_succ, List.getElem?_nil, List.set_cons_zero, List.set_cons_succ, List.set_nil, List.length_cons, List.length_nil, List.map_cons, List.map_nil, List.replicate_succ, List.replicate_zero, List.cons_append, List.nil_append, Nat.reduceAdd, Nat.reduceSub, Nat.reduceLeDiff, Nat.zero_add, Nat.sub_zero, Nat.add_zero, if_true, if_false, Bool.false_eq_true, Nat.reduceEqDiff, Bool.not_true, Bool.not_false, decide_true, decide_false, ev_nat, dv_niN]
    · rw [ev_put1, ev_put1, ev_put0]
      have e3 : (row.map fun (k : Nat) => D.int (k : Int)).length ≤ 16777215 := by rw [List.length_map]; omega
      simp only [ev_C, ev_V, ev_B, ev_aN, ev_aC, ev_Tup, ev_Lst, ev_Bin, ev_Un, ev_UnF, ev_cV, ev_cAnd, ev_cOr, ev_cNot, ev_cYes, ev_And, ev_Or, ev_Not, ev_If, ev_Chain, ev_Call, ev_Ix, ev_Sl, ev_oN, ev_oE, ev_aS, ev_Comp, ev_iAny, ev_iRange1, ev_iRange2, ev_iZip, ev_iEnum, ev_sNil, ev_sSeq, ev_sIf, ev_sRet, ev_sRetO, ev_sRetN, ev_sAsg, ev_sSet, ev_sSetO, ev_sPar, ev_sFor, ev_sWhile, ev_sApp, ev_sIxO, ev_sIxC, ev_sFrz, ev_sExp, ev_sPass, ev_runB, ev_forN, ev_compN, ev_put0, ev_put1, ev_wipe0, ev_wipe1, ev_bnm, ev_btup, ev_bL0, ev_bL1, dv_add, dv_sub, dv_neg, dv_lt, dv_le, dv_gt, dv_ge, dv_int, dv_abs, dv_lenL, dv_lenT, dv_tupL, dv_tupT, dv_lofL, dv_lofT, dv_lofS, dv_seqL, dv_seqT, dv_ixL, dv_ixT, dv_ixO, atI_0, atI_1, atI_2, Option.bind_some, Option.bind_none, List.getElem?_cons_zero, List.getElem?_cons_succ, List.getElem?_nil, List.set_cons_zero, List.set_cons_succ, List.set_nil, List.length_cons, List.length_nil, List.map_cons, List.map_nil, List.replicate_succ, List.replicate_zero, List.cons_append, List.nil_append, Nat.reduceAdd, Nat.reduceSub, Nat.reduceLeDiff, Nat.zero_add, Nat.sub_zero, Nat.add_zero, if_true, if_false, Bool.false_eq_true, Nat.reduceEqDiff, Bool.not_true, Bool.not_false, decide_true, decide_false, ev_nat, tupN, ev_aS, List.length_append, if_pos e3, List.map_append]
theorem ex_outer (b : List Nat) (c : Nat) (hb : okS b) (hc : PySem.PyData.strOk (sgn c) = true) (bs : PySem.Str) (hbs : cds bs = b) (s0 s2 : Slot) (S : List D) : ∀ (f : List (List Nat)), (∀ r ∈ f, r.length ≤ 1000) →
    compL2 (.nm 4) cYes (iEnum (aC (eV 1) aN)) (.tup [(.nm 5), (.nm 6)]) (cAnd (cV (eBin dEq (eB 6) (eB 3))) (cV (eBin dNi (eB 5) (eB 4)))) (eTup (aS (eB 4) (aC (eV 5) aN))) [5, 6] [s0, .val (.str bs), s2, .val (.str (sgn c)), .non, .non, .non] (f.map tupN) S = some ((exStep b c f).map tupN, S)
  | [], _ => rfl
  | r :: f, h => by
    have ih := ex_outer b c hb hc bs hbs s0 s2 S f (fun x hx => h x (List.mem_cons_of_mem _ hx))
    have hs : seqOf (.str bs) = some (b.map fun c => D.str (sgn c)) := by
      show some (bs.cps.toList.map fun c => D.str ⟨#[c]⟩) = _
      have : bs.cps.toList = b := hbs
      rw [this]; rfl
    have hi := ex_inner b c r hb hc (h r List.mem_cons_self) s0 (.val (.str bs)) s2 S
    unfold exStep at ih ⊢
    rw [List.map_cons, List.flatMap_cons, List.map_append]
    unfold compL2
    rw [ev_bnm, Option.bind_some, ev_put1, ev_put0, ev_cYes, Option.bind_some]
    simp only [if_true, List.set_cons_succ, List.set_cons_zero]
    simp only [ev_C, ev_V, ev_B, ev_aN, ev_aC, ev_Tup, ev_Lst, ev_Bin, ev_Un, ev_UnF, ev_cV, ev_cAnd, ev_cOr, ev_cNot, ev_cYes, ev_And, ev_Or, ev_Not, ev_If, ev_Chain, ev_Call, ev_Ix, ev_Sl, ev_oN, ev_oE, ev_aS, ev_Comp, ev_iAny, ev_iRange1, ev_iRange2, ev_iZip, ev_iEnum, ev_sNil, ev_sSeq, ev_sIf, ev_sRet, ev_sRetO, ev_sRetN, ev_sAsg, ev_sSet, ev_sSetO, ev_sPar, ev_sFor, ev_sWhile, ev_sApp, ev_sIxO, ev_sIxC, ev_sFrz, ev_sExp, ev_sPass, ev_runB, ev_forN, ev_compN, ev_put0, ev_put1, ev_wipe0, ev_wipe1, ev_bnm, ev_btup, ev_bL0, ev_bL1, dv_add, dv_sub, dv_neg, dv_lt, dv_le, dv_gt, dv_ge, dv_int, dv_abs, dv_lenL, dv_lenT, dv_tupL, dv_tupT, dv_lofL, dv_lofT, dv_lofS, dv_seqL, dv_seqT, dv_ixL, dv_ixT, dv_ixO, atI_0, atI_1, atI_2, Option.bind_some, Option.bind_none, List.getElem?_cons_zero, List.getElem?_cons_succ, List.getElem?_nil, List.set_cons_zero, List.set_cons_succ, List.set_nil, List.length_cons, List.length_nil, List.map_cons, List.map_nil, List.replicate_succ, List.replicate_zero, List.cons_append, List.nil_append, Nat.reduceAdd, Nat.reduceSub, Nat.reduceLeDiff, Nat.zero_add, Nat.sub_zero, Nat.add_zero, if_true, if_false, Bool.false_eq_true, Nat.reduceEqDiff, Bool.not_true, Bool.not_false, decide_true, decide_false, ev_nat, hs, hi]
    rw [ih, Option.bind_some]
theorem m_exchanges_eq (as bs : PySem.Str) (ha : okS (cds as)) (hb : okS (cds bs)) (la : (cds as).length ≤ 4) (lb : (cds bs).length ≤ 4) (S : List D) : m_exchanges [.str as, .str bs] S = some (.lst ((exs (cds as) (cds bs)).map tupN), S) := by
  unfold m_exchanges g_exchanges
  refine run_rt (ρ := [.val (.str as), .val (.str bs), .non, .non, .non, .non, .non]) rfl ?_
  refine (seq_nx (ρ' := [.val (.str as), .val (.str bs), .val (.lst [tupN []]), .non, .non, .non, .non]) (S' := S) rfl).trans ?_
  have hs : seqOf (.str as) = some ((cds as).map fun c => D.str (sgn c)) := rfl
  have go : ∀ (rest pre : List Nat) (s3 : Slot), pre ++ rest = cds as → (exs pre (cds bs)).length ≤ 4 ^ pre.length → (∀ e ∈ exs pre (cds bs), e.length = pre.length) →
      ∃ s3', forL (.nm 3) (sSet 2 (eComp2 (.nm 4) (iAny (eV 2)) cYes (iEnum (aC (eV 1) aN)) (.tup [(.nm 5), (.nm 6)]) (cAnd (cV (eBin dEq (eB 6) (eB 3))) (cV (eBin dNi (eB 5) (eB 4)))) (eTup (aS (eB 4) (aC (eV 5) aN))) [4, 5, 6] [5, 6])) (rest.map fun c => D.str (sgn c))
        [.val (.str as), .val (.str bs), .val (.lst ((exs pre (cds bs)).map tupN)), s3, .non, .non, .non] S = some (.nx [.val (.str as), .val (.str bs), .val (.lst ((exs (cds as) (cds bs)).map tupN)), s3', .non, .non, .non] S) := by
    intro rest
    induction rest with
    | nil =>
      intro pre s3 h _ _
      rw [List.append_nil] at h
      subst h
      exact ⟨s3, rfl⟩
    | cons c rest ih =>
      intro pre s3 h hl he
      have hc : c ∈ cds as := by rw [← h]; exact List.mem_append_right _ List.mem_cons_self
      have hpl : pre.length + 1 ≤ 4 := by
        have := congrArg List.length h
        rw [List.length_append, List.length_cons] at this
        omega
      have hl2 : (exs (pre ++ [c]) (cds bs)).length ≤ 4 ^ (pre.length + 1) := by
        rw [exs_snoc, Nat.pow_succ]
        exact Nat.le_trans (len_exStep _ _ _) (Nat.mul_le_mul hl lb)
      have he2 : ∀ e ∈ exs (pre ++ [c]) (cds bs), e.length = (pre ++ [c]).length := fun e hm => isEx_len ((mem_exs _ _ _ rfl e).mp hm)
      obtain ⟨s3', q⟩ := ih (pre ++ [c]) (.val (.str (sgn c))) (by rw [List.append_assoc]; exact h) (by rw [List.length_append]; exact hl2) he2
      refine ⟨s3', ?_⟩
      rw [List.map_cons, ev_forC, ev_bnm, Option.bind_some, ev_put1, ev_put0]
      have ho := ex_outer (cds bs) c hb (ha c hc) bs rfl (.val (.str as)) (.val (.lst ((exs pre (cds bs)).map tupN))) S (exs pre (cds bs)) (fun r hr => by rw [he r hr]; omega)
      have l4 : (4 : Nat) ^ (pre.length + 1) ≤ 4 ^ 4 := Nat.pow_le_pow_right (by decide) hpl
      have hz : ((exStep (cds bs) c (exs pre (cds bs))).map tupN).length ≤ 16777216 := by
        rw [List.length_map, ← exs_snoc]
        have : (4 : Nat) ^ 4 = 256 := rfl
        omega
      have hcomp : eComp2 (.nm 4) (iAny (eV 2)) cYes (iEnum (aC (eV 1) aN)) (.tup [(.nm 5), (.nm 6)]) (cAnd (cV (eBin dEq (eB 6) (eB 3))) (cV (eBin dNi (eB 5) (eB 4)))) (eTup (aS (eB 4) (aC (eV 5) aN))) [4, 5, 6] [5, 6]
          [.val (.str as), .val (.str bs), .val (.lst ((exs pre (cds bs)).map tupN)), .val (.str (sgn c)), .non, .non, .non] S = some (.lst ((exs (pre ++ [c]) (cds bs)).map tupN), S) := by
        rw [ev_Comp2]
        simp only [ev_C, ev_V, ev_B, ev_aN, ev_aC, ev_Tup, ev_Lst, ev_Bin, ev_Un, ev_UnF, ev_cV, ev_cAnd, ev_cOr, ev_cNot, ev_cYes, ev_And, ev_Or, ev_Not, ev_If, ev_Chain, ev_Call, ev_Ix, ev_Sl, ev_oN, ev_oE, ev_aS, ev_Comp, ev_iAny, ev_iRange1, ev_iRange2, ev_iZip, ev_iEnum, ev_sNil, ev_sSeq, ev_sIf, ev_sRet, ev_sRetO, ev_sRetN, ev_sAsg, ev_sSet, ev_sSetO, ev_sPar, ev_sFor, ev_sWhile, ev_sApp, ev_sIxO, ev_sIxC, ev_sFrz, ev_sExp, ev_sPass, ev_runB, ev_forN, ev_compN, ev_put0, ev_put1, ev_wipe0, ev_wipe1, ev_bnm, ev_btup, ev_bL0, ev_bL1, dv_add, dv_sub, dv_neg, dv_lt, dv_le, dv_gt, dv_ge, dv_int, dv_abs, dv_lenL, dv_lenT, dv_tupL, dv_tupT, dv_lofL, dv_lofT, dv_lofS, dv_seqL, dv_seqT, dv_ixL, dv_ixT, dv_ixO, atI_0, atI_1, atI_2, Option.bind_some, Option.bind_none, List.getElem?_cons_zero, List.getElem?_cons_succ, List.getElem?_nil, List.set_cons_zero, List.set_cons_succ, List.set_nil, List.length_cons, List.length_nil, List.map_cons, List.map_nil, List.replicate_succ, List.replicate_zero, List.cons_append, List.nil_append, Nat.reduceAdd, Nat.reduceSub, Nat.reduceLeDiff, Nat.zero_add, Nat.sub_zero, Nat.add_zero, if_true, if_false, Bool.false_eq_true, Nat.reduceEqDiff, Bool.not_true, Bool.not_false, decide_true, decide_false, ev_nat]
        rw [ho, Option.bind_some, if_pos hz, exs_snoc]
      simp only [List.set_cons_succ, List.set_cons_zero]
      rw [ev_sSet, hcomp, Option.bind_some]
      simp only [Option.bind_some, List.set_cons_succ, List.set_cons_zero]
      exact q
  obtain ⟨s3', q⟩ := go (cds as) [] .non rfl (Nat.le_refl _) (fun e hm => isEx_len ((mem_exs _ _ _ rfl e).mp hm))
  refine (seq_nx (for_s (ds := (cds as).map fun c => D.str (sgn c)) (S' := S) ?_ q)).trans ?_
  · simp only [ev_C, ev_V, ev_B, ev_aN, ev_aC, ev_Tup, ev_Lst, ev_Bin, ev_Un, ev_UnF, ev_cV, ev_cAnd, ev_cOr, ev_cNot, ev_cYes, ev_And, ev_Or, ev_Not, ev_If, ev_Chain, ev_Call, ev_Ix, ev_Sl, ev_oN, ev_oE, ev_aS, ev_Comp, ev_iAny, ev_iRange1, ev_iRange2, ev_iZip, ev_iEnum, ev_sNil, ev_sSeq, ev_sIf, ev_sRet, ev_sRetO, ev_sRetN, ev_sAsg, ev_sSet, ev_sSetO, ev_sPar, ev_sFor, ev_sWhile, ev_sApp, ev_sIxO, ev_sIxC, ev_sFrz, ev_sExp, ev_sPass, ev_runB, ev_forN, ev_compN, ev_put0, ev_put1, ev_wipe0, ev_wipe1, ev_bnm, ev_btup, ev_bL0, ev_bL1, dv_add, dv_sub, dv_neg, dv_lt, dv_le, dv_gt, dv_ge, dv_int, dv_abs, dv_lenL, dv_lenT, dv_tupL, dv_tupT, dv_lofL, dv_lofT, dv_lofS, dv_seqL, dv_seqT, dv_ixL, dv_ixT, dv_ixO, atI_0, atI_1, atI_2, Option.bind_some, Option.bind_none, List.getElem?_cons_zero, List.getElem?_cons_succ, List.getElem?_nil, List.set_cons_zero, List.set_cons_succ, List.set_nil, List.length_cons, List.length_nil, List.map_cons, List.map_nil, List.replicate_succ, List.replicate_zero, List.cons_append, List.nil_append, Nat.reduceAdd, Nat.reduceSub, Nat.reduceLeDiff, Nat.zero_add, Nat.sub_zero, Nat.add_zero, if_true, if_false, Bool.false_eq_true, Nat.reduceEqDiff, Bool.not_true, Bool.not_false, decide_true, decide_false, ev_nat, hs]
  · exact ret_s rfl
theorem ddI_len {is : List Int} {b : List Int} (h : ∀ x ∈ is, x ∈ b) : (ddI is).length ≤ b.length := nodup_sub_len (nodup_ddI is) fun x hx => h x (mem_ddI.mp hx)
def sI (is : List Int) : List Int := (ddI is).mergeSort (· ≤ ·)
theorem mem_sI {is : List Int} {k : Int} : k ∈ sI is ↔ k ∈ is := by
  unfold sI
  rw [(List.mergeSort_perm _ _).mem_iff, mem_ddI]
theorem asc_sI (is : List Int) : (sI is).Pairwise (· < ·) := by
  have h1 : (sI is).Pairwise (fun x y => (decide (x ≤ y)) = true) := List.pairwise_mergeSort (fun a b c h1 h2 => by simp only [decide_eq_true_eq] at *; omega) (fun a b => by simp only [Bool.or_eq_true, decide_eq_true_eq]; omega) _
  have h2 : (sI is).Nodup := (List.mergeSort_perm _ _).symm.nodup (nodup_ddI is)
  exact (h1.and h2).imp fun h => by
    obtain ⟨a, b⟩ := h
    have := of_decide_eq_true a
    omega
theorem sortSet_eq (is : List Int) (h : (ddI is).length < 64) (h2 : is.length < 4095) : sortSet (.lst (is.map .int)) = some ((sI is).map .int) := by
  show (intsD (is.map .int)).bind _ = _
  rw [intsD_map, Option.bind_some, if_pos ⟨h, h2⟩]
  rfl
section
variable (gcdN : List D → List D → Option (D × List D)) (hg : ∀ (a b : Int) (S : List D), gcdN [.int a, .int b] S = some (.int (Int.gcd a b), S))
include hg
theorem ord_loop (M : Nat) (hM : M < 2 ^ 8000) (M0 : 0 < M) (S : List D) (s0 s4 : Slot) : ∀ (ts : List Rat) (l : Nat) (s2 s3 : Slot), (∀ t ∈ ts, t.den ∣ M) → l ∣ M →
    ∃ s2' s3', forL (.tup [(.nm 2), (.nm 3)]) (sSet 1 (eBin dMul (eBin dDiv (eB 1) (eCall 2 gcdN (aC (eV 1) (aC (eV 3) aN)))) (eB 3))) (ts.map dR) [s0, .val (.int (l : Int)), s2, s3, s4] S = some (.nx [s0, .val (.int ((ts.map (·.den)).foldl Nat.lcm l : Nat)), s2', s3', s4] S)
  | [], l, s2, s3, _, _ => ⟨s2, s3, rfl⟩
  | t :: ts, l, s2, s3, h, h0 => by
    have dt := h t List.mem_cons_self
    have dp : 0 < t.den := Nat.pos_of_ne_zero t.den_nz
    have l0 : 0 < l := Nat.pos_of_ne_zero fun z => by subst z; rw [Nat.zero_dvd] at h0; omega
    obtain ⟨s2', s3', q⟩ := ord_loop M hM M0 S s0 s4 ts (Nat.lcm l t.den) (.val (.int t.num)) (.val (.int (t.den : Int))) (fun x hx => h x (List.mem_cons_of_mem _ hx)) (Nat.lcm_dvd h0 dt)
    refine ⟨s2', s3', ?_⟩
    have gp : 0 < Nat.gcd l t.den := Nat.gcd_pos_of_pos_left _ l0
    have lM : l ≤ M := Nat.le_of_dvd M0 h0
    have gl : Nat.gcd l t.den ≤ M := Nat.le_trans (Nat.le_of_dvd l0 (Nat.gcd_dvd_left _ _)) lM
    have gw : wide ((Nat.gcd l t.den : Nat) : Int) = true := wide_nat hM gl
    have lw : wide ((l / Nat.gcd l t.den : Nat) : Int) = true := wide_nat hM (Nat.le_trans (Nat.div_le_self _ _) lM)
    have tw : wide (t.den : Int) = true := wide_nat hM (Nat.le_of_dvd M0 dt)
    have hd : dDiv (.int (l : Int)) (.int ((Nat.gcd l t.den : Nat) : Int)) = some (.int ((l / Nat.gcd l t.den : Nat) : Int)) := by rw [dv_div _ _ (by omega) gw, Int.natCast_ediv]
    have hm : dMul (.int ((l / Nat.gcd l t.den : Nat) : Int)) (.int (t.den : Int)) = some (.int ((Nat.lcm l t.den : Nat) : Int)) := by rw [dv_mul _ _ (both_w lw tw), ← Int.natCast_mul, lcm_div]
    have hgg := hg (l : Int) (t.den : Int) S
    rw [Int.gcd_natCast_natCast] at hgg
    have eb : binds (.tup [(.nm 2), (.nm 3)]) (dR t) = some [(2, .int t.num), (3, .int (t.den : Int))] := by unfold dR; simp only [ev_C, ev_V, ev_B, ev_aN, ev_aC, ev_Tup, ev_Lst, ev_Bin, ev_Un, ev_UnF, ev_cV, ev_cAnd, ev_cOr, ev_cNot, ev_cYes, ev_And, ev_Or, ev_Not, ev_If, ev_Chain, ev_Call, ev_Ix, ev_Sl, ev_oN, ev_oE, ev_aS, ev_Comp, ev_iAny, ev_iRange1, ev_iRange2, ev_iZip, ev_iEnum, ev_sNil, ev_sSeq, ev_sIf, ev_sRet, ev_sRetO, ev_sRetN, ev_sAsg, ev_sSet, ev_sSetO, ev_sPar, ev_sFor, ev_sWhile, ev_sApp, ev_sIxO, ev_sIxC, ev_sFrz, ev_sExp, ev_sPass, ev_runB, ev_forN, ev_compN, ev_put0, ev_put1, ev_wipe0, ev_wipe1, ev_bnm, ev_btup, ev_bL0, ev_bL1, dv_add, dv_sub, dv_neg, dv_lt, dv_le, dv_gt, dv_ge, dv_int, dv_abs, dv_lenL, dv_lenT, dv_tupL, dv_tupT, dv_lofL, dv_lofT, dv_lofS, dv_seqL, dv_seqT, dv_ixL, dv_ixT, dv_ixO, atI_0, atI_1, atI_2, Option.bind_some, Option.bind_none, List.getElem?_cons_zero, List.getElem?_cons_succ, List.getElem?_nil, List.set_cons_zero, List.set_cons_succ, List.set_nil, List.length_cons, List.length_nil, List.map_cons, List.map_nil, List.replicate_succ, List.replicate_zero, List.cons_append, List.nil_append, Nat.reduceAdd, Nat.reduceSub, Nat.reduceLeDiff, Nat.zero_add, Nat.sub_zero, Nat.add_zero, if_true, if_false, Bool.false_eq_true, Nat.reduceEqDiff, Bool.not_true, Bool.not_false, decide_true, decide_false, ev_nat]
    rw [List.map_cons, ev_forC, eb, Option.bind_some, ev_put1, ev_put1, ev_put0]
    simp only [ev_C, ev_V, ev_B, ev_aN, ev_aC, ev_Tup, ev_Lst, ev_Bin, ev_Un, ev_UnF, ev_cV, ev_cAnd, ev_cOr, ev_cNot, ev_cYes, ev_And, ev_Or, ev_Not, ev_If, ev_Chain, ev_Call, ev_Ix, ev_Sl, ev_oN, ev_oE, ev_aS, ev_Comp, ev_iAny, ev_iRange1, ev_iRange2, ev_iZip, ev_iEnum, ev_sNil, ev_sSeq, ev_sIf, ev_sRet, ev_sRetO, ev_sRetN, ev_sAsg, ev_sSet, ev_sSetO, ev_sPar, ev_sFor, ev_sWhile, ev_sApp, ev_sIxO, ev_sIxC, ev_sFrz, ev_sExp, ev_sPass, ev_runB, ev_forN, ev_compN, ev_put0, ev_put1, ev_wipe0, ev_wipe1, ev_bnm, ev_btup, ev_bL0, ev_bL1, dv_add, dv_sub, dv_neg, dv_lt, dv_le, dv_gt, dv_ge, dv_int, dv_abs, dv_lenL, dv_lenT, dv_tupL, dv_tupT, dv_lofL, dv_lofT, dv_lofS, dv_seqL, dv_seqT, dv_ixL, dv_ixT, dv_ixO, atI_0, atI_1, atI_2, Option.bind_some, Option.bind_none, List.getElem?_cons_zero, List.getElem?_cons_succ, List.getElem?_nil, List.set_cons_zero, List.set_cons_succ, List.set_nil, List.length_cons, List.length_nil, List.map_cons, List.map_nil, List.replicate_succ, List.replicate_zero, List.cons_append, List.nil_append, Nat.reduceAdd, Nat.reduceSub, Nat.reduceLeDiff, Nat.zero_add, Nat.sub_zero, Nat.add_zero, if_true, if_false, Bool.false_eq_true, Nat.reduceEqDiff, Bool.not_true, Bool.not_false, decide_true, decide_false, ev_nat, hgg, hd, hm]
    exact q
omit hg in
theorem cov_M (n : Nat) (ts : List Rat) (hts : ∀ t ∈ ts, P n t) (cov : List Rat) (hc : ∀ t ∈ ts, t ∈ cov) (hl : cov.length * n ≤ 7900) : ∃ M, M < 2 ^ 8000 ∧ 0 < M ∧ ∀ t ∈ ts, t.den ∣ M := by
  obtain ⟨a, b⟩ := lcm_bd n ((cov.filter fun x => decide (x ∈ ts)).map fun t : Rat => t.den) 1 0 (fun d hd => by
    obtain ⟨t, ht, rfl⟩ := List.mem_map.mp hd
    have := of_decide_eq_true (List.mem_filter.mp ht).2
    exact ⟨Nat.pos_of_ne_zero t.den_nz, (hts t this).den⟩) (by decide) (by decide)
  refine ⟨lcmL ((cov.filter fun x => decide (x ∈ ts)).map fun t : Rat => t.den), ?_, a, fun t ht => dvd_lcmL (List.mem_map.mpr ⟨t, List.mem_filter.mpr ⟨hc t ht, decide_eq_true ht⟩, rfl⟩)⟩
  refine Nat.lt_of_le_of_lt b (Nat.pow_lt_pow_right (by decide) ?_)
  rw [List.length_map]
  have h1 : (cov.filter fun x => decide (x ∈ ts)).length * n ≤ cov.length * n := Nat.mul_le_mul_right n (List.length_filter_le _ _)
  omega
theorem ord_comp (partN : List D → List D → Option (D × List D)) (hp : ∀ (t b : Int) (S : List D), 0 < b → wide b = true → partN [.int t, .int b] S = some (dR (K.fr ((t : Rat) / (b : Rat))), S))
    (n : Nat) (hn : 0 < n) (fr : Bool) (ts : List Rat) (hts : ∀ t ∈ ts, P n t) (hlen : ts.length < 4095) (cov : List Rat) (hc : ∀ t ∈ ts, t ∈ cov) (hc64 : cov.length < 64) (hl : cov.length * n ≤ 7900) (S : List D) :
    ∃ r, runB fr 5 (sSeq (sSet 1 (eC (.int 1))) (sSeq (sFor (.tup [(.nm 2), (.nm 3)]) (iAny (eV 0)) (sSet 1 (eBin dMul (eBin dDiv (eB 1) (eCall 2 gcdN (aC (eV 1) (aC (eV 3) aN)))) (eB 3)))) (sRet (eComp (.nm 4) (iAny (eUnF sortSet (eComp (.tup [(.nm 2), (.nm 3)]) (iAny (eV 0)) cYes (eBin dMul (eB 2) (eBin dDiv (eB 1) (eB 3))) [2, 3]))) cYes (eCall 2 partN (aC (eV 4) (aC (eV 1) aN))) [4]))))
      [.lst (ts.map dR)] S = some (.lst (r.map dR), S) ∧ Asc r ∧ ∀ x, x ∈ r ↔ x ∈ ts := by
  obtain ⟨M, hM, M0, dM⟩ := cov_M n ts hts cov hc hl
  obtain ⟨s2, s3, q⟩ := ord_loop gcdN hg M hM M0 S (.val (.lst (ts.map dR))) .non ts 1 .non .non dM (Nat.one_dvd M)
  have hL : (ts.map (·.den)).foldl Nat.lcm 1 = lcmL (ts.map (·.den)) := rfl
  have L0 : 0 < lcmL (ts.map (·.den)) := (lcm_bd (n := n) (ts.map fun t : Rat => t.den) 1 0 (fun d hd => by
    obtain ⟨t, ht, rfl⟩ := List.mem_map.mp hd
    exact ⟨Nat.pos_of_ne_zero t.den_nz, (hts t ht).den⟩) (by decide) (by decide)).1
  have L1 : lcmL (ts.map (·.den)) ≤ M := by
    have go : ∀ (ds : List Nat) (l : Nat), (∀ d ∈ ds, d ∣ M) → l ∣ M → ds.foldl Nat.lcm l ∣ M := by
      intro ds
      induction ds with
      | nil => intro l _ h; exact h
      | cons d ds ih => intro l h1 h2; exact ih _ (fun x hx => h1 x (List.mem_cons_of_mem _ hx)) (Nat.lcm_dvd h2 (h1 d List.mem_cons_self))
    refine Nat.le_of_dvd M0 (go _ 1 (fun d hd => ?_) (Nat.one_dvd M))
    obtain ⟨t, ht, rfl⟩ := List.mem_map.mp hd
    exact dM t ht
  rw [hL] at q
  have hdv : ∀ t ∈ ts, t.den ∣ lcmL (ts.map (·.den)) := fun t ht => dvd_lcmL (List.mem_map.mpr ⟨t, ht, rfl⟩)
  generalize lcmL (ts.map (·.den)) = L at *
  have wL : wide (L : Int) = true := wide_nat hM L1
  have Lp : (0 : Int) < (L : Int) := by omega
  generalize hnum : ts.map (numOver L) = nums
  have hcomp : compL (.tup [(.nm 2), (.nm 3)]) cYes (eBin dMul (eB 2) (eBin dDiv (eB 1) (eB 3))) [.val (.lst (ts.map dR)), .val (.int (L : Int)), .non, .non, .non] (ts.map dR) S = some (nums.map .int, S) := by
    rw [← hnum, List.map_map]
    refine compL_map dR (D.int ∘ numOver L) ts fun t ht => ?_
    have eb : binds (.tup [(.nm 2), (.nm 3)]) (dR t) = some [(2, .int t.num), (3, .int (t.den : Int))] := by unfold dR; simp only [ev_C, ev_V, ev_B, ev_aN, ev_aC, ev_Tup, ev_Lst, ev_Bin, ev_Un, ev_UnF, ev_cV, ev_cAnd, ev_cOr, ev_cNot, ev_cYes, ev_And, ev_Or, ev_Not, ev_If, ev_Chain, ev_Call, ev_Ix, ev_Sl, ev_oN, ev_oE, ev_aS, ev_Comp, ev_iAny, ev_iRange1, ev_iRange2, ev_iZip, ev_iEnum, ev_sNil, ev_sSeq, ev_sIf, ev_sRet, ev_sRetO, ev_sRetN, ev_sAsg, ev_sSet, ev_sSetO, ev_sPar, ev_sFor, ev_sWhile, ev_sApp, ev_sIxO, ev_sIxC, ev_sFrz, ev_sExp, ev_sPass, ev_runB, ev_forN, ev_compN, ev_put0, ev_put1, ev_wipe0, ev_wipe1, ev_bnm, ev_btup, ev_bL0, ev_bL1, dv_add, dv_sub, dv_neg, dv_lt, dv_le, dv_gt, dv_ge, dv_int, dv_abs, dv_lenL, dv_lenT, dv_tupL, dv_tupT, dv_lofL, dv_lofT, dv_lofS, dv_seqL, dv_seqT, dv_ixL, dv_ixT, dv_ixO, atI_0, atI_1, atI_2, Option.bind_some, Option.bind_none, List.getElem?_cons_zero, List.getElem?_cons_succ, List.getElem?_nil, List.set_cons_zero, List.set_cons_succ, List.set_nil, List.length_cons, List.length_nil, List.map_cons, List.map_nil, List.replicate_succ, List.replicate_zero, List.cons_append, List.nil_append, Nat.reduceAdd, Nat.reduceSub, Nat.reduceLeDiff, Nat.zero_add, Nat.sub_zero, Nat.add_zero, if_true, if_false, Bool.false_eq_true, Nat.reduceEqDiff, Bool.not_true, Bool.not_false, decide_true, decide_false, ev_nat]
    refine ⟨_, eb, ?_⟩
    rw [ev_put1, ev_put1, ev_put0]
    have g := hts t ht
    have wd : wide (t.den : Int) = true := wide_nat hM (Nat.le_of_dvd M0 (dM t ht))
    have dp : 0 < t.den := Nat.pos_of_ne_zero t.den_nz
    have wn : wide t.num = true := by
      have := g.num
      have := Nat.le_of_dvd M0 (dM t ht)
      exact wide_abs hM (by omega)
    have wq : wide ((L / t.den : Nat) : Int) = true := wide_nat hM (Nat.le_trans (Nat.div_le_self _ _) L1)
    have hd : dDiv (.int (L : Int)) (.int (t.den : Int)) = some (.int ((L / t.den : Nat) : Int)) := by rw [dv_div _ _ (by omega) wd, Int.natCast_ediv]
    simp only [ev_C, ev_V, ev_B, ev_aN, ev_aC, ev_Tup, ev_Lst, ev_Bin, ev_Un, ev_UnF, ev_cV, ev_cAnd, ev_cOr, ev_cNot, ev_cYes, ev_And, ev_Or, ev_Not, ev_If, ev_Chain, ev_Call, ev_Ix, ev_Sl, ev_oN, ev_oE, ev_aS, ev_Comp, ev_iAny, ev_iRange1, ev_iRange2, ev_iZip, ev_iEnum, ev_sNil, ev_sSeq, ev_sIf, ev_sRet, ev_sRetO, ev_sRetN, ev_sAsg, ev_sSet, ev_sSetO, ev_sPar, ev_sFor, ev_sWhile, ev_sApp, ev_sIxO, ev_sIxC, ev_sFrz, ev_sExp, ev_sPass, ev_runB, ev_forN, ev_compN, ev_put0, ev_put1, ev_wipe0, ev_wipe1, ev_bnm, ev_btup, ev_bL0, ev_bL1, dv_add, dv_sub, dv_neg, dv_lt, dv_le, dv_gt, dv_ge, dv_int, dv_abs, dv_lenL, dv_lenT, dv_tupL, dv_tupT, dv_lofL, dv_lofT, dv_lofS, dv_seqL, dv_seqT, dv_ixL, dv_ixT, dv_ixO, atI_0, atI_1, atI_2, Option.bind_some, Option.bind_none, List.getElem?_cons_zero, List.getElem?_cons_succ, List.getElem?_nil, List.set_cons_zero, List.set_cons_succ, List.set_nil, List.length_cons, List.length_nil, List.map_cons, List.map_nil, List.replicate_succ, List.replicate_zero, List.cons_append, List.nil_append, Nat.reduceAdd, Nat.reduceSub, Nat.reduceLeDiff, Nat.zero_add, Nat.sub_zero, Nat.add_zero, if_true, if_false, Bool.false_eq_true, Nat.reduceEqDiff, Bool.not_true, Bool.not_false, decide_true, decide_false, ev_nat, hd, dv_mul _ _ (both_w wn wq)]
    rfl
  have h64 : (ddI nums).length < 64 := by
    refine Nat.lt_of_le_of_lt (ddI_len (b := cov.map (numOver L)) fun x hx => ?_) (by rw [List.length_map]; exact hc64)
    rw [← hnum] at hx
    obtain ⟨t, ht, rfl⟩ := List.mem_map.mp hx
    exact List.mem_map.mpr ⟨t, hc t ht, rfl⟩
  have hs := sortSet_eq nums h64 (by rw [← hnum, List.length_map]; exact hlen)
  have ofNum : ∀ t ∈ ts, K.fr ((numOver L t : Rat) / ((L : Int) : Rat)) = t := fun t ht => by
    rw [Rat.intCast_natCast, numOver_eq L0 (hdv t ht)]
    exact (hts t ht).fr
  have hlen2 : (sI nums).length ≤ 16777216 := by
    have : (sI nums).length = (ddI nums).length := (List.mergeSort_perm _ _).length_eq
    omega
  refine ⟨(sI nums).map fun (k : Int) => K.fr ((k : Rat) / ((L : Int) : Rat)), ?_, ?_, fun x => ?_⟩
  · refine run_rt (ρ := [.val (.lst (ts.map dR)), .non, .non, .non, .non]) rfl ?_
    refine (seq_nx (ρ' := [.val (.lst (ts.map dR)), .val (.int ((1 : Nat) : Int)), .non, .non, .non]) (S' := S) rfl).trans ?_
    refine (seq_nx (for_s (ds := ts.map dR) (S' := S) rfl q)).trans ?_
    refine ret_s (comp_s (ds := (sI nums).map .int) (S' := S) ?_ (by rw [List.length_map]; exact hlen2) ?_)
    · have e1 : eComp (.tup [(.nm 2), (.nm 3)]) (iAny (eV 0)) cYes (eBin dMul (eB 2) (eBin dDiv (eB 1) (eB 3))) [2, 3] [.val (.lst (ts.map dR)), .val (.int (L : Int)), s2, s3, .non] S = some (.lst (nums.map .int), S) := by
        refine comp_s (ds := ts.map dR) (S' := S) rfl (by rw [List.length_map]; omega) ?_
        exact hcomp
      rw [ev_iAny, unF_s e1 hs, Option.bind_some]
      rfl
    · rw [List.map_map]
      refine compL_map D.int _ (sI nums) fun k hk => ⟨_, ev_bnm _ _, ?_⟩
      rw [ev_put1, ev_put0]
      refine call_s (ds := [.int k, .int (L : Int)]) (S' := S) rfl rfl (hp k L S Lp wL)
  · unfold Asc
    rw [List.pairwise_map]
    refine List.Pairwise.imp_of_mem (fun {a b} ha hb hab => ?_) (asc_sI nums)
    rw [mem_sI, ← hnum] at ha hb
    obtain ⟨t, ht, rfl⟩ := List.mem_map.mp ha
    obtain ⟨u, hu, rfl⟩ := List.mem_map.mp hb
    rw [ofNum t ht, ofNum u hu, ← numOver_eq L0 (hdv t ht), ← numOver_eq L0 (hdv u hu)]
    have lp := int_pos_rat Lp
    rw [Rat.intCast_natCast] at lp
    rw [Rat.div_lt_iff lp, Rat.div_mul_cancel (ne_of_pos_rat lp), Rat.intCast_lt_intCast]
    exact hab
  · rw [List.mem_map]
    constructor
    · rintro ⟨k, hk, rfl⟩
      rw [mem_sI, ← hnum] at hk
      obtain ⟨t, ht, rfl⟩ := List.mem_map.mp hk
      rw [ofNum t ht]
      exact ht
    · intro hx
      exact ⟨numOver L x, (mem_sI (is := nums) (k := numOver L x)).mpr (by rw [← hnum]; exact List.mem_map.mpr ⟨x, hx, rfl⟩), ofNum x hx⟩
end
structure Clk (hands : List Int) (looks : PySem.Str) (m : Nat) : Prop where
  len2 : 2 ≤ hands.length
  len4 : hands.length ≤ 4
  nz : ∀ h ∈ hands, h ≠ 0
  bd : ∀ h ∈ hands, h.natAbs ≤ 1000000
  gcd : gcdL hands = 1
  lk : (cds looks).length = hands.length
  ok : okS (cds looks)
  m0 : 0 < m
  m6 : m ≤ 6
  ex : (exs (cds looks) (cds looks)).length ≤ 6
theorem looks_facts : ∀ n ∈ [2, 3, 4], ∀ s ∈ looksOf n, (cds s).length = n ∧ ((cds s).all fun c => PySem.PyData.strOk (sgn c)) = true ∧ (exs (cds s) (cds s)).length ≤ 6 := by decide +kernel
theorem GoodClk.clk {hands : List Int} {looks : PySem.Str} {marks most : Int} (g : GoodClk hands looks marks most) (hm : most ≤ 1000000) : Clk hands looks marks.toNat ∧ ((marks.toNat : Nat) : Int) = marks := by
  have hl := g.len
  have hn : hands.length ∈ [2, 3, 4] := by simp only [List.mem_cons, List.not_mem_nil, or_false]; omega
  obtain ⟨f1, f2, f3⟩ := looks_facts _ hn looks g.looks
  have hk := g.marks
  refine ⟨⟨hl.1, hl.2, g.nz, fun h hh => ?_, g.gcd, f1, fun c hc => List.all_eq_true.mp f2 c hc, by omega, by omega, f3⟩, by omega⟩
  have := g.bd h hh
  omega
def eqsOf (h1 h2 : List Int) (e : List Nat) (c : Rat) : List Eq3 := (h1.zip e).map fun p => ⟨h2.getD p.2 0, -p.1, c⟩
def pairE (p : Int × Nat) : D := .tup [.int p.1, .int (p.2 : Int)]
theorem zipD_is : ∀ (h : List Int) (e : List Nat), zipD (h.map .int) (e.map fun (k : Nat) => D.int (k : Int)) = (h.zip e).map pairE
  | [], _ => by simp [zipD]
  | _ :: _, [] => by simp [zipD]
  | x :: h, k :: e => by
    simp only [List.map_cons, zipD, List.zip_cons_cons]
    rw [zipD_is h e]
    rfl
theorem m_equations_eq (h1 h2 : List Int) (l1 l2 : PySem.Str) (m k2 : Nat) (e : List Nat) (s : Nat) (hs : s < m) (hm : m ≤ 6) (he : ∀ k ∈ e, k < h2.length) (hl : h1.length ≤ 4) (S : List D) :
    m_equations [clkD h1 l1 (m : Int), clkD h2 l2 (k2 : Int), tupN e, .int (s : Int)] S = some (.lst ((eqsOf h1 h2 e (K.fr (stp m s))).map eqD3), S) := by
  have ep := m_part_stp m s hs hm S
  unfold m_equations g_equations
  refine run_rt (ρ := [.val (clkD h1 l1 (m : Int)), .val (clkD h2 l2 (k2 : Int)), .val (tupN e), .val (.int (s : Int)), .non, .non, .non]) rfl ?_
  have z2 : ixD S (clkD h1 l1 (m : Int)) (.int 2) = some (.int (m : Int)) := by unfold clkD; simp only [ev_C, ev_V, ev_B, ev_aN, ev_aC, ev_Tup, ev_Lst, ev_Bin, ev_Un, ev_UnF, ev_cV, ev_cAnd, ev_cOr, ev_cNot, ev_cYes, ev_And, ev_Or, ev_Not, ev_If, ev_Chain, ev_Call, ev_Ix, ev_Sl, ev_oN, ev_oE, ev_aS, ev_Comp, ev_iAny, ev_iRange1, ev_iRange2, ev_iZip, ev_iEnum, ev_sNil, ev_sSeq, ev_sIf, ev_sRet, ev_sRetO, ev_sRetN, ev_sAsg, ev_sSet, ev_sSetO, ev_sPar, ev_sFor, ev_sWhile, ev_sApp, ev_sIxO, ev_sIxC, ev_sFrz, ev_sExp, ev_sPass, ev_runB, ev_forN, ev_compN, ev_put0, ev_put1, ev_wipe0, ev_wipe1, ev_bnm, ev_btup, ev_bL0, ev_bL1, dv_add, dv_sub, dv_neg, dv_lt, dv_le, dv_gt, dv_ge, dv_int, dv_abs, dv_lenL, dv_lenT, dv_tupL, dv_tupT, dv_lofL, dv_lofT, dv_lofS, dv_seqL, dv_seqT, dv_ixL, dv_ixT, dv_ixO, atI_0, atI_1, atI_2, Option.bind_some, Option.bind_none, List.getElem?_cons_zero, List.getElem?_cons_succ, List.getElem?_nil, List.set_cons_zero, List.set_cons_succ, List.set_nil, List.length_cons, List.length_nil, List.map_cons, List.map_nil, List.replicate_succ, List.replicate_zero, List.cons_append, List.nil_append, Nat.reduceAdd, Nat.reduceSub, Nat.reduceLeDiff, Nat.zero_add, Nat.sub_zero, Nat.add_zero, if_true, if_false, Bool.false_eq_true, Nat.reduceEqDiff, Bool.not_true, Bool.not_false, decide_true, decide_false, ev_nat]
  have z0 : ixD S (clkD h1 l1 (m : Int)) (.int 0) = some (.tup (h1.map .int)) := by unfold clkD; simp only [ev_C, ev_V, ev_B, ev_aN, ev_aC, ev_Tup, ev_Lst, ev_Bin, ev_Un, ev_UnF, ev_cV, ev_cAnd, ev_cOr, ev_cNot, ev_cYes, ev_And, ev_Or, ev_Not, ev_If, ev_Chain, ev_Call, ev_Ix, ev_Sl, ev_oN, ev_oE, ev_aS, ev_Comp, ev_iAny, ev_iRange1, ev_iRange2, ev_iZip, ev_iEnum, ev_sNil, ev_sSeq, ev_sIf, ev_sRet, ev_sRetO, ev_sRetN, ev_sAsg, ev_sSet, ev_sSetO, ev_sPar, ev_sFor, ev_sWhile, ev_sApp, ev_sIxO, ev_sIxC, ev_sFrz, ev_sExp, ev_sPass, ev_runB, ev_forN, ev_compN, ev_put0, ev_put1, ev_wipe0, ev_wipe1, ev_bnm, ev_btup, ev_bL0, ev_bL1, dv_add, dv_sub, dv_neg, dv_lt, dv_le, dv_gt, dv_ge, dv_int, dv_abs, dv_lenL, dv_lenT, dv_tupL, dv_tupT, dv_lofL, dv_lofT, dv_lofS, dv_seqL, dv_seqT, dv_ixL, dv_ixT, dv_ixO, atI_0, atI_1, atI_2, Option.bind_some, Option.bind_none, List.getElem?_cons_zero, List.getElem?_cons_succ, List.getElem?_nil, List.set_cons_zero, List.set_cons_succ, List.set_nil, List.length_cons, List.length_nil, List.map_cons, List.map_nil, List.replicate_succ, List.replicate_zero, List.cons_append, List.nil_append, Nat.reduceAdd, Nat.reduceSub, Nat.reduceLeDiff, Nat.zero_add, Nat.sub_zero, Nat.add_zero, if_true, if_false, Bool.false_eq_true, Nat.reduceEqDiff, Bool.not_true, Bool.not_false, decide_true, decide_false, ev_nat]
  have y0 : ixD S (clkD h2 l2 (k2 : Int)) (.int 0) = some (.tup (h2.map .int)) := by unfold clkD; simp only [ev_C, ev_V, ev_B, ev_aN, ev_aC, ev_Tup, ev_Lst, ev_Bin, ev_Un, ev_UnF, ev_cV, ev_cAnd, ev_cOr, ev_cNot, ev_cYes, ev_And, ev_Or, ev_Not, ev_If, ev_Chain, ev_Call, ev_Ix, ev_Sl, ev_oN, ev_oE, ev_aS, ev_Comp, ev_iAny, ev_iRange1, ev_iRange2, ev_iZip, ev_iEnum, ev_sNil, ev_sSeq, ev_sIf, ev_sRet, ev_sRetO, ev_sRetN, ev_sAsg, ev_sSet, ev_sSetO, ev_sPar, ev_sFor, ev_sWhile, ev_sApp, ev_sIxO, ev_sIxC, ev_sFrz, ev_sExp, ev_sPass, ev_runB, ev_forN, ev_compN, ev_put0, ev_put1, ev_wipe0, ev_wipe1, ev_bnm, ev_btup, ev_bL0, ev_bL1, dv_add, dv_sub, dv_neg, dv_lt, dv_le, dv_gt, dv_ge, dv_int, dv_abs, dv_lenL, dv_lenT, dv_tupL, dv_tupT, dv_lofL, dv_lofT, dv_lofS, dv_seqL, dv_seqT, dv_ixL, dv_ixT, dv_ixO, atI_0, atI_1, atI_2, Option.bind_some, Option.bind_none, List.getElem?_cons_zero, List.getElem?_cons_succ, List.getElem?_nil, List.set_cons_zero, List.set_cons_succ, List.set_nil, List.length_cons, List.length_nil, List.map_cons, List.map_nil, List.replicate_succ, List.replicate_zero, List.cons_append, List.nil_append, Nat.reduceAdd, Nat.reduceSub, Nat.reduceLeDiff, Nat.zero_add, Nat.sub_zero, Nat.add_zero, if_true, if_false, Bool.false_eq_true, Nat.reduceEqDiff, Bool.not_true, Bool.not_false, decide_true, decide_false, ev_nat]
  refine (seq_nx (ρ' := [.val (clkD h1 l1 (m : Int)), .val (clkD h2 l2 (k2 : Int)), .val (tupN e), .val (.int (s : Int)), .val (dR (K.fr (stp m s))), .non, .non]) (S' := S) (by simp only [ev_C, ev_V, ev_B, ev_aN, ev_aC, ev_Tup, ev_Lst, ev_Bin, ev_Un, ev_UnF, ev_cV, ev_cAnd, ev_cOr, ev_cNot, ev_cYes, ev_And, ev_Or, ev_Not, ev_If, ev_Chain, ev_Call, ev_Ix, ev_Sl, ev_oN, ev_oE, ev_aS, ev_Comp, ev_iAny, ev_iRange1, ev_iRange2, ev_iZip, ev_iEnum, ev_sNil, ev_sSeq, ev_sIf, ev_sRet, ev_sRetO, ev_sRetN, ev_sAsg, ev_sSet, ev_sSetO, ev_sPar, ev_sFor, ev_sWhile, ev_sApp, ev_sIxO, ev_sIxC, ev_sFrz, ev_sExp, ev_sPass, ev_runB, ev_forN, ev_compN, ev_put0, ev_put1, ev_wipe0, ev_wipe1, ev_bnm, ev_btup, ev_bL0, ev_bL1, dv_add, dv_sub, dv_neg, dv_lt, dv_le, dv_gt, dv_ge, dv_int, dv_abs, dv_lenL, dv_lenT, dv_tupL, dv_tupT, dv_lofL, dv_lofT, dv_lofS, dv_seqL, dv_seqT, dv_ixL, dv_ixT, dv_ixO, atI_0, atI_1, atI_2, Option.bind_some, Option.bind_none, List.getElem?_cons_zero, List.getElem?_cons_succ, List.getElem?_nil, List.set_cons_zero, List.set_cons_succ, List.set_nil, List.length_cons, List.length_nil, List.map_cons, List.map_nil, List.replicate_succ, List.replicate_zero, List.cons_append, List.nil_append, Nat.reduceAdd, Nat.reduceSub, Nat.reduceLeDiff, Nat.zero_add, Nat.sub_zero, Nat.add_zero, if_true, if_false, Bool.false_eq_true, Nat.reduceEqDiff, Bool.not_true, Bool.not_false, decide_true, decide_false, ev_nat, z2, ep])).trans ?_
  refine ret_s (comp_s (ds := (h1.zip e).map pairE) (S' := S) ?_ ?_ ?_)
  · have : seqOf (tupN e) = some (e.map fun (k : Nat) => D.int (k : Int)) := rfl
    simp only [ev_C, ev_V, ev_B, ev_aN, ev_aC, ev_Tup, ev_Lst, ev_Bin, ev_Un, ev_UnF, ev_cV, ev_cAnd, ev_cOr, ev_cNot, ev_cYes, ev_And, ev_Or, ev_Not, ev_If, ev_Chain, ev_Call, ev_Ix, ev_Sl, ev_oN, ev_oE, ev_aS, ev_Comp, ev_iAny, ev_iRange1, ev_iRange2, ev_iZip, ev_iEnum, ev_sNil, ev_sSeq, ev_sIf, ev_sRet, ev_sRetO, ev_sRetN, ev_sAsg, ev_sSet, ev_sSetO, ev_sPar, ev_sFor, ev_sWhile, ev_sApp, ev_sIxO, ev_sIxC, ev_sFrz, ev_sExp, ev_sPass, ev_runB, ev_forN, ev_compN, ev_put0, ev_put1, ev_wipe0, ev_wipe1, ev_bnm, ev_btup, ev_bL0, ev_bL1, dv_add, dv_sub, dv_neg, dv_lt, dv_le, dv_gt, dv_ge, dv_int, dv_abs, dv_lenL, dv_lenT, dv_tupL, dv_tupT, dv_lofL, dv_lofT, dv_lofS, dv_seqL, dv_seqT, dv_ixL, dv_ixT, dv_ixO, atI_0, atI_1, atI_2, Option.bind_some, Option.bind_none, List.getElem?_cons_zero, List.getElem?_cons_succ, List.getElem?_nil, List.set_cons_zero, List.set_cons_succ, List.set_nil, List.length_cons, List.length_nil, List.map_cons, List.map_nil, List.replicate_succ, List.replicate_zero, List.cons_append, List.nil_append, Nat.reduceAdd, Nat.reduceSub, Nat.reduceLeDiff, Nat.zero_add, Nat.sub_zero, Nat.add_zero, if_true, if_false, Bool.false_eq_true, Nat.reduceEqDiff, Bool.not_true, Bool.not_false, decide_true, decide_false, ev_nat, z0, this, zipD_is]
  · rw [List.length_map, List.length_zip]; omega
  · unfold eqsOf
    rw [List.map_map]
    refine compL_map pairE _ (h1.zip e) fun p hp => ?_
    have hk := he p.2 (List.of_mem_zip hp).2
    have eb : binds (.tup [(.nm 5), (.nm 6)]) (pairE p) = some [(5, .int p.1), (6, .int (p.2 : Int))] := by unfold pairE; simp only [ev_C, ev_V, ev_B, ev_aN, ev_aC, ev_Tup, ev_Lst, ev_Bin, ev_Un, ev_UnF, ev_cV, ev_cAnd, ev_cOr, ev_cNot, ev_cYes, ev_And, ev_Or, ev_Not, ev_If, ev_Chain, ev_Call, ev_Ix, ev_Sl, ev_oN, ev_oE, ev_aS, ev_Comp, ev_iAny, ev_iRange1, ev_iRange2, ev_iZip, ev_iEnum, ev_sNil, ev_sSeq, ev_sIf, ev_sRet, ev_sRetO, ev_sRetN, ev_sAsg, ev_sSet, ev_sSetO, ev_sPar, ev_sFor, ev_sWhile, ev_sApp, ev_sIxO, ev_sIxC, ev_sFrz, ev_sExp, ev_sPass, ev_runB, ev_forN, ev_compN, ev_put0, ev_put1, ev_wipe0, ev_wipe1, ev_bnm, ev_btup, ev_bL0, ev_bL1, dv_add, dv_sub, dv_neg, dv_lt, dv_le, dv_gt, dv_ge, dv_int, dv_abs, dv_lenL, dv_lenT, dv_tupL, dv_tupT, dv_lofL, dv_lofT, dv_lofS, dv_seqL, dv_seqT, dv_ixL, dv_ixT, dv_ixO, atI_0, atI_1, atI_2, Option.bind_some, Option.bind_none, List.getElem?_cons_zero, List.getElem?_cons_succ, List.getElem?_nil, List.set_cons_zero, List.set_cons_succ, List.set_nil, List.length_cons, List.length_nil, List.map_cons, List.map_nil, List.replicate_succ, List.replicate_zero, List.cons_append, List.nil_append, Nat.reduceAdd, Nat.reduceSub, Nat.reduceLeDiff, Nat.zero_add, Nat.sub_zero, Nat.add_zero, if_true, if_false, Bool.false_eq_true, Nat.reduceEqDiff, Bool.not_true, Bool.not_false, decide_true, decide_false, ev_nat]
    refine ⟨_, eb, ?_⟩
    rw [ev_put1, ev_put1, ev_put0]
    have eg : atI (h2.map D.int) ((p.2 : Nat) : Int) = some (.int (h2.getD p.2 0)) := by
      rw [atI_nat, List.getElem?_map, List.getD_eq_getElem?_getD, List.getElem?_eq_getElem hk]
      rfl
    simp only [ev_C, ev_V, ev_B, ev_aN, ev_aC, ev_Tup, ev_Lst, ev_Bin, ev_Un, ev_UnF, ev_cV, ev_cAnd, ev_cOr, ev_cNot, ev_cYes, ev_And, ev_Or, ev_Not, ev_If, ev_Chain, ev_Call, ev_Ix, ev_Sl, ev_oN, ev_oE, ev_aS, ev_Comp, ev_iAny, ev_iRange1, ev_iRange2, ev_iZip, ev_iEnum, ev_sNil, ev_sSeq, ev_sIf, ev_sRet, ev_sRetO, ev_sRetN, ev_sAsg, ev_sSet, ev_sSetO, ev_sPar, ev_sFor, ev_sWhile, ev_sApp, ev_sIxO, ev_sIxC, ev_sFrz, ev_sExp, ev_sPass, ev_runB, ev_forN, ev_compN, ev_put0, ev_put1, ev_wipe0, ev_wipe1, ev_bnm, ev_btup, ev_bL0, ev_bL1, dv_add, dv_sub, dv_neg, dv_lt, dv_le, dv_gt, dv_ge, dv_int, dv_abs, dv_lenL, dv_lenT, dv_tupL, dv_tupT, dv_lofL, dv_lofT, dv_lofS, dv_seqL, dv_seqT, dv_ixL, dv_ixT, dv_ixO, atI_0, atI_1, atI_2, Option.bind_some, Option.bind_none, List.getElem?_cons_zero, List.getElem?_cons_succ, List.getElem?_nil, List.set_cons_zero, List.set_cons_succ, List.set_nil, List.length_cons, List.length_nil, List.map_cons, List.map_nil, List.replicate_succ, List.replicate_zero, List.cons_append, List.nil_append, Nat.reduceAdd, Nat.reduceSub, Nat.reduceLeDiff, Nat.zero_add, Nat.sub_zero, Nat.add_zero, if_true, if_false, Bool.false_eq_true, Nat.reduceEqDiff, Bool.not_true, Bool.not_false, decide_true, decide_false, ev_nat, y0, eg, Function.comp_apply, eqD3]
abbrev Match := (Nat × Rat) × Int × Rat
def matD (x : Match) : D := .tup [rowD x.1, .int x.2.1, dR x.2.2]
theorem solOut_some (x : Match) : solOut (some x) = matD x := rfl
theorem dvd_gcdL : ∀ (l : List Int) (d : Nat), (∀ x ∈ l, (d : Int) ∣ x) → d ∣ gcdL l
  | [], d, _ => Nat.dvd_zero d
  | x :: l, d, h => by
    rw [gcdL_cons]
    exact Nat.dvd_gcd (Int.ofNat_dvd_left.mp (h x List.mem_cons_self)) (dvd_gcdL l d fun y hy => h y (List.mem_cons_of_mem _ hy))
theorem gcdL_perm {l m : List Int} (h : l.Perm m) : gcdL l = gcdL m :=
  Nat.dvd_antisymm (dvd_gcdL m _ fun x hx => gcdL_dvd l x (h.mem_iff.mpr hx)) (dvd_gcdL l _ fun x hx => gcdL_dvd m x (h.mem_iff.mp hx))
theorem ex_hands {h : List Int} {e : List Nat} (n : e.Nodup) (hk : ∀ k ∈ e, k < h.length) (hl : e.length = h.length) : (e.map fun k => h.getD k 0).Perm h := by
  refine (isEx_iff (by rw [List.length_map, hl])).mp ⟨e, n, ?_⟩
  rw [List.map_map]
  refine List.map_congr_left fun k hm => ?_
  show h[k]? = some (h.getD k 0)
  rw [List.getD_eq_getElem?_getD, List.getElem?_eq_getElem (hk k hm)]
  rfl
theorem eqs_a {h1 h2 : List Int} {e : List Nat} {c : Rat} (hl : e.length = h1.length) : (eqsOf h1 h2 e c).map (·.a) = e.map fun k => h2.getD k 0 := by
  unfold eqsOf
  rw [List.map_map]
  have : (h1.zip e).map Prod.snd = e := List.map_snd_zip (by omega)
  conv => rhs; rw [← this]
  rw [List.map_map]
  rfl
def Eqs (h1 h2 : List Int) (e : List Nat) (c t u : Rat) : Prop := ∀ x ∈ eqsOf h1 h2 e c, x.sat t u
theorem eqs_seen {h1 h2 : List Int} {e : List Nat} {c t u : Rat} : Eqs h1 h2 e (K.fr c) t u ↔ SeenBy h2 e (plc h1 t) c u := by
  unfold Eqs SeenBy eqsOf plc
  induction h1 generalizing e with
  | nil => simp
  | cons h h1 ih =>
    cases e with
    | nil => simp
    | cons k e =>
      have q : (⟨h2.getD k 0, -h, K.fr c⟩ : Eq3).sat t u ↔ has (h2.getD k 0) (K.fr (t * (h : Rat)) + c) u := by
        unfold Eq3.sat has
        have e1 : u * ((h2.getD k 0 : Int) : Rat) + t * ((-h : Int) : Rat) = u * ((h2.getD k 0 : Int) : Rat) - t * (h : Rat) := by rw [Rat.intCast_neg]; grind
        simp only [e1]
        have f1 := fr_eqv c
        have f2 := fr_eqv (t * (h : Rat))
        constructor
        · intro w
          have a : Eqv (u * ((h2.getD k 0 : Int) : Rat)) (c + t * (h : Rat)) := ((Eqv.of_eq (by grind)).trans ((w.trans f1).add (Eqv.refl (t * (h : Rat)))))
          exact a.trans ((Eqv.of_eq (by grind)).trans ((f2.symm).add (Eqv.refl c)))
        · intro w
          have a := w.trans (f2.add (Eqv.refl c))
          have b := a.sub (Eqv.refl (t * (h : Rat)))
          exact b.trans ((Eqv.of_eq (by grind)).trans f1.symm)
      simp only [List.zip_cons_cons, List.map_cons, List.mem_cons, forall_eq_or_imp]
      rw [q]
      exact and_congr Iff.rfl ih
structure GM (x : Match) : Prop where
  r : GR 184 13 x.1
  d : x.2.1.natAbs < 2 ^ 184
  c : P 3 x.2.2
def msat (x : Match) (t u : Rat) : Prop := hasR x.1 t ∧ Eqv u (x.2.2 - t * (x.2.1 : Rat))
structure MS (h1 h2 : List Int) (L1 L2 : List Nat) (m : Nat) (ms : List Match) : Prop where
  good : ∀ x ∈ ms, GM x
  of : ∀ x ∈ ms, ∃ e s, IsEx L1 L2 e ∧ s < m ∧ ∀ t u, msat x t u ↔ Eqs h1 h2 e (K.fr (stp m s)) t u
  all : ∀ e s, IsEx L1 L2 e → s < m → (∃ x ∈ ms, ∀ t u, msat x t u ↔ Eqs h1 h2 e (K.fr (stp m s)) t u) ∨ ∀ t u, ¬ Eqs h1 h2 e (K.fr (stp m s)) t u
def matIn : Sv := (sSeq (sSet 5 (eCall 1 m_solved (aC (eCall 4 m_equations (aC (eV 0) (aC (eV 1) (aC (eV 3) (aC (eV 4) aN))))) aN))) (sSet 2 (eIf (cV (eBin dIsN (eB 5) (eC .non))) (eV 2) (eLst (aS (eB 2) (aC (eV 5) aN))))))
theorem g_matches_is : g_matches = (sSeq (sSet 2 (eLst aN)) (sSeq (sFor (.nm 3) (iAny (eCall 2 m_exchanges (aC (eIx (eB 0) (eC (.int 1))) (aC (eIx (eB 1) (eC (.int 1))) aN)))) (sFor (.nm 4) (iRange1 (aC (eIx (eB 0) (eC (.int 2))) aN)) matIn)) (sRet (eV 2)))) := rfl
theorem two_sat (h1 h2 : List Int) (b1 : ∀ h ∈ h1, h.natAbs ≤ 1000000) (b2 : ∀ h ∈ h2, h.natAbs ≤ 1000000) (l4 : h1.length ≤ 4) (ll : h1.length = h2.length) (g2 : gcdL h2 = 1) (m : Nat) (m0 : 0 < m) (m6 : m ≤ 6) (e : List Nat) (ne : e.Nodup) (hk : ∀ k ∈ e, k < h2.length) (hl : e.length = h1.length) (s : Nat) (S : List D) :
    ∃ o, m_solved [.lst ((eqsOf h1 h2 e (K.fr (stp m s))).map eqD3)] S = some (solOut o, S) ∧ (o = none → ∀ t u, ¬ Eqs h1 h2 e (K.fr (stp m s)) t u) ∧ ∀ x, o = some x → GM x ∧ ∀ t u, msat x t u ↔ Eqs h1 h2 e (K.fr (stp m s)) t u := by
  have hlen : (eqsOf h1 h2 e (K.fr (stp m s))).length ≤ 4 := by unfold eqsOf; rw [List.length_map, List.length_zip]; omega
  have mem : ∀ x ∈ eqsOf h1 h2 e (K.fr (stp m s)), x.a.natAbs ≤ 1000000 ∧ x.b.natAbs ≤ 1000000 ∧ MN m x.c := fun x hx => by
    obtain ⟨p, hp, rfl⟩ := List.mem_map.mp hx
    have p1 := (List.of_mem_zip hp).1
    have p2 := hk _ (List.of_mem_zip hp).2
    refine ⟨?_, ?_, ?_⟩
    · show (h2.getD p.2 0).natAbs ≤ _
      rw [List.getD_eq_getElem?_getD, List.getElem?_eq_getElem p2]
      exact b2 _ (List.getElem_mem _)
    · show (-p.1).natAbs ≤ _
      rw [Int.natAbs_neg]
      exact b1 _ p1
    · refine ⟨(s : Int), ?_⟩
      show K.fr (stp m s) = _
      unfold stp
      rw [Rat.intCast_natCast]
  have hB : Bd 1000000 1000000 (eqsOf h1 h2 e (K.fr (stp m s))).length < 2 ^ 184 := by
    refine Nat.lt_of_lt_of_le (Bd_bits (h := 20) (a := 20) (by decide) (by decide) _) (Nat.pow_le_pow_right (by decide) ?_)
    omega
  have hgc : gcdL ((eqsOf h1 h2 e (K.fr (stp m s))).map (·.a)) = 1 := by
    rw [eqs_a hl, gcdL_perm (ex_hands ne hk (by omega)), g2]
  obtain ⟨o, e1, e2, e3⟩ := m_solved_ex (N := m) (n := 3) (A := 1000000) (H := 1000000) (b := 184) m0 (by show m < 8; omega) (by decide) (by decide) _ mem hB (by decide) (by omega) hgc S
  refine ⟨o, e1, e2, fun x hx => ?_⟩
  obtain ⟨⟨rn, rp⟩, d, c⟩ := x
  obtain ⟨q1, q2, q3, q4⟩ := e3 _ _ _ hx
  exact ⟨⟨q1.mono (Nat.le_refl _) (by omega), q2, q3.P m0 (by show m < 8; omega)⟩, fun t u => (q4 t u).symm⟩
structure MSp (h1 h2 : List Int) (m : Nat) (ex : List (List Nat)) (k : Nat) (e0 : List Nat) (ms : List Match) : Prop where
  len : ms.length ≤ ex.length * m + k
  good : ∀ x ∈ ms, GM x
  of : ∀ x ∈ ms, ∃ e s, (e ∈ ex ∨ e = e0) ∧ s < m ∧ ∀ t u, msat x t u ↔ Eqs h1 h2 e (K.fr (stp m s)) t u
  all : ∀ e ∈ ex, ∀ s, s < m → (∃ x ∈ ms, ∀ t u, msat x t u ↔ Eqs h1 h2 e (K.fr (stp m s)) t u) ∨ ∀ t u, ¬ Eqs h1 h2 e (K.fr (stp m s)) t u
  now : ∀ s, s < k → (∃ x ∈ ms, ∀ t u, msat x t u ↔ Eqs h1 h2 e0 (K.fr (stp m s)) t u) ∨ ∀ t u, ¬ Eqs h1 h2 e0 (K.fr (stp m s)) t u
theorem m_matches_ex (h1 h2 : List Int) (l1 l2 : PySem.Str) (m : Nat) (k2 : Nat) (b1 : ∀ h ∈ h1, h.natAbs ≤ 1000000) (b2 : ∀ h ∈ h2, h.natAbs ≤ 1000000) (l4 : h1.length ≤ 4) (ll : h1.length = h2.length) (g2 : gcdL h2 = 1) (m0 : 0 < m) (m6 : m ≤ 6)
    (lk1 : (cds l1).length = h1.length) (lk2 : (cds l2).length = h2.length) (ok1 : okS (cds l1)) (ok2 : okS (cds l2)) (S : List D) :
    ∃ ms, m_matches [clkD h1 l1 (m : Int), clkD h2 l2 (k2 : Int)] S = some (.lst (ms.map matD), S) ∧ MS h1 h2 (cds l1) (cds l2) m ms ∧ ms.length ≤ (exs (cds l1) (cds l2)).length * m := by
  have hex := m_exchanges_eq l1 l2 ok1 ok2 (by omega) (by omega) S
  have exP : ∀ e ∈ exs (cds l1) (cds l2), IsEx (cds l1) (cds l2) e := fun e he => (mem_exs _ _ _ rfl e).mp he
  have exF : ∀ e ∈ exs (cds l1) (cds l2), e.Nodup ∧ (∀ k ∈ e, k < h2.length) ∧ e.length = h1.length := fun e he => by
    have q := exP e he
    exact ⟨q.1, fun k hk => by rw [← lk2]; exact isEx_lt q k hk, by rw [isEx_len q, lk1]⟩
  have exL : (exs (cds l1) (cds l2)).length ≤ 256 := by
    have go : ∀ (n : Nat) (a : List Nat), a.length = n → n ≤ 4 → (exs a (cds l2)).length ≤ 4 ^ n := by
      intro n
      induction n with
      | zero =>
        intro a h _
        have : a = [] := List.eq_nil_of_length_eq_zero h
        subst this
        exact Nat.le_refl _
      | succ n ih =>
        intro a h h4
        obtain ⟨a', c, rfl⟩ : ∃ a' c, a = a' ++ [c] := ⟨a.dropLast, a.getLast (by intro z; rw [z] at h; cases h), (List.dropLast_concat_getLast _).symm⟩
        rw [exs_snoc, Nat.pow_succ]
        exact Nat.le_trans (len_exStep _ _ _) (Nat.mul_le_mul (ih a' (by rw [List.length_append] at h; simpa using h) (by omega)) (by omega))
    have := go _ (cds l1) rfl (by omega)
    have e2 : (4 : Nat) ^ (cds l1).length ≤ 4 ^ 4 := Nat.pow_le_pow_right (by decide) (by omega)
    have : (4 : Nat) ^ 4 = 256 := rfl
    omega
  have turn : ∀ (ex : List (List Nat)) (e0 : List Nat) (k : Nat) (ms : List Match) (s3 s5 : Slot), ex.length ≤ 256 → e0 ∈ exs (cds l1) (cds l2) → k < m → MSp h1 h2 m ex k e0 ms →
      ∃ ms' s5', matIn [.val (clkD h1 l1 (m : Int)), .val (clkD h2 l2 (k2 : Int)), .val (.lst (ms.map matD)), .val (tupN e0), .val (.int (k : Int)), s5] S = some (.nx [.val (clkD h1 l1 (m : Int)), .val (clkD h2 l2 (k2 : Int)), .val (.lst (ms'.map matD)), .val (tupN e0), .val (.int (k : Int)), s5'] S) ∧ MSp h1 h2 m ex (k + 1) e0 ms' := by
    intro ex e0 k ms s3 s5 hexl he0 hk q
    obtain ⟨f1, f2, f3⟩ := exF e0 he0
    have eq := m_equations_eq h1 h2 l1 l2 m k2 e0 k hk m6 f2 l4 S
    obtain ⟨o, w1, w2, w3⟩ := two_sat h1 h2 b1 b2 l4 ll g2 m m0 m6 e0 f1 f2 f3 k S
    unfold matIn
    cases o with
    | none =>
      refine ⟨ms, .val .non, ?_, ⟨by have := q.len; omega, q.good, q.of, q.all, fun s hs => ?_⟩⟩
      · have w1' : m_solved [.lst ((eqsOf h1 h2 e0 (K.fr (stp m k))).map eqD3)] S = some (.non, S) := w1
        simp only [ev_C, ev_V, ev_B, ev_aN, ev_aC, ev_Tup, ev_Lst, ev_Bin, ev_Un, ev_UnF, ev_cV, ev_cAnd, ev_cOr, ev_cNot, ev_cYes, ev_And, ev_Or, ev_Not, ev_If, ev_Chain, ev_Call, ev_Ix, ev_Sl, ev_oN, ev_oE, ev_aS, ev_Comp, ev_iAny, ev_iRange1, ev_iRange2, ev_iZip, ev_iEnum, ev_sNil, ev_sSeq, ev_sIf, ev_sRet, ev_sRetO, ev_sRetN, ev_sAsg, ev_sSet, ev_sSetO, ev_sPar, ev_sFor, ev_sWhile, ev_sApp, ev_sIxO, ev_sIxC, ev_sFrz, ev_sExp, ev_sPass, ev_runB, ev_forN, ev_compN, ev_put0, ev_put1, ev_wipe0, ev_wipe1, ev_bnm, ev_btup, ev_bL0, ev_bL1, dv_add, dv_sub, dv_neg, dv_lt, dv_le, dv_gt, dv_ge, dv_int, dv_abs, dv_lenL, dv_lenT, dv_tupL, dv_tupT, dv_lofL, dv_lofT, dv_lofS, dv_seqL, dv_seqT, dv_ixL, dv_ixT, dv_ixO, atI_0, atI_1, atI_2, Option.bind_some, Option.bind_none, List.getElem?_cons_zero, List.getElem?_cons_succ, List.getElem?_nil, List.set_cons_zero, List.set_cons_succ, List.set_nil, List.length_cons, List.length_nil, List.map_cons, List.map_nil, List.replicate_succ, List.replicate_zero, List.cons_append, List.nil_append, Nat.reduceAdd, Nat.reduceSub, Nat.reduceLeDiff, Nat.zero_add, Nat.sub_zero, Nat.add_zero, if_true, if_false, Bool.false_eq_true, Nat.reduceEqDiff, Bool.not_true, Bool.not_false, decide_true, decide_false, ev_nat, eq, w1', dIsN, isNonD]
      · by_cases z : s = k
        · subst z; exact .inr (w2 rfl)
        · exact q.now s (by omega)
    | some x =>
      obtain ⟨gx, sx⟩ := w3 x rfl
      have hlen : (ms ++ [x]).length ≤ 16777216 := by
        have := q.len
        have : ex.length * m ≤ 256 * 6 := Nat.mul_le_mul hexl m6
        rw [List.length_append]
        show ms.length + 1 ≤ _
        omega
      refine ⟨ms ++ [x], .val (matD x), ?_, ⟨by have := q.len; rw [List.length_append]; show ms.length + 1 ≤ _; omega, fun y hy => ?_, fun y hy => ?_, fun e he s hs => ?_, fun s hs => ?_⟩⟩
      · have w1' : m_solved [.lst ((eqsOf h1 h2 e0 (K.fr (stp m k))).map eqD3)] S = some (matD x, S) := w1
        have e5 : dIsN (matD x) .non = some (.bl false) := rfl
        have hl2 : (ms.map matD ++ [matD x]).length ≤ 16777216 := by rw [List.length_append, List.length_map]; rw [List.length_append] at hlen; exact hlen
        simp only [ev_C, ev_V, ev_B, ev_aN, ev_aC, ev_Tup, ev_Lst, ev_Bin, ev_Un, ev_UnF, ev_cV, ev_cAnd, ev_cOr, ev_cNot, ev_cYes, ev_And, ev_Or, ev_Not, ev_If, ev_Chain, ev_Call, ev_Ix, ev_Sl, ev_oN, ev_oE, ev_aS, ev_Comp, ev_iAny, ev_iRange1, ev_iRange2, ev_iZip, ev_iEnum, ev_sNil, ev_sSeq, ev_sIf, ev_sRet, ev_sRetO, ev_sRetN, ev_sAsg, ev_sSet, ev_sSetO, ev_sPar, ev_sFor, ev_sWhile, ev_sApp, ev_sIxO, ev_sIxC, ev_sFrz, ev_sExp, ev_sPass, ev_runB, ev_forN, ev_compN, ev_put0, ev_put1, ev_wipe0, ev_wipe1, ev_bnm, ev_btup, ev_bL0, ev_bL1, dv_add, dv_sub, dv_neg, dv_lt, dv_le, dv_gt, dv_ge, dv_int, dv_abs, dv_lenL, dv_lenT, dv_tupL, dv_tupT, dv_lofL, dv_lofT, dv_lofS, dv_seqL, dv_seqT, dv_ixL, dv_ixT, dv_ixO, atI_0, atI_1, atI_2, Option.bind_some, Option.bind_none, List.getElem?_cons_zero, List.getElem?_cons_succ, List.getElem?_nil, List.set_cons_zero, List.set_cons_succ, List.set_nil, List.length_cons, List.length_nil, List.map_cons, List.map_nil, List.replicate_succ, List.replicate_zero, List.cons_append, List.nil_append, Nat.reduceAdd, Nat.reduceSub, Nat.reduceLeDiff, Nat.zero_add, Nat.sub_zero, Nat.add_zero, if_true, if_false, Bool.false_eq_true, Nat.reduceEqDiff, Bool.not_true, Bool.not_false, decide_true, decide_false, ev_nat, eq, w1', e5, ev_aS, if_pos hl2, List.map_append]
      · rcases List.mem_append.mp hy with hy | hy
        · exact q.good y hy
        · have : y = x := by simpa using hy
          subst this; exact gx
      · rcases List.mem_append.mp hy with hy | hy
        · exact q.of y hy
        · have : y = x := by simpa using hy
          subst this; exact ⟨e0, k, .inr rfl, hk, sx⟩
      · rcases q.all e he s hs with ⟨y, hy, z⟩ | z
        · exact .inl ⟨y, List.mem_append_left _ hy, z⟩
        · exact .inr z
      · by_cases z : s = k
        · subst z; exact .inl ⟨x, List.mem_append_right _ List.mem_cons_self, sx⟩
        · rcases q.now s (by omega) with ⟨y, hy, z⟩ | z
          · exact .inl ⟨y, List.mem_append_left _ hy, z⟩
          · exact .inr z
  have inner : ∀ (ex : List (List Nat)) (e0 : List Nat) (ms : List Match) (s4 s5 : Slot), ex.length ≤ 256 → e0 ∈ exs (cds l1) (cds l2) → MSp h1 h2 m ex 0 e0 ms →
      ∃ ms' s4' s5', sFor (.nm 4) (iRange1 (aC (eIx (eB 0) (eC (.int 2))) aN)) matIn [.val (clkD h1 l1 (m : Int)), .val (clkD h2 l2 (k2 : Int)), .val (.lst (ms.map matD)), .val (tupN e0), s4, s5] S = some (.nx [.val (clkD h1 l1 (m : Int)), .val (clkD h2 l2 (k2 : Int)), .val (.lst (ms'.map matD)), .val (tupN e0), s4', s5'] S) ∧ MSp h1 h2 m ex m e0 ms' := by
    intro ex e0 ms s4 s5 hexl he0 q
    have go : ∀ (j k : Nat) (ms : List Match) (s4 s5 : Slot), k + j = m → MSp h1 h2 m ex k e0 ms →
        ∃ ms' s4' s5', forL (.nm 4) matIn ((List.range' k j).map fun (i : Nat) => D.int (i : Int)) [.val (clkD h1 l1 (m : Int)), .val (clkD h2 l2 (k2 : Int)), .val (.lst (ms.map matD)), .val (tupN e0), s4, s5] S = some (.nx [.val (clkD h1 l1 (m : Int)), .val (clkD h2 l2 (k2 : Int)), .val (.lst (ms'.map matD)), .val (tupN e0), s4', s5'] S) ∧ MSp h1 h2 m ex m e0 ms' := by
      intro j
      induction j with
      | zero =>
        intro k ms s4 s5 h q
        have : k = m := by omega
        subst this
        exact ⟨ms, s4, s5, rfl, q⟩
      | succ j ih =>
        intro k ms s4 s5 h q
        obtain ⟨ms1, s5', e1, q1⟩ := turn ex e0 k ms .non s5 hexl he0 (by omega) q
        obtain ⟨ms2, s4', s5'', e2, q2⟩ := ih (k + 1) ms1 (.val (.int (k : Int))) s5' (by omega) q1
        refine ⟨ms2, s4', s5'', ?_, q2⟩
        rw [List.range'_succ, List.map_cons, ev_forC, ev_bnm, Option.bind_some, ev_put1, ev_put0]
        simp only [List.set_cons_succ, List.set_cons_zero]
        rw [e1, Option.bind_some]
        exact e2
    obtain ⟨ms', s4', s5', e1, q1⟩ := go m 0 ms s4 s5 (by omega) q
    refine ⟨ms', s4', s5', ?_, q1⟩
    have z2 : ixD S (clkD h1 l1 (m : Int)) (.int 2) = some (.int (m : Int)) := by unfold clkD; simp only [ev_C, ev_V, ev_B, ev_aN, ev_aC, ev_Tup, ev_Lst, ev_Bin, ev_Un, ev_UnF, ev_cV, ev_cAnd, ev_cOr, ev_cNot, ev_cYes, ev_And, ev_Or, ev_Not, ev_If, ev_Chain, ev_Call, ev_Ix, ev_Sl, ev_oN, ev_oE, ev_aS, ev_Comp, ev_iAny, ev_iRange1, ev_iRange2, ev_iZip, ev_iEnum, ev_sNil, ev_sSeq, ev_sIf, ev_sRet, ev_sRetO, ev_sRetN, ev_sAsg, ev_sSet, ev_sSetO, ev_sPar, ev_sFor, ev_sWhile, ev_sApp, ev_sIxO, ev_sIxC, ev_sFrz, ev_sExp, ev_sPass, ev_runB, ev_forN, ev_compN, ev_put0, ev_put1, ev_wipe0, ev_wipe1, ev_bnm, ev_btup, ev_bL0, ev_bL1, dv_add, dv_sub, dv_neg, dv_lt, dv_le, dv_gt, dv_ge, dv_int, dv_abs, dv_lenL, dv_lenT, dv_tupL, dv_tupT, dv_lofL, dv_lofT, dv_lofS, dv_seqL, dv_seqT, dv_ixL, dv_ixT, dv_ixO, atI_0, atI_1, atI_2, Option.bind_some, Option.bind_none, List.getElem?_cons_zero, List.getElem?_cons_succ, List.getElem?_nil, List.set_cons_zero, List.set_cons_succ, List.set_nil, List.length_cons, List.length_nil, List.map_cons, List.map_nil, List.replicate_succ, List.replicate_zero, List.cons_append, List.nil_append, Nat.reduceAdd, Nat.reduceSub, Nat.reduceLeDiff, Nat.zero_add, Nat.sub_zero, Nat.add_zero, if_true, if_false, Bool.false_eq_true, Nat.reduceEqDiff, Bool.not_true, Bool.not_false, decide_true, decide_false, ev_nat]
    refine for_s (ds := rangeD 0 (m : Int)) (S' := S) (range1_s (by simp only [ev_C, ev_V, ev_B, ev_aN, ev_aC, ev_Tup, ev_Lst, ev_Bin, ev_Un, ev_UnF, ev_cV, ev_cAnd, ev_cOr, ev_cNot, ev_cYes, ev_And, ev_Or, ev_Not, ev_If, ev_Chain, ev_Call, ev_Ix, ev_Sl, ev_oN, ev_oE, ev_aS, ev_Comp, ev_iAny, ev_iRange1, ev_iRange2, ev_iZip, ev_iEnum, ev_sNil, ev_sSeq, ev_sIf, ev_sRet, ev_sRetO, ev_sRetN, ev_sAsg, ev_sSet, ev_sSetO, ev_sPar, ev_sFor, ev_sWhile, ev_sApp, ev_sIxO, ev_sIxC, ev_sFrz, ev_sExp, ev_sPass, ev_runB, ev_forN, ev_compN, ev_put0, ev_put1, ev_wipe0, ev_wipe1, ev_bnm, ev_btup, ev_bL0, ev_bL1, dv_add, dv_sub, dv_neg, dv_lt, dv_le, dv_gt, dv_ge, dv_int, dv_abs, dv_lenL, dv_lenT, dv_tupL, dv_tupT, dv_lofL, dv_lofT, dv_lofS, dv_seqL, dv_seqT, dv_ixL, dv_ixT, dv_ixO, atI_0, atI_1, atI_2, Option.bind_some, Option.bind_none, List.getElem?_cons_zero, List.getElem?_cons_succ, List.getElem?_nil, List.set_cons_zero, List.set_cons_succ, List.set_nil, List.length_cons, List.length_nil, List.map_cons, List.map_nil, List.replicate_succ, List.replicate_zero, List.cons_append, List.nil_append, Nat.reduceAdd, Nat.reduceSub, Nat.reduceLeDiff, Nat.zero_add, Nat.sub_zero, Nat.add_zero, if_true, if_false, Bool.false_eq_true, Nat.reduceEqDiff, Bool.not_true, Bool.not_false, decide_true, decide_false, ev_nat, z2]) (inWord_len (by omega))) ?_
    rw [rangeD_eq, List.range_eq_range']
    exact e1
  have outer : ∀ (rest pre : List (List Nat)) (ms : List Match) (e0 : List Nat) (s3 s4 s5 : Slot), pre ++ rest = exs (cds l1) (cds l2) → MSp h1 h2 m pre 0 e0 ms → (∀ x ∈ ms, ∃ e s, e ∈ pre ∧ s < m ∧ ∀ t u, msat x t u ↔ Eqs h1 h2 e (K.fr (stp m s)) t u) →
      ∃ ms' s3' s4' s5', forL (.nm 3) (sFor (.nm 4) (iRange1 (aC (eIx (eB 0) (eC (.int 2))) aN)) matIn) (rest.map tupN) [.val (clkD h1 l1 (m : Int)), .val (clkD h2 l2 (k2 : Int)), .val (.lst (ms.map matD)), s3, s4, s5] S = some (.nx [.val (clkD h1 l1 (m : Int)), .val (clkD h2 l2 (k2 : Int)), .val (.lst (ms'.map matD)), s3', s4', s5'] S) ∧ MSp h1 h2 m (exs (cds l1) (cds l2)) 0 [] ms' ∧ ∀ x ∈ ms', ∃ e s, e ∈ exs (cds l1) (cds l2) ∧ s < m ∧ ∀ t u, msat x t u ↔ Eqs h1 h2 e (K.fr (stp m s)) t u := by
    intro rest
    induction rest with
    | nil =>
      intro pre ms e0 s3 s4 s5 h q w
      rw [List.append_nil] at h
      subst h
      refine ⟨ms, s3, s4, s5, rfl, ⟨q.len, q.good, fun x hx => ?_, q.all, fun s hs => absurd hs (Nat.not_lt_zero _)⟩, w⟩
      obtain ⟨e, s, h1, h2⟩ := w x hx
      exact ⟨e, s, .inl h1, h2⟩
    | cons e rest ih =>
      intro pre ms e0 s3 s4 s5 h q w
      have he : e ∈ exs (cds l1) (cds l2) := by rw [← h]; exact List.mem_append_right _ List.mem_cons_self
      have hpl : pre.length ≤ 256 := by
        have := congrArg List.length h
        rw [List.length_append] at this
        omega
      obtain ⟨ms1, s4', s5', e1, q1⟩ := inner pre e ms s4 s5 hpl he ⟨q.len, q.good, fun x hx => by
        obtain ⟨e, s, h1, h2⟩ := w x hx
        exact ⟨e, s, .inl h1, h2⟩, q.all, fun s hs => absurd hs (Nat.not_lt_zero _)⟩
      have q1l := q1.len
      have w1 : ∀ x ∈ ms1, ∃ e' s, e' ∈ pre ++ [e] ∧ s < m ∧ ∀ t u, msat x t u ↔ Eqs h1 h2 e' (K.fr (stp m s)) t u := fun x hx => by
        obtain ⟨e', s, h1, h2⟩ := q1.of x hx
        refine ⟨e', s, ?_, h2⟩
        rcases h1 with h1 | h1
        · exact List.mem_append_left _ h1
        · subst h1; exact List.mem_append_right _ List.mem_cons_self
      obtain ⟨ms2, s3', s4'', s5'', e2, q2, w2⟩ := ih (pre ++ [e]) ms1 e (.val (tupN e)) s4' s5' (by rw [List.append_assoc]; exact h) ⟨by rw [List.length_append, Nat.add_mul]; show ms1.length ≤ pre.length * m + 1 * m + 0; omega, q1.good, fun x hx => by
        obtain ⟨e', s, h1, h2⟩ := w1 x hx
        exact ⟨e', s, .inl h1, h2⟩, fun e' he' s hs => by
        rcases List.mem_append.mp he' with he' | he'
        · exact q1.all e' he' s hs
        · have : e' = e := by simpa using he'
          subst this
          exact q1.now s hs, fun s hs => absurd hs (Nat.not_lt_zero _)⟩ w1
      refine ⟨ms2, s3', s4'', s5'', ?_, q2, w2⟩
      rw [List.map_cons, ev_forC, ev_bnm, Option.bind_some, ev_put1, ev_put0]
      simp only [List.set_cons_succ, List.set_cons_zero]
      rw [e1, Option.bind_some]
      exact e2
  obtain ⟨ms, s3, s4, s5, e1, q, w⟩ := outer (exs (cds l1) (cds l2)) [] [] [] .non .non .non rfl ⟨Nat.zero_le _, fun _ h => (nomatch h), fun _ h => (nomatch h), fun _ h => (nomatch h), fun s hs => absurd hs (Nat.not_lt_zero _)⟩ fun _ h => nomatch h
  refine ⟨ms, ?_, ⟨q.good, fun x hx => ?_, fun e s he hs => q.all e ((mem_exs _ _ _ rfl e).mpr he) s hs⟩, by have := q.len; omega⟩
  · unfold m_matches
    rw [g_matches_is]
    refine run_rt (ρ := [.val (clkD h1 l1 (m : Int)), .val (clkD h2 l2 (k2 : Int)), .non, .non, .non, .non]) rfl ?_
    refine (seq_nx (ρ' := [.val (clkD h1 l1 (m : Int)), .val (clkD h2 l2 (k2 : Int)), .val (.lst []), .non, .non, .non]) (S' := S) rfl).trans ?_
    have z1 : ixD S (clkD h1 l1 (m : Int)) (.int 1) = some (.str l1) := by unfold clkD; simp only [ev_C, ev_V, ev_B, ev_aN, ev_aC, ev_Tup, ev_Lst, ev_Bin, ev_Un, ev_UnF, ev_cV, ev_cAnd, ev_cOr, ev_cNot, ev_cYes, ev_And, ev_Or, ev_Not, ev_If, ev_Chain, ev_Call, ev_Ix, ev_Sl, ev_oN, ev_oE, ev_aS, ev_Comp, ev_iAny, ev_iRange1, ev_iRange2, ev_iZip, ev_iEnum, ev_sNil, ev_sSeq, ev_sIf, ev_sRet, ev_sRetO, ev_sRetN, ev_sAsg, ev_sSet, ev_sSetO, ev_sPar, ev_sFor, ev_sWhile, ev_sApp, ev_sIxO, ev_sIxC, ev_sFrz, ev_sExp, ev_sPass, ev_runB, ev_forN, ev_compN, ev_put0, ev_put1, ev_wipe0, ev_wipe1, ev_bnm, ev_btup, ev_bL0, ev_bL1, dv_add, dv_sub, dv_neg, dv_lt, dv_le, dv_gt, dv_ge, dv_int, dv_abs, dv_lenL, dv_lenT, dv_tupL, dv_tupT, dv_lofL, dv_lofT, dv_lofS, dv_seqL, dv_seqT, dv_ixL, dv_ixT, dv_ixO, atI_0, atI_1, atI_2, Option.bind_some, Option.bind_none, List.getElem?_cons_zero, List.getElem?_cons_succ, List.getElem?_nil, List.set_cons_zero, List.set_cons_succ, List.set_nil, List.length_cons, List.length_nil, List.map_cons, List.map_nil, List.replicate_succ, List.replicate_zero, List.cons_append, List.nil_append, Nat.reduceAdd, Nat.reduceSub, Nat.reduceLeDiff, Nat.zero_add, Nat.sub_zero, Nat.add_zero, if_true, if_false, Bool.false_eq_true, Nat.reduceEqDiff, Bool.not_true, Bool.not_false, decide_true, decide_false, ev_nat]
    have y1 : ixD S (clkD h2 l2 (k2 : Int)) (.int 1) = some (.str l2) := by unfold clkD; simp only [ev_C, ev_V, ev_B, ev_aN, ev_aC, ev_Tup, ev_Lst, ev_Bin, ev_Un, ev_UnF, ev_cV, ev_cAnd, ev_cOr, ev_cNot, ev_cYes, ev_And, ev_Or, ev_Not, ev_If, ev_Chain, ev_Call, ev_Ix, ev_Sl, ev_oN, ev_oE, ev_aS, ev_Comp, ev_iAny, ev_iRange1, ev_iRange2, ev_iZip, ev_iEnum, ev_sNil, ev_sSeq, ev_sIf, ev_sRet, ev_sRetO, ev_sRetN, ev_sAsg, ev_sSet, ev_sSetO, ev_sPar, ev_sFor, ev_sWhile, ev_sApp, ev_sIxO, ev_sIxC, ev_sFrz, ev_sExp, ev_sPass, ev_runB, ev_forN, ev_compN, ev_put0, ev_put1, ev_wipe0, ev_wipe1, ev_bnm, ev_btup, ev_bL0, ev_bL1, dv_add, dv_sub, dv_neg, dv_lt, dv_le, dv_gt, dv_ge, dv_int, dv_abs, dv_lenL, dv_lenT, dv_tupL, dv_tupT, dv_lofL, dv_lofT, dv_lofS, dv_seqL, dv_seqT, dv_ixL, dv_ixT, dv_ixO, atI_0, atI_1, atI_2, Option.bind_some, Option.bind_none, List.getElem?_cons_zero, List.getElem?_cons_succ, List.getElem?_nil, List.set_cons_zero, List.set_cons_succ, List.set_nil, List.length_cons, List.length_nil, List.map_cons, List.map_nil, List.replicate_succ, List.replicate_zero, List.cons_append, List.nil_append, Nat.reduceAdd, Nat.reduceSub, Nat.reduceLeDiff, Nat.zero_add, Nat.sub_zero, Nat.add_zero, if_true, if_false, Bool.false_eq_true, Nat.reduceEqDiff, Bool.not_true, Bool.not_false, decide_true, decide_false, ev_nat]
    refine (seq_nx (for_s (ds := (exs (cds l1) (cds l2)).map tupN) (S' := S) ?_ e1)).trans ?_
    · simp only [ev_C, ev_V, ev_B, ev_aN, ev_aC, ev_Tup, ev_Lst, ev_Bin, ev_Un, ev_UnF, ev_cV, ev_cAnd, ev_cOr, ev_cNot, ev_cYes, ev_And, ev_Or, ev_Not, ev_If, ev_Chain, ev_Call, ev_Ix, ev_Sl, ev_oN, ev_oE, ev_aS, ev_Comp, ev_iAny, ev_iRange1, ev_iRange2, ev_iZip, ev_iEnum, ev_sNil, ev_sSeq, ev_sIf, ev_sRet, ev_sRetO, ev_sRetN, ev_sAsg, ev_sSet, ev_sSetO, ev_sPar, ev_sFor, ev_sWhile, ev_sApp, ev_sIxO, ev_sIxC, ev_sFrz, ev_sExp, ev_sPass, ev_runB, ev_forN, ev_compN, ev_put0, ev_put1, ev_wipe0, ev_wipe1, ev_bnm, ev_btup, ev_bL0, ev_bL1, dv_add, dv_sub, dv_neg, dv_lt, dv_le, dv_gt, dv_ge, dv_int, dv_abs, dv_lenL, dv_lenT, dv_tupL, dv_tupT, dv_lofL, dv_lofT, dv_lofS, dv_seqL, dv_seqT, dv_ixL, dv_ixT, dv_ixO, atI_0, atI_1, atI_2, Option.bind_some, Option.bind_none, List.getElem?_cons_zero, List.getElem?_cons_succ, List.getElem?_nil, List.set_cons_zero, List.set_cons_succ, List.set_nil, List.length_cons, List.length_nil, List.map_cons, List.map_nil, List.replicate_succ, List.replicate_zero, List.cons_append, List.nil_append, Nat.reduceAdd, Nat.reduceSub, Nat.reduceLeDiff, Nat.zero_add, Nat.sub_zero, Nat.add_zero, if_true, if_false, Bool.false_eq_true, Nat.reduceEqDiff, Bool.not_true, Bool.not_false, decide_true, decide_false, ev_nat, z1, y1, hex]
    · exact ret_s rfl
  · obtain ⟨e, s, h1, h2⟩ := w x hx
    exact ⟨e, s, exP e h1, h2⟩
def prt (x : Match) (t : Rat) : Rat := K.fr (x.2.2 + K.fr (t * ((-x.2.1 : Int) : Rat)))
theorem prt_eqv (x : Match) (t : Rat) : Eqv (prt x t) (x.2.2 - t * (x.2.1 : Rat)) := by
  unfold prt
  refine (fr_eqv _).trans (((Eqv.refl x.2.2).add (fr_eqv _)).trans (Eqv.of_eq ?_))
  rw [Rat.intCast_neg]; grind
theorem P_prt {n : Nat} {x : Match} {t : Rat} (g : GM x) (ht : P n t) : P (n + 3) (prt x t) := by
  have := g.c.add (ht.mul (-x.2.1))
  exact this.mono (by omega)
theorem msat_iff {n : Nat} {x : Match} {t u : Rat} (g : GM x) (hu0 : 0 ≤ u) (hu1 : u < 1) : msat x t u ↔ hasR x.1 t ∧ u = prt x t := by
  unfold msat
  refine and_congr Iff.rfl ⟨fun h => ?_, fun h => ?_⟩
  · have h2 := h.trans (prt_eqv x t).symm
    refine eqv_eq h2 hu0 hu1 (fr_nonneg _) (fr_lt _)
  · rw [h]; exact prt_eqv x t
def Look (hands : List Int) (looks : PySem.Str) (m : Nat) (t u : Rat) : Prop := Shows hands (cds looks) (cds looks) m (plc hands t) u
theorem okD_dR (q : Rat) : ∀ n, okD (n + 1) (dR q) = true := fun n => by unfold dR; simp [okD, okL]
theorem okL_dR (r : List Rat) (n : Nat) : okL (n + 1) (r.map dR) = true := by
  induction r with
  | nil => simp [okL]
  | cons q r ih => simp only [List.map_cons, okL, okD_dR, ih, Bool.and_self]
theorem eqD_dR (q r : Rat) : eqD (dR q) (dR r) = decide (q = r) := by
  have := dv_eqR q r
  unfold dEq at this
  rw [okD_dR q 59, okD_dR r 59] at this
  simpa using this
theorem inL_dR (q : Rat) (r : List Rat) : inL (dR q) (r.map dR) = decide (q ∈ r) := by
  induction r with
  | nil => simp [inL]
  | cons x r ih =>
    simp only [List.map_cons, inL, eqD_dR, ih, List.mem_cons]
    by_cases h : q = x
    · subst h; simp
    · have : decide (x = q) = false := decide_eq_false (Ne.symm h)
      rw [this]
      simp [h]
theorem inB_dR (q : Rat) (r : List Rat) : inB (dR q) (.lst (r.map dR)) = some (decide (q ∈ r)) := by
  have : inB (dR q) (.lst (r.map dR)) = if (okD 60 (dR q) && okL 60 (r.map dR)) = true then some (inL (dR q) (r.map dR)) else none := rfl
  rw [this, okD_dR q 59, okL_dR r 59, inL_dR]
  rfl
theorem dv_inR (q : Rat) (r : List Rat) : dIn (dR q) (.lst (r.map dR)) = some (.bl (decide (q ∈ r))) := by
  unfold dIn; rw [inB_dR]; rfl
theorem dv_niR (q : Rat) (r : List Rat) : dNi (dR q) (.lst (r.map dR)) = some (.bl (!decide (q ∈ r))) := by
  unfold dNi; rw [inB_dR]; rfl
theorem eqL_dR : ∀ (a b : List Rat), eqL (a.map dR) (b.map dR) = decide (a = b)
  | [], [] => by simp [eqL]
  | [], _ :: _ => by simp [eqL]
  | _ :: _, [] => by simp [eqL]
  | x :: a, y :: b => by
    simp only [List.map_cons, eqL, eqD_dR, eqL_dR a b]
    by_cases h : x = y
    · subst h; simp
    · simp [h]
theorem dv_eqLR (a b : List Rat) : dEq (.lst (a.map dR)) (.lst (b.map dR)) = some (.bl (decide (a = b))) := by
  unfold dEq
  have h1 : okD 60 (.lst (a.map dR)) = true := by rw [show (60 : Nat) = 59 + 1 from rfl]; simp only [okD]; exact okL_dR a 58
  have h2 : okD 60 (.lst (b.map dR)) = true := by rw [show (60 : Nat) = 59 + 1 from rfl]; simp only [okD]; exact okL_dR b 58
  rw [h1, h2]
  simp only [Bool.and_self, if_true, eqD, eqL_dR]
theorem dv_neLR (a b : List Rat) : dNe (.lst (a.map dR)) (.lst (b.map dR)) = some (.bl (!decide (a = b))) := by
  unfold dNe
  have h1 : okD 60 (.lst (a.map dR)) = true := by rw [show (60 : Nat) = 59 + 1 from rfl]; simp only [okD]; exact okL_dR a 58
  have h2 : okD 60 (.lst (b.map dR)) = true := by rw [show (60 : Nat) = 59 + 1 from rfl]; simp only [okD]; exact okL_dR b 58
  rw [h1, h2]
  simp only [Bool.and_self, if_true, eqD, eqL_dR]
theorem lkD_dR (q : Rat) (n : Nat) : lkD (n + 1) (dR q) = true := by simp [dR, lkD, lkL]
theorem lkD_LR (a : List Rat) (h : a.length ≤ 16777216) (n : Nat) : lkD (n + 2) (.lst (a.map dR)) = true := by
  have : lkL (n + 1) (a.map dR) = true := lkL_of fun x hx => by
    obtain ⟨q, _, rfl⟩ := List.mem_map.mp hx
    exact lkD_dR q n
  simp only [lkD, this, List.length_map, decide_eq_true h, Bool.and_self]
def lookE (p : Nat × Rat) : D := .tup [.str (sgn p.1), .int p.2.num, .int (p.2.den : Int)]
def rowE (l : List (Nat × Rat)) : D := .lst (l.map lookE)
theorem tok_lookE (p : Nat × Rat) : tokD (lookE p) = [.inl 1, .inr [p.1], .inl 1, .inl p.2.num, .inl 1, .inl (p.2.den : Int), .inl 0] := by
  unfold tokD lookE
  simp only [py, pyL, PySem.W.keyToks, PySem.W.keyToksAll]
  rfl
theorem lookE_inj (p q : Nat × Rat) (h : tokD (lookE p) = tokD (lookE q)) : p = q := by
  rw [tok_lookE, tok_lookE] at h
  simp only [List.cons.injEq, Sum.inr.injEq, Sum.inl.injEq, and_true, true_and] at h
  obtain ⟨h1, h2, h3⟩ := h
  obtain ⟨a, x⟩ := p
  obtain ⟨b, y⟩ := q
  have e1 : a = b := h1
  have e2 : x = y := Rat.ext h2 (by have : (x.den : Int) = y.den := h3; omega)
  rw [e1, e2]
theorem tok_rowE (l : List (Nat × Rat)) : tokD (rowE l) = l.foldr (fun p r => .inl 1 :: (tokD (lookE p) ++ r)) [.inl 0] := by
  unfold tokD rowE
  simp only [py, PySem.W.keyToks]
  induction l with
  | nil => rfl
  | cons p l ih =>
    simp only [List.map_cons, pyL, PySem.W.keyToksAll, List.foldr_cons, ih]
theorem rowE_inj : ∀ (a b : List (Nat × Rat)), tokD (rowE a) = tokD (rowE b) → a = b
  | [], [], _ => rfl
  | [], q :: b, h => by
    rw [tok_rowE, tok_rowE] at h
    simp at h
  | p :: a, [], h => by
    rw [tok_rowE, tok_rowE] at h
    simp at h
  | p :: a, q :: b, h => by
    rw [tok_rowE, tok_rowE, List.foldr_cons, List.foldr_cons] at h
    have h1 := (List.cons.inj h).2
    have h2 := List.append_inj h1 (by rw [tok_lookE, tok_lookE]; rfl)
    have e1 := lookE_inj p q h2.1
    have e2 := rowE_inj a b (by rw [tok_rowE, tok_rowE]; exact h2.2)
    rw [e1, e2]
def sRow (l : List (Nat × Rat)) : List (Nat × Rat) := sortBy lookE l
def sRows (l : List (List (Nat × Rat))) : List (List (Nat × Rat)) := sortBy rowE l
def looksR (L : List Nat) (xs : List Rat) (m : Nat) : List (List (Nat × Rat)) := sRows ((List.range m).map fun s => sRow (rws L xs m s))
theorem looksR_iff {m : Nat} (m0 : 0 < m) (m6 : m ≤ 6) {L0 L : List Nat} (hl : L0.length = L.length) (xs : List Rat) (hands : List Int) (t : Rat) :
    looksR L (plc hands t) m = looksR L0 xs m ↔ ∃ s, s < m ∧ (L0.zip (trn xs (stp m s))).Perm (L.zip (plc hands t)) :=
  looks_iff (γ := List (Nat × Rat)) (G := sRow) (F := sRows) m6 (trn_plc hands t m) hl (sortBy_iff lookE_inj) (sortBy_iff rowE_inj) m0
theorem okD_lookE {p : Nat × Rat} (h : PySem.PyData.strOk (sgn p.1) = true) (n : Nat) : okD (n + 1) (lookE p) = true := by unfold lookE; simp [okD, okL, h]
theorem alike_lookE (p q : Nat × Rat) : PySem.W.alike (py (lookE p)) (py (lookE q)) = true := by unfold lookE; simp [py, pyL, PySem.W.alike, PySem.W.alikeAll]
theorem alike_rowE : ∀ (a b : List (Nat × Rat)), PySem.W.alike (py (rowE a)) (py (rowE b)) = true := by
  intro a b
  unfold rowE
  simp only [py, PySem.W.alike]
  induction a generalizing b with
  | nil => simp [pyL, PySem.W.alikeAll]
  | cons p a ih =>
    cases b with
    | nil => simp [pyL, PySem.W.alikeAll]
    | cons q b => simp only [List.map_cons, pyL, PySem.W.alikeAll, alike_lookE, ih b, Bool.and_self]
theorem rws_ok {L : List Nat} {xs : List Rat} {m s : Nat} (hL : okS L) : ∀ p ∈ rws L xs m s, PySem.PyData.strOk (sgn p.1) = true := fun p hp => hL _ (List.of_mem_zip hp).1
theorem okD_rowE {l : List (Nat × Rat)} (h : ∀ p ∈ l, PySem.PyData.strOk (sgn p.1) = true) : okD 60 (rowE l) = true := by
  unfold rowE
  rw [show (60 : Nat) = 59 + 1 from rfl]
  simp only [okD]
  refine okL_of fun d hd => ?_
  obtain ⟨p, hp, rfl⟩ := List.mem_map.mp hd
  exact okD_lookE (h p hp) 58
theorem sort_row {L : List Nat} {xs : List Rat} {m s : Nat} (hL : okS L) : sortD (.lst ((rws L xs m s).map lookE)) = some ((sRow (rws L xs m s)).map lookE) :=
  sortD_eq _ (fun p hp => okD_lookE (rws_ok hL p hp) 59) (fun p _ q _ => alike_lookE p q) (.inl fun p _ => rfl)
theorem sort_rows {L : List Nat} {xs : List Rat} {m : Nat} (hL : okS L) : sortD (.lst (((List.range m).map fun s => sRow (rws L xs m s)).map rowE)) = some ((looksR L xs m).map rowE) := by
  refine sortD_eq _ (fun l hl => okD_rowE ?_) (fun a _ b _ => alike_rowE a b) (.inr fun p _ => rfl)
  obtain ⟨s, _, rfl⟩ := List.mem_map.mp hl
  intro p hp
  exact rws_ok hL p ((sortBy_perm lookE _).mem_iff.mp hp)
def lkRow : Sv := (sSeq (sAsg (.tup [(.nm 7), (.nm 8)]) (eCall 2 m_law_sum (aC (eV 6) (aC (eTup (aC (eV 3) (aC (eIx (eB 0) (eC (.int 2))) aN))) aN)))) (sApp 4 (eTup (aC (eV 5) (aC (eV 7) (aC (eV 8) aN))))))
def lkStep : Sv := (sSeq (sSetO 4 (eLst aN)) (sSeq (sFor (.tup [(.nm 5), (.nm 6)]) (iZip (aC (eIx (eB 0) (eC (.int 1))) (aC (eV 1) aN))) lkRow) (sApp 2 (eUnF sortD (eB 4)))))
theorem zip_strs : ∀ (L : List Nat) (xs : List Rat), zipD (L.map fun c => D.str (sgn c)) (xs.map dR) = (L.zip xs).map fun p => .tup [.str (sgn p.1), dR p.2]
  | [], _ => by simp [zipD]
  | _ :: _, [] => by simp [zipD]
  | c :: L, x :: xs => by
    simp only [List.map_cons, zipD, List.zip_cons_cons]
    rw [zip_strs L xs]
theorem lk_row {n : Nat} (hands : List Int) (looks : PySem.Str) (m s : Nat) (hs : s < m) (m6 : m ≤ 6) (hn : n ≤ 7990) (s1 : Slot) (o2 : D) (S : List D) : ∀ (ps : List (Nat × Rat)) (pre : List (Nat × Rat)) (s5 s6 s7 s8 : Slot), (∀ p ∈ ps, P n p.2) → pre.length + ps.length ≤ 1000 →
    ∃ s5' s6' s7' s8', forL (.tup [(.nm 5), (.nm 6)]) lkRow (ps.map fun p => .tup [.str (sgn p.1), dR p.2]) [.val (clkD hands looks (m : Int)), s1, .own o2, .val (.int (s : Int)), .own (.lst (pre.map lookE)), s5, s6, s7, s8] S =
      some (.nx [.val (clkD hands looks (m : Int)), s1, .own o2, .val (.int (s : Int)), .own (.lst ((pre ++ ps.map fun p => (p.1, K.fr (p.2 + stp m s))).map lookE)), s5', s6', s7', s8'] S)
  | [], pre, s5, s6, s7, s8, _, _ => ⟨s5, s6, s7, s8, by rw [List.map_nil, List.map_nil, List.append_nil]; rfl⟩
  | p :: ps, pre, s5, s6, s7, s8, h, hl => by
    obtain ⟨s5', s6', s7', s8', q⟩ := lk_row hands looks m s hs m6 hn s1 o2 S ps (pre ++ [(p.1, K.fr (p.2 + stp m s))]) (.val (.str (sgn p.1))) (.val (dR p.2)) (.val (.int (K.fr (p.2 + stp m s)).num)) (.val (.int ((K.fr (p.2 + stp m s)).den : Int))) (fun x hx => h x (List.mem_cons_of_mem _ hx)) (by rw [List.length_append]; rw [List.length_cons] at hl; show pre.length + 1 + ps.length ≤ 1000; omega)
    refine ⟨s5', s6', s7', s8', ?_⟩
    have es := m_law_sum_stp (h p List.mem_cons_self) hn s m hs m6 S
    have z2 : ixD S (clkD hands looks (m : Int)) (.int 2) = some (.int (m : Int)) := by unfold clkD; simp only [ev_C, ev_V, ev_B, ev_aN, ev_aC, ev_Tup, ev_Lst, ev_Bin, ev_Un, ev_UnF, ev_cV, ev_cAnd, ev_cOr, ev_cNot, ev_cYes, ev_And, ev_Or, ev_Not, ev_If, ev_Chain, ev_Call, ev_Ix, ev_Sl, ev_oN, ev_oE, ev_aS, ev_Comp, ev_iAny, ev_iRange1, ev_iRange2, ev_iZip, ev_iEnum, ev_sNil, ev_sSeq, ev_sIf, ev_sRet, ev_sRetO, ev_sRetN, ev_sAsg, ev_sSet, ev_sSetO, ev_sPar, ev_sFor, ev_sWhile, ev_sApp, ev_sIxO, ev_sIxC, ev_sFrz, ev_sExp, ev_sPass, ev_runB, ev_forN, ev_compN, ev_put0, ev_put1, ev_wipe0, ev_wipe1, ev_bnm, ev_btup, ev_bL0, ev_bL1, dv_add, dv_sub, dv_neg, dv_lt, dv_le, dv_gt, dv_ge, dv_int, dv_abs, dv_lenL, dv_lenT, dv_tupL, dv_tupT, dv_lofL, dv_lofT, dv_lofS, dv_seqL, dv_seqT, dv_ixL, dv_ixT, dv_ixO, atI_0, atI_1, atI_2, Option.bind_some, Option.bind_none, List.getElem?_cons_zero, List.getElem?_cons_succ, List.getElem?_nil, List.set_cons_zero, List.set_cons_succ, List.set_nil, List.length_cons, List.length_nil, List.map_cons, List.map_nil, List.replicate_succ, List.replicate_zero, List.cons_append, List.nil_append, Nat.reduceAdd, Nat.reduceSub, Nat.reduceLeDiff, Nat.zero_add, Nat.sub_zero, Nat.add_zero, if_true, if_false, Bool.false_eq_true, Nat.reduceEqDiff, Bool.not_true, Bool.not_false, decide_true, decide_false, ev_nat]
    have eb : binds (.tup [(.nm 7), (.nm 8)]) (dR (K.fr (p.2 + stp m s))) = some [(7, .int (K.fr (p.2 + stp m s)).num), (8, .int ((K.fr (p.2 + stp m s)).den : Int))] := by unfold dR; simp only [ev_C, ev_V, ev_B, ev_aN, ev_aC, ev_Tup, ev_Lst, ev_Bin, ev_Un, ev_UnF, ev_cV, ev_cAnd, ev_cOr, ev_cNot, ev_cYes, ev_And, ev_Or, ev_Not, ev_If, ev_Chain, ev_Call, ev_Ix, ev_Sl, ev_oN, ev_oE, ev_aS, ev_Comp, ev_iAny, ev_iRange1, ev_iRange2, ev_iZip, ev_iEnum, ev_sNil, ev_sSeq, ev_sIf, ev_sRet, ev_sRetO, ev_sRetN, ev_sAsg, ev_sSet, ev_sSetO, ev_sPar, ev_sFor, ev_sWhile, ev_sApp, ev_sIxO, ev_sIxC, ev_sFrz, ev_sExp, ev_sPass, ev_runB, ev_forN, ev_compN, ev_put0, ev_put1, ev_wipe0, ev_wipe1, ev_bnm, ev_btup, ev_bL0, ev_bL1, dv_add, dv_sub, dv_neg, dv_lt, dv_le, dv_gt, dv_ge, dv_int, dv_abs, dv_lenL, dv_lenT, dv_tupL, dv_tupT, dv_lofL, dv_lofT, dv_lofS, dv_seqL, dv_seqT, dv_ixL, dv_ixT, dv_ixO, atI_0, atI_1, atI_2, Option.bind_some, Option.bind_none, List.getElem?_cons_zero, List.getElem?_cons_succ, List.getElem?_nil, List.set_cons_zero, List.set_cons_succ, List.set_nil, List.length_cons, List.length_nil, List.map_cons, List.map_nil, List.replicate_succ, List.replicate_zero, List.cons_append, List.nil_append, Nat.reduceAdd, Nat.reduceSub, Nat.reduceLeDiff, Nat.zero_add, Nat.sub_zero, Nat.add_zero, if_true, if_false, Bool.false_eq_true, Nat.reduceEqDiff, Bool.not_true, Bool.not_false, decide_true, decide_false, ev_nat]
    have hlt : (pre.map lookE).length < 16777216 := by rw [List.length_map]; omega
    have step : lkRow [.val (clkD hands looks (m : Int)), s1, .own o2, .val (.int (s : Int)), .own (.lst (pre.map lookE)), .val (.str (sgn p.1)), .val (dR p.2), s7, s8] S =
        some (.nx [.val (clkD hands looks (m : Int)), s1, .own o2, .val (.int (s : Int)), .own (.lst ((pre ++ [(p.1, K.fr (p.2 + stp m s))]).map lookE)), .val (.str (sgn p.1)), .val (dR p.2), .val (.int (K.fr (p.2 + stp m s)).num), .val (.int ((K.fr (p.2 + stp m s)).den : Int))] S) := by
      unfold lkRow
      simp only [ev_C, ev_V, ev_B, ev_aN, ev_aC, ev_Tup, ev_Lst, ev_Bin, ev_Un, ev_UnF, ev_cV, ev_cAnd, ev_cOr, ev_cNot, ev_cYes, ev_And, ev_Or, ev_Not, ev_If, ev_Chain, ev_Call, ev_Ix, ev_Sl, ev_oN, ev_oE, ev_aS, ev_Comp, ev_iAny, ev_iRange1, ev_iRange2, ev_iZip, ev_iEnum, ev_sNil, ev_sSeq, ev_sIf, ev_sRet, ev_sRetO, ev_sRetN, ev_sAsg, ev_sSet, ev_sSetO, ev_sPar, ev_sFor, ev_sWhile, ev_sApp, ev_sIxO, ev_sIxC, ev_sFrz, ev_sExp, ev_sPass, ev_runB, ev_forN, ev_compN, ev_put0, ev_put1, ev_wipe0, ev_wipe1, ev_bnm, ev_btup, ev_bL0, ev_bL1, dv_add, dv_sub, dv_neg, dv_lt, dv_le, dv_gt, dv_ge, dv_int, dv_abs, dv_lenL, dv_lenT, dv_tupL, dv_tupT, dv_lofL, dv_lofT, dv_lofS, dv_seqL, dv_seqT, dv_ixL, dv_ixT, dv_ixO, atI_0, atI_1, atI_2, Option.bind_some, Option.bind_none, List.getElem?_cons_zero, List.getElem?_cons_succ, List.getElem?_nil, List.set_cons_zero, List.set_cons_succ, List.set_nil, List.length_cons, List.length_nil, List.map_cons, List.map_nil, List.replicate_succ, List.replicate_zero, List.cons_append, List.nil_append, Nat.reduceAdd, Nat.reduceSub, Nat.reduceLeDiff, Nat.zero_add, Nat.sub_zero, Nat.add_zero, if_true, if_false, Bool.false_eq_true, Nat.reduceEqDiff, Bool.not_true, Bool.not_false, decide_true, decide_false, ev_nat, z2, es, eb, if_pos hlt, List.map_append, lookE]
    rw [List.map_cons, ev_forC, ev_btup, ev_bL1, ev_bL1, ev_bL0, ev_bnm, ev_bnm]
    simp only [Option.bind_some, List.append_nil, List.cons_append, List.nil_append, ev_put1, ev_put0, List.set_cons_succ, List.set_cons_zero]
    rw [step, Option.bind_some]
    rw [List.append_assoc] at q
    exact q
theorem eqL_inj {α : Type} [DecidableEq α] {e : α → D} (h : ∀ x y, eqD (e x) (e y) = decide (x = y)) : ∀ (a b : List α), eqL (a.map e) (b.map e) = decide (a = b)
  | [], [] => by simp [eqL]
  | [], _ :: _ => by simp [eqL]
  | _ :: _, [] => by simp [eqL]
  | x :: a, y :: b => by
    simp only [List.map_cons, eqL, h, eqL_inj h a b]
    by_cases q : x = y
    · subst q; simp
    · simp [q]
theorem eqD_lookE (p q : Nat × Rat) : eqD (lookE p) (lookE q) = decide (p = q) := by
  obtain ⟨a, x⟩ := p
  obtain ⟨b, y⟩ := q
  have h := eqD_dR x y
  unfold dR at h
  unfold lookE
  simp only [eqD, eqL] at h ⊢
  by_cases e : a = b
  · subst e
    have : (sgn a == sgn a) = true := by simp
    rw [this, Bool.true_and, h]
    simp
  · have : (sgn a == sgn b) = false := beq_eq_false_iff_ne.mpr fun z => e (sgn_inj.mp z)
    rw [this, Bool.false_and]
    simp [e]
theorem eqD_rowE (a b : List (Nat × Rat)) : eqD (rowE a) (rowE b) = decide (a = b) := by
  unfold rowE
  simp only [eqD]
  exact eqL_inj eqD_lookE a b
theorem okD_rows {L : List Nat} {xs : List Rat} {m : Nat} (hL : okS L) : okD 60 (.lst ((looksR L xs m).map rowE)) = true := by
  rw [show (60 : Nat) = 59 + 1 from rfl]
  simp only [okD]
  refine okL_of fun d hd => ?_
  obtain ⟨l, hl, rfl⟩ := List.mem_map.mp hd
  have hl2 := (sortBy_perm rowE _).mem_iff.mp hl
  obtain ⟨s, _, rfl⟩ := List.mem_map.mp hl2
  unfold rowE
  rw [show (59 : Nat) = 58 + 1 from rfl]
  simp only [okD]
  refine okL_of fun d hd => ?_
  obtain ⟨p, hp, rfl⟩ := List.mem_map.mp hd
  exact okD_lookE (rws_ok hL p ((sortBy_perm lookE _).mem_iff.mp hp)) 57
theorem dv_eqRows {L L' : List Nat} {xs ys : List Rat} {m k : Nat} (hL : okS L) (hL' : okS L') : dEq (.lst ((looksR L xs m).map rowE)) (.lst ((looksR L' ys k).map rowE)) = some (.bl (decide (looksR L xs m = looksR L' ys k))) := by
  unfold dEq
  rw [okD_rows hL, okD_rows hL']
  simp only [Bool.and_self, if_true, eqD]
  rw [eqL_inj eqD_rowE]
theorem small_hand {h : Int} (b : h.natAbs ≤ 1000000) : small h = true := small_of (by omega)
theorem P_plc {hands : List Int} {n : Nat} {t : Rat} (ht : P n t) : ∀ x ∈ plc hands t, P n x := fun x hx => by
  obtain ⟨h, _, rfl⟩ := List.mem_map.mp hx
  exact ht.mul h
def tv (h : Int) (x : Rat) (w : Nat) : Rat := K.fr ((x + (w : Rat)) / (h : Rat))
theorem tv_eq {h : Int} (hz : h ≠ 0) (x : Rat) (w : Nat) : (((if 0 < h then 1 else -1) * (x.num + (w : Int) * (x.den : Int)) : Int) : Rat) / (((h.natAbs : Int) * (x.den : Int) : Int) : Rat) = (x + (w : Rat)) / (h : Rat) := by
  have d1 := ne_of_pos_rat (int_pos_rat (den_pos x))
  have hr : (h : Rat) ≠ 0 := by
    intro z
    have : h = 0 := by exact_mod_cast z
    exact hz this
  have e := num_div_den x
  rw [Rat.intCast_natCast] at d1
  have u := Rat.mul_inv_cancel _ d1
  have v := Rat.mul_inv_cancel _ hr
  rw [Rat.div_def] at e
  by_cases hp : 0 < h
  · have : (h.natAbs : Int) = h := by omega
    rw [if_pos hp, this, Int.one_mul, Rat.intCast_add, Rat.intCast_mul, Rat.intCast_mul, Rat.intCast_natCast, Rat.intCast_natCast, Rat.div_def, Rat.div_def, Rat.inv_mul_rev]
    grind
  · have : (h.natAbs : Int) = -h := by omega
    have e2 : ((-h : Int) : Rat)⁻¹ = -(h : Rat)⁻¹ := by
      rw [Rat.intCast_neg]
      have w1 : (-(h : Rat)) * (-(h : Rat)⁻¹) = 1 := by grind
      have w2 : (-(h : Rat)) ≠ 0 := by grind
      have w3 := Rat.mul_inv_cancel _ w2
      grind
    rw [if_neg hp, this, Int.neg_one_mul, Rat.intCast_neg, Rat.intCast_add, Rat.intCast_mul, Rat.intCast_mul, Rat.intCast_natCast, Rat.intCast_natCast, Rat.div_def, Rat.div_def, Rat.inv_mul_rev, e2]
    grind
theorem m_law_part_tv {n hb : Nat} {h : Int} (hz : h ≠ 0) (hh : h.natAbs < 2 ^ hb) {x : Rat} (hx : P n x) (hn : n + hb ≤ 8000) (w : Nat) (S : List D) : m_law_part [.int ((if 0 < h then 1 else -1) * (x.num + (w : Int) * (x.den : Int))), .int ((h.natAbs : Int) * (x.den : Int))] S = some (dR (tv h x w), S) ∧ P (n + hb) (tv h x w) := by
  have hbp : (0 : Int) < (h.natAbs : Int) * (x.den : Int) := Int.mul_pos (by omega) (den_pos x)
  have hlt : ((h.natAbs : Int) * (x.den : Int)).natAbs < 2 ^ (n + hb) := by
    rw [Int.natAbs_mul, Int.natAbs_natCast, Int.natAbs_natCast, Nat.pow_add, Nat.mul_comm]
    exact Nat.mul_lt_mul'' hx.den hh
  have e := m_law_part_eq ((if 0 < h then 1 else -1) * (x.num + (w : Int) * (x.den : Int))) ((h.natAbs : Int) * (x.den : Int)) S hbp (wide_pow hn hlt)
  have p := P_fr (t := (if 0 < h then 1 else -1) * (x.num + (w : Int) * (x.den : Int))) hbp hlt
  rw [tv_eq hz] at e p
  exact ⟨e, p⟩
section
variable {hands : List Int} {looks : PySem.Str} {m n hb : Nat} (c : Clk hands looks m) (hbd : ∀ h ∈ hands, h.natAbs < 2 ^ hb) (hb7 : hb ≤ 7) (hn : n ≤ 200) (pl : D) (xs : List Rat) (hpl : seqOf pl = some (xs.map dR)) (hx : ∀ x ∈ xs, P n x) (S : List D)
def hitT (hands : List Int) (L : List Nat) (m : Nat) (xs : List Rat) (u : Rat) : Bool := decide (looksR L (plc hands u) m = looksR L xs m)
def outW (hands : List Int) (L : List Nat) (m : Nat) (xs : List Rat) (h : Int) (x : Rat) : List Rat := ((List.range h.natAbs).map (tv h x)).filter (hitT hands L m xs)
def outS (hands : List Int) (L : List Nat) (m : Nat) (xs : List Rat) (h : Int) (x0 : Rat) : List Rat := (List.range m).flatMap fun s => outW hands L m xs h (K.fr (x0 + stp m s))
def outH (hands : List Int) (L : List Nat) (m : Nat) (xs : List Rat) (c0 : Nat) (x0 : Rat) (p : Nat × Int) : List Rat := if p.1 = c0 then outS hands L m xs p.2 x0 else []
include c hbd hb7 hn
theorem outW_len (h : Int) (x : Rat) : (outW hands (cds looks) m xs h x).length ≤ h.natAbs := by
  unfold outW
  have := List.length_filter_le (hitT hands (cds looks) m xs) ((List.range h.natAbs).map (tv h x))
  rw [List.length_map, List.length_range] at this
  exact this
theorem outS_len (h : Int) (hh : h ∈ hands) (x0 : Rat) : (outS hands (cds looks) m xs h x0).length ≤ 6 * 2 ^ hb := by
  unfold outS
  rw [List.length_flatMap]
  have : ∀ l : List Nat, (l.map fun s => (outW hands (cds looks) m xs h (K.fr (x0 + stp m s))).length).sum ≤ l.length * 2 ^ hb := by
    intro l
    induction l with
    | nil => simp
    | cons x l ih =>
      rw [List.map_cons, List.sum_cons, List.length_cons, Nat.add_mul, Nat.one_mul]
      have h1 := outW_len c hbd hb7 hn xs h (K.fr (x0 + stp m x))
      have h2 := hbd h hh
      omega
  have := this (List.range m)
  rw [List.length_range] at this
  exact Nat.le_trans this (Nat.mul_le_mul_right _ c.m6)
end
theorem zip_LH : ∀ (L : List Nat) (hands : List Int), zipD (L.map fun c => D.str (sgn c)) (hands.map .int) = (L.zip hands).map fun p => .tup [.str (sgn p.1), .int p.2]
  | [], _ => by simp [zipD]
  | _ :: _, [] => by simp [zipD]
  | c :: L, h :: hands => by
    simp only [List.map_cons, zipD, List.zip_cons_cons]
    rw [zip_LH L hands]
theorem gcdF_is (l : List Int) : gcdF l = gcdL l := rfl
theorem hit_iff {hands : List Int} {looks : PySem.Str} {m : Nat} (c : Clk hands looks m) {xs : List Rat} (hxl : xs.length = hands.length) (u : Rat) : hitT hands (cds looks) m xs u = true ↔ Shows hands (cds looks) (cds looks) m xs u := by
  unfold hitT
  rw [decide_eq_true_eq, looksR_iff c.m0 c.m6 rfl xs hands u, shows_perm c.lk.symm (by rw [c.lk, hxl]) rfl]
theorem clk_cov {hands : List Int} {looks : PySem.Str} {m : Nat} (c : Clk hands looks m) {xs : List Rat} (hxl : xs.length = hands.length) : ∃ cov : List Rat, cov.length ≤ 36 ∧ ∀ u, 0 ≤ u → u < 1 → Shows hands (cds looks) (cds looks) m xs u → u ∈ cov := by
  obtain ⟨cov, h1, h2⟩ := shows_cov (L0 := cds looks) (L := cds looks) (m := m) (seen := xs) (exs (cds looks) (cds looks)) (fun e he => (mem_exs _ _ _ rfl e).mpr he) c.gcd c.lk.symm (by rw [c.lk, hxl]) rfl
  refine ⟨cov, ?_, h2⟩
  have := Nat.mul_le_mul c.ex c.m6
  omega
theorem P_of {N : Nat} {u v : Rat} (h : P N u) (e : u = v) : P N v := e ▸ h
theorem aS_l {f : Ev} {fs : Ea} {ρ : List Slot} {S S' S2 xs ds : List D} (h : f ρ S = some (.lst xs, S')) (h2 : fs ρ S' = some (ds, S2)) : aS f fs ρ S = some (xs ++ ds, S2) := by
  rw [ev_aS, h, Option.bind_some]
  show (some xs).bind _ = _
  rw [Option.bind_some, h2, Option.bind_some]
theorem P_part {n : Nat} {x : Rat} (px : P n x) {m s : Nat} (hs : s < m) (m6 : m ≤ 6) : P (n + 3) (K.fr (x + stp m s)) := by
  have h := px.add (stp_P m s hs m6)
  have e : K.fr (x + K.fr (stp m s)) = K.fr (x + stp m s) := fr_eq_iff.mpr ((Eqv.refl x).add (fr_eqv _))
  rw [e] at h
  exact h
theorem P_hand {n hb : Nat} {h : Int} (hz : h ≠ 0) (hh : h.natAbs < 2 ^ hb) {x u : Rat} (px : P n x) (u0 : 0 ≤ u) (u1 : u < 1) (q : has h x u) : P (n + hb) u := by
  obtain ⟨w, _, e⟩ := hand_times hz u0 u1 q
  have hbp : (0 : Int) < (h.natAbs : Int) * (x.den : Int) := Int.mul_pos (by omega) (den_pos x)
  have hlt : ((h.natAbs : Int) * (x.den : Int)).natAbs < 2 ^ (n + hb) := by
    rw [Int.natAbs_mul, Int.natAbs_natCast, Int.natAbs_natCast, Nat.pow_add, Nat.mul_comm]
    exact Nat.mul_lt_mul'' px.den hh
  have d1 := ne_of_pos_rat (int_pos_rat (den_pos x))
  have hr : (h : Rat) ≠ 0 := by
    intro z
    have : h = 0 := by exact_mod_cast z
    exact hz this
  obtain ⟨g, hg⟩ : ∃ g : Int, (h : Rat) = (g : Rat) * ((h.natAbs : Int) : Rat) ∧ (g = 1 ∨ g = -1) := by
    rcases Int.natAbs_eq h with e | e
    · exact ⟨1, by rw [← e]; show (h : Rat) = (1 : Rat) * (h : Rat); grind, .inl rfl⟩
    · refine ⟨-1, ?_, .inr rfl⟩
      have : (h.natAbs : Int) = -h := by omega
      rw [this, Rat.intCast_neg, Rat.intCast_neg]
      show (h : Rat) = (-(1 : Rat)) * (-(h : Rat))
      grind
  have p := P_fr (t := g * (x.num + (w : Int) * (x.den : Int))) hbp hlt
  have ev : ((g * (x.num + (w : Int) * (x.den : Int)) : Int) : Rat) / (((h.natAbs : Int) * (x.den : Int) : Int) : Rat) = (x + (w : Rat)) / (h : Rat) := by
    have e := num_div_den x
    rw [Rat.intCast_natCast] at d1
    have u := Rat.mul_inv_cancel _ d1
    have ha : ((h.natAbs : Int) : Rat) ≠ 0 := by
      intro z
      have : (h.natAbs : Int) = 0 := by exact_mod_cast z
      omega
    have v := Rat.mul_inv_cancel _ ha
    have vh := Rat.mul_inv_cancel _ hr
    rw [Rat.div_def] at e
    have gi : (h : Rat)⁻¹ = (g : Rat) * ((h.natAbs : Int) : Rat)⁻¹ := by
      have g2 : (g : Rat) * (g : Rat) = 1 := by
        rcases hg.2 with r | r
        · rw [r]; decide +kernel
        · rw [r]; decide +kernel
      have h1 := hg.1
      generalize ((h.natAbs : Int) : Rat) = y at *
      generalize (h : Rat) = z at *
      grind
    rw [Rat.intCast_mul, Rat.intCast_add, Rat.intCast_mul, Rat.intCast_mul, Rat.intCast_natCast x.den, Rat.intCast_natCast w, Rat.div_def, Rat.div_def, Rat.inv_mul_rev, gi]
    grind
  rw [ev, ← e] at p
  exact p
def toPair (p : Rat × Nat) : D := .tup [dR p.1, .int (p.2 : Int)]
theorem zipD_seen : ∀ (xs : List Rat) (e : List Nat), zipD (xs.map dR) (e.map fun (k : Nat) => D.int (k : Int)) = (xs.zip e).map toPair
  | [], _ => by simp [zipD]
  | _ :: _, [] => by simp [zipD]
  | x :: xs, k :: e => by
    simp only [List.map_cons, zipD, List.zip_cons_cons]
    rw [zipD_seen xs e]
    rfl
def toMeet : Sv := (sSet 8 (eCall 2 m_meet (aC (eV 8) (aC (eCall 2 m_row_of (aC (eIx (eB 2) (eB 10)) (aC (eCall 2 m_together (aC (eV 9) (aC (eCall 2 m_part (aC (eV 7) (aC (eV 4) aN))) aN))) aN))) aN))))
section
variable {hands : List Int} {looks : PySem.Str} {m n : Nat} (c : Clk hands looks m) (hn : n ≤ 190) (pl : D) (xs : List Rat) (hpl : seqOf pl = some (xs.map dR)) (hx : ∀ x ∈ xs, P n x) (hxl : xs.length = hands.length) (S : List D)
def gcdZ (hands : List Int) (ps : List (Rat × Nat)) : Nat := gcdL (ps.map fun p => hands.getD p.2 0)
def phiZ (hands : List Int) (c : Rat) (ps : List (Rat × Nat)) (u : Rat) : Prop := ∀ p ∈ ps, has (hands.getD p.2 0) (p.1 + c) u
include c hn
theorem to_meet (s : Nat) (hs : s < m) (e : D) (F : D) : ∀ (ps pre : List (Rat × Nat)) (o : Option (Nat × Rat)) (s9 s10 : Slot), (∀ p ∈ ps, P n p.1 ∧ p.2 < hands.length) → pre.length + ps.length ≤ 4 → Says o 20 (1 + pre.length * (n + 3)) (phiZ hands (stp m s) pre) → (∀ r, o = some r → r.1 = gcdZ hands pre) →
    ∃ o' s9' s10', forL (.tup [(.nm 9), (.nm 10)]) toMeet (ps.map toPair) [.val (clkD hands looks (m : Int)), .val pl, .val (.tup (hands.map .int)), .val (.str looks), .val (.int (m : Int)), .val F, .val e, .val (.int (s : Int)), .val (roD o), s9, s10] S =
      some (.nx [.val (clkD hands looks (m : Int)), .val pl, .val (.tup (hands.map .int)), .val (.str looks), .val (.int (m : Int)), .val F, .val e, .val (.int (s : Int)), .val (roD o'), s9', s10'] S) ∧ Says o' 20 (1 + (pre ++ ps).length * (n + 3)) (phiZ hands (stp m s) (pre ++ ps)) ∧ ∀ r, o' = some r → r.1 = gcdZ hands (pre ++ ps)
  | [], pre, o, s9, s10, _, _, h, g => ⟨o, s9, s10, rfl, by rw [List.append_nil]; exact h, by rw [List.append_nil]; exact g⟩
  | p :: ps, pre, o, s9, s10, hp, hl, h, g => by
    rw [List.length_cons] at hl
    obtain ⟨p1, p2⟩ := hp p List.mem_cons_self
    have et := m_togetherP p1 (stp_P m s hs c.m6) (by omega) S
    have ep := m_part_stp m s hs c.m6 S
    have efr : K.fr (p.1 + K.fr (stp m s)) = K.fr (p.1 + stp m s) := fr_eq_iff.mpr ((Eqv.refl p.1).add (fr_eqv _))
    rw [efr] at et
    have px := P_part p1 hs c.m6
    have hh : hands.getD p.2 0 = hands[p.2] := by rw [List.getD_eq_getElem?_getD, List.getElem?_eq_getElem p2, Option.getD_some]
    have hm := List.getElem_mem p2
    have hb : (hands.getD p.2 0).natAbs < 2 ^ 20 := by rw [hh]; have := c.bd _ hm; have e : (2 : Nat) ^ 20 = 1048576 := rfl; omega
    have hz : hands.getD p.2 0 ≠ 0 := by rw [hh]; exact c.nz _ hm
    obtain ⟨o1, e1, s1, z1⟩ := m_row_of_ex hb px (by omega) S
    have hmul : pre.length * (n + 3) ≤ 4 * 193 := Nat.mul_le_mul (by omega) (by omega)
    obtain ⟨o2, e2, s2, z2⟩ := m_meet_ex h s1 (by omega) (by decide) (by decide) S
    have hs3 : Says o2 20 (1 + (pre ++ [p]).length * (n + 3)) (phiZ hands (stp m s) (pre ++ [p])) := by
      have := (s2.mono (b' := 20) (c' := 1 + (pre ++ [p]).length * (n + 3)) (by decide) (by rw [List.length_append, Nat.add_mul]; show _ ≤ 1 + (pre.length * (n + 3) + 1 * (n + 3)); omega))
      refine this.congr fun t => ?_
      rw [has_fr]
      unfold phiZ
      constructor
      · rintro ⟨a, b⟩ y hy
        rcases List.mem_append.mp hy with hy | hy
        · exact a y hy
        · have : y = p := by simpa using hy
          rw [this]; exact b
      · intro a
        exact ⟨fun y hy => a y (List.mem_append_left _ hy), a p (List.mem_append_right _ List.mem_cons_self)⟩
    have hg3 : ∀ r, o2 = some r → r.1 = gcdZ hands (pre ++ [p]) := fun r hr => by
      obtain ⟨r1, r2, q1, q2, q3⟩ := z2 r hr
      obtain ⟨qq, q4⟩ := z1 hz
      rw [q4] at q2
      cases q2
      rw [q3, g r1 q1]
      unfold gcdZ
      rw [List.map_append, List.map_cons, List.map_nil, gcdL_snoc]
    obtain ⟨o', s9', s10', e3, h3, g3⟩ := to_meet s hs e F ps (pre ++ [p]) o2 (.val (dR p.1)) (.val (.int (p.2 : Int))) (fun y hy => hp y (List.mem_cons_of_mem _ hy)) (by rw [List.length_append]; show pre.length + 1 + ps.length ≤ 4; omega) hs3 hg3
    refine ⟨o', s9', s10', ?_, by rw [List.append_assoc] at h3; exact h3, by rw [List.append_assoc] at g3; exact g3⟩
    have eg : atI (hands.map D.int) ((p.2 : Nat) : Int) = some (.int (hands.getD p.2 0)) := by
      rw [atI_nat, List.getElem?_map, hh, List.getElem?_eq_getElem p2]
      rfl
    have step : toMeet [.val (clkD hands looks (m : Int)), .val pl, .val (.tup (hands.map .int)), .val (.str looks), .val (.int (m : Int)), .val F, .val e, .val (.int (s : Int)), .val (roD o), .val (dR p.1), .val (.int (p.2 : Int))] S =
        some (.nx [.val (clkD hands looks (m : Int)), .val pl, .val (.tup (hands.map .int)), .val (.str looks), .val (.int (m : Int)), .val F, .val e, .val (.int (s : Int)), .val (roD o2), .val (dR p.1), .val (.int (p.2 : Int))] S) := by
      unfold toMeet
      simp only [ev_C, ev_V, ev_B, ev_aN, ev_aC, ev_Tup, ev_Lst, ev_Bin, ev_Un, ev_UnF, ev_cV, ev_cAnd, ev_cOr, ev_cNot, ev_cYes, ev_And, ev_Or, ev_Not, ev_If, ev_Chain, ev_Call, ev_Ix, ev_Sl, ev_oN, ev_oE, ev_aS, ev_Comp, ev_iAny, ev_iRange1, ev_iRange2, ev_iZip, ev_iEnum, ev_sNil, ev_sSeq, ev_sIf, ev_sRet, ev_sRetO, ev_sRetN, ev_sAsg, ev_sSet, ev_sSetO, ev_sPar, ev_sFor, ev_sWhile, ev_sApp, ev_sIxO, ev_sIxC, ev_sFrz, ev_sExp, ev_sPass, ev_runB, ev_forN, ev_compN, ev_put0, ev_put1, ev_wipe0, ev_wipe1, ev_bnm, ev_btup, ev_bL0, ev_bL1, dv_add, dv_sub, dv_neg, dv_lt, dv_le, dv_gt, dv_ge, dv_int, dv_abs, dv_lenL, dv_lenT, dv_tupL, dv_tupT, dv_lofL, dv_lofT, dv_lofS, dv_seqL, dv_seqT, dv_ixL, dv_ixT, dv_ixO, atI_0, atI_1, atI_2, Option.bind_some, Option.bind_none, List.getElem?_cons_zero, List.getElem?_cons_succ, List.getElem?_nil, List.set_cons_zero, List.set_cons_succ, List.set_nil, List.length_cons, List.length_nil, List.map_cons, List.map_nil, List.replicate_succ, List.replicate_zero, List.cons_append, List.nil_append, Nat.reduceAdd, Nat.reduceSub, Nat.reduceLeDiff, Nat.zero_add, Nat.sub_zero, Nat.add_zero, if_true, if_false, Bool.false_eq_true, Nat.reduceEqDiff, Bool.not_true, Bool.not_false, decide_true, decide_false, ev_nat, eg, ep, et, e1, e2]
    rw [List.map_cons, ev_forC]
    have eb : binds (.tup [(.nm 9), (.nm 10)]) (toPair p) = some [(9, dR p.1), (10, .int (p.2 : Int))] := by unfold toPair; simp only [ev_C, ev_V, ev_B, ev_aN, ev_aC, ev_Tup, ev_Lst, ev_Bin, ev_Un, ev_UnF, ev_cV, ev_cAnd, ev_cOr, ev_cNot, ev_cYes, ev_And, ev_Or, ev_Not, ev_If, ev_Chain, ev_Call, ev_Ix, ev_Sl, ev_oN, ev_oE, ev_aS, ev_Comp, ev_iAny, ev_iRange1, ev_iRange2, ev_iZip, ev_iEnum, ev_sNil, ev_sSeq, ev_sIf, ev_sRet, ev_sRetO, ev_sRetN, ev_sAsg, ev_sSet, ev_sSetO, ev_sPar, ev_sFor, ev_sWhile, ev_sApp, ev_sIxO, ev_sIxC, ev_sFrz, ev_sExp, ev_sPass, ev_runB, ev_forN, ev_compN, ev_put0, ev_put1, ev_wipe0, ev_wipe1, ev_bnm, ev_btup, ev_bL0, ev_bL1, dv_add, dv_sub, dv_neg, dv_lt, dv_le, dv_gt, dv_ge, dv_int, dv_abs, dv_lenL, dv_lenT, dv_tupL, dv_tupT, dv_lofL, dv_lofT, dv_lofS, dv_seqL, dv_seqT, dv_ixL, dv_ixT, dv_ixO, atI_0, atI_1, atI_2, Option.bind_some, Option.bind_none, List.getElem?_cons_zero, List.getElem?_cons_succ, List.getElem?_nil, List.set_cons_zero, List.set_cons_succ, List.set_nil, List.length_cons, List.length_nil, List.map_cons, List.map_nil, List.replicate_succ, List.replicate_zero, List.cons_append, List.nil_append, Nat.reduceAdd, Nat.reduceSub, Nat.reduceLeDiff, Nat.zero_add, Nat.sub_zero, Nat.add_zero, if_true, if_false, Bool.false_eq_true, Nat.reduceEqDiff, Bool.not_true, Bool.not_false, decide_true, decide_false, ev_nat]
    rw [eb, Option.bind_some, ev_put1, ev_put1, ev_put0]
    simp only [List.set_cons_succ, List.set_cons_zero]
    rw [step, Option.bind_some]
    exact e3
include hpl hx hxl
def foundBy (hands : List Int) (xs : List Rat) (m : Nat) (ex : List (List Nat)) (e0 : List Nat) (k : Nat) (u : Rat) : Prop := (0 ≤ u ∧ u < 1) ∧ ((∃ e ∈ ex, ∃ s, s < m ∧ SeenBy hands e xs (stp m s) u) ∨ ∃ s, s < k ∧ SeenBy hands e0 xs (stp m s) u)
end
theorem look_iff {hands : List Int} {looks : PySem.Str} {m : Nat} (c : Clk hands looks m) (t u : Rat) : Look hands looks m t u ↔ looksR (cds looks) (plc hands u) m = looksR (cds looks) (plc hands t) m := by
  unfold Look
  rw [← hit_iff c (by unfold plc; rw [List.length_map]) u]
  unfold hitT
  exact decide_eq_true_iff
theorem look_refl {hands : List Int} {looks : PySem.Str} {m : Nat} (c : Clk hands looks m) (t : Rat) : Look hands looks m t t := (look_iff c t t).mpr rfl
theorem look_symm {hands : List Int} {looks : PySem.Str} {m : Nat} (c : Clk hands looks m) {t u : Rat} (h : Look hands looks m t u) : Look hands looks m u t := (look_iff c u t).mpr ((look_iff c t u).mp h).symm
theorem look_trans {hands : List Int} {looks : PySem.Str} {m : Nat} (c : Clk hands looks m) {t u v : Rat} (h : Look hands looks m t u) (h' : Look hands looks m u v) : Look hands looks m t v := (look_iff c t v).mpr (((look_iff c u v).mp h').trans ((look_iff c t u).mp h))
theorem GoodTime.P {q : Rat} (h : GoodTime q) : P 20 q := ⟨h.lo, h.hi, by have := h.den; have e : (2 : Nat) ^ 20 = 1048576 := rfl; omega⟩
theorem plc_cons {hands : List Int} (h : hands ≠ []) (t : Rat) : ∃ x0 xs, plc hands t = x0 :: xs := by
  cases hands with
  | nil => exact absurd rfl h
  | cons a b => exact ⟨_, _, rfl⟩
theorem Clk.ne {hands : List Int} {looks : PySem.Str} {m : Nat} (c : Clk hands looks m) : hands ≠ [] := by
  intro z
  have := c.len2
  rw [z] at this
  simp at this
theorem len_plc (hands : List Int) (t : Rat) : (plc hands t).length = hands.length := by unfold plc; rw [List.length_map]
theorem shows_look {hands : List Int} {looks : PySem.Str} {m : Nat} (c : Clk hands looks m) {xs : List Rat} (hxl : xs.length = hands.length) {t : Rat} (ht : Shows hands (cds looks) (cds looks) m xs t) (u : Rat) : Shows hands (cds looks) (cds looks) m xs u ↔ Look hands looks m t u := by
  rw [← hit_iff c hxl u]
  have h := (hit_iff c hxl t).mpr ht
  unfold hitT at h ⊢
  have h := of_decide_eq_true h
  rw [decide_eq_true_iff, look_iff c, h]
def mir (t : Rat) : Rat := K.fr (-t)
theorem neg_frac (x : Rat) : ((-x.num : Int) : Rat) / ((x.den : Int) : Rat) = -x := by
  rw [Rat.intCast_neg, Rat.intCast_natCast]
  have := num_div_den x
  rw [Rat.div_def] at this ⊢
  grind
theorem P.mir {n : Nat} {t : Rat} (h : P n t) : P n (mir t) := by
  have := P_fr (t := -t.num) (den_pos t) (by rw [Int.natAbs_natCast]; exact h.den)
  rw [neg_frac] at this
  exact this
theorem mir_mir {t : Rat} (h0 : 0 ≤ t) (h1 : t < 1) : mir (mir t) = t := by
  unfold mir
  have a : Eqv (-K.fr (-t)) (- -t) := (fr_eqv (-t)).neg
  have b := (fr_eqv (-K.fr (-t))).trans a
  exact eqv_eq (b.trans (Eqv.of_eq (by grind))) (fr_nonneg _) (fr_lt _) h0 h1
theorem plc_mir (hands : List Int) (t : Rat) : plc hands (mir t) = (plc hands t).map mir := by
  unfold plc
  rw [List.map_map]
  refine List.map_congr_left fun h _ => ?_
  show K.fr (mir t * (h : Rat)) = mir (K.fr (t * (h : Rat)))
  unfold mir
  refine fr_eq_iff.mpr ?_
  have a := (fr_eqv (-t)).mul h
  have b := (fr_eqv (t * (h : Rat))).neg
  exact a.trans ((Eqv.of_eq (by grind)).trans b.symm)
theorem stp_neg {m s : Nat} (h : s < m) : Eqv (-stp m s) (stp m ((m - s) % m)) := by
  have m0 : 0 < m := by omega
  have mz : (m : Rat) ≠ 0 := by
    intro z
    have : m = 0 := by exact_mod_cast z
    omega
  have v := Rat.mul_inv_cancel _ mz
  unfold stp
  by_cases z : s = 0
  · subst z
    rw [Nat.sub_zero, Nat.mod_self]
    refine Eqv.of_eq ?_
    rw [Rat.div_def]
    have : ((0 : Nat) : Rat) = 0 := rfl
    rw [this]; grind
  · rw [Nat.mod_eq_of_lt (by omega)]
    refine ⟨-1, ?_⟩
    have e : ((m - s : Nat) : Rat) = (m : Rat) - (s : Rat) := by
      have : ((m - s + s : Nat) : Rat) = (m : Rat) := by rw [Nat.sub_add_cancel (Nat.le_of_lt h)]
      rw [Rat.natCast_add] at this
      grind
    rw [e, Rat.div_def, Rat.div_def]
    have e2 : ((-1 : Int) : Rat) = -1 := rfl
    rw [e2]
    grind
theorem look_mir {hands : List Int} {looks : PySem.Str} {m : Nat} {t u : Rat} (h : Look hands looks m t u) : Look hands looks m (mir t) (mir u) := by
  obtain ⟨e, he, s, hs, q⟩ := h
  refine ⟨e, he, (m - s) % m, Nat.mod_lt _ (by omega), fun p hp => ?_⟩
  rw [plc_mir, List.zip_map_left] at hp
  obtain ⟨p0, hp0, rfl⟩ := List.mem_map.mp hp
  have w := q p0 hp0
  show has (hands.getD p0.2 0) (mir p0.1 + stp m ((m - s) % m)) (mir u)
  unfold has at w ⊢
  unfold mir
  have a := (fr_eqv (-u)).mul (hands.getD p0.2 0)
  have b := w.neg
  have d := (fr_eqv (-p0.1)).add (stp_neg hs).symm
  exact a.trans ((Eqv.of_eq (by grind)).trans (b.trans ((Eqv.of_eq (by grind)).trans d.symm)))
end K
namespace K
open DL
open L2 (atI ixN)
theorem eqD_row (r r' : Nat × Rat) : eqD (rowD r) (rowD r') = decide (r = r') := by
  have e : eqD (rowD r) (rowD r') = ((r.1 : Int) == (r'.1 : Int) && (eqD (dR r.2) (dR r'.2) && true)) := rfl
  rw [e, eqD_dR, Bool.and_true]
  by_cases h : r = r'
  · subst h; simp
  · have : ¬(r.1 = r'.1 ∧ r.2 = r'.2) := fun z => h (Prod.ext z.1 z.2)
    rw [decide_eq_false h]
    by_cases h1 : r.1 = r'.1
    · have h2 : r.2 ≠ r'.2 := fun z => this ⟨h1, z⟩
      rw [decide_eq_false h2, Bool.and_false]
    · have : ((r.1 : Int) == (r'.1 : Int)) = false := by
        rw [beq_eq_false_iff_ne]
        intro z
        exact h1 (by exact_mod_cast z)
      rw [this, Bool.false_and]
theorem okD_row (r : Nat × Rat) (n : Nat) : okD (n + 2) (rowD r) = true := by
  unfold rowD dR
  simp [okD, okL]
theorem okD_ro (o : Option (Nat × Rat)) (n : Nat) : okD (n + 2) (roD o) = true := by
  cases o with
  | none => rfl
  | some r => exact okD_row r n
theorem dv_neRo (o : Option (Nat × Rat)) (r : Nat × Rat) : dNe (roD o) (rowD r) = some (.bl (!decide (o = some r))) := by
  unfold dNe
  rw [show (60 : Nat) = 58 + 2 from rfl, okD_ro, okD_row]
  simp only [Bool.and_self, if_true]
  cases o with
  | none =>
    have : eqD (roD none) (rowD r) = false := rfl
    rw [this, decide_eq_false (by simp)]
  | some q =>
    have : eqD (roD (some q)) (rowD r) = eqD (rowD q) (rowD r) := rfl
    rw [this, eqD_row]
    have : decide (some q = some r) = decide (q = r) := decide_eq_decide.mpr (by simp)
    rw [this]
def famK (x : Nat × Rat) (o : Option (Nat × Rat)) : D := .tup [rowD x, roD o]
theorem famK_ok (x : Nat × Rat) (o : Option (Nat × Rat)) : (isTupD (famK x o) && kyD 7 (famK x o)) = true := by
  cases o with
  | none => simp [famK, isTupD, kyD, kyL, rowD, roD, dR]
  | some r => simp [famK, isTupD, kyD, kyL, rowD, roD, dR]
theorem okD_famK (x : Nat × Rat) (o : Option (Nat × Rat)) (n : Nat) : okD (n + 3) (famK x o) = true := by
  show (okD (n + 2) (rowD x) && (okD (n + 2) (roD o) && true)) = true
  rw [okD_row, okD_ro]
  rfl
theorem m_kept_ex (x : Match) (g : GM x) (S : List D) : ∃ o, m_kept [matD x] S = some (roD o, S) ∧ Says o 185 16 (fun t => hasR x.1 t ∧ has (1 + x.2.1) x.2.2 t) := by
  obtain ⟨o1, e1, h1, _⟩ := m_row_of_ex (b := 185) (c := 3) (h := 1 + x.2.1) (p := x.2.2) (by
    have := g.d
    have e : (2 : Nat) ^ 185 = 2 ^ 184 + 2 ^ 184 := by rw [Nat.pow_succ, Nat.mul_two]
    have h1 : (1 : Nat) ≤ 2 ^ 184 := Nat.one_le_two_pow
    have : (1 + x.2.1).natAbs ≤ 1 + x.2.1.natAbs := Int.natAbs_add_le 1 _
    omega) g.c (by decide) S
  have hr : Says (some x.1) 184 13 (hasR x.1) := ⟨fun r q => by cases q; exact ⟨g.r, fun t => Iff.rfl⟩, fun q => nomatch q⟩
  obtain ⟨o, e2, h2, _⟩ := m_meet_ex hr h1 (by decide) (by decide) (by decide) S
  refine ⟨o, ?_, h2.mono (by decide) (by decide)⟩
  unfold m_kept g_kept
  have e2 : m_meet [rowD x.1, roD o1] S = some (roD o, S) := e2
  have z0 : ixD S (matD x) (.int 0) = some (rowD x.1) := rfl
  have z1 : ixD S (matD x) (.int 1) = some (.int x.2.1) := rfl
  have z2 : ixD S (matD x) (.int 2) = some (dR x.2.2) := rfl
  simp only [ev_C, ev_V, ev_B, ev_aN, ev_aC, ev_Tup, ev_Lst, ev_Bin, ev_Un, ev_UnF, ev_cV, ev_cAnd, ev_cOr, ev_cNot, ev_cYes, ev_And, ev_Or, ev_Not, ev_If, ev_Chain, ev_Call, ev_Ix, ev_Sl, ev_oN, ev_oE, ev_aS, ev_Comp, ev_iAny, ev_iRange1, ev_iRange2, ev_iZip, ev_iEnum, ev_sNil, ev_sSeq, ev_sIf, ev_sRet, ev_sRetO, ev_sRetN, ev_sAsg, ev_sSet, ev_sSetO, ev_sPar, ev_sFor, ev_sWhile, ev_sApp, ev_sIxO, ev_sIxC, ev_sFrz, ev_sExp, ev_sPass, ev_runB, ev_forN, ev_compN, ev_put0, ev_put1, ev_wipe0, ev_wipe1, ev_bnm, ev_btup, ev_bL0, ev_bL1, dv_add, dv_sub, dv_neg, dv_lt, dv_le, dv_gt, dv_ge, dv_int, dv_abs, dv_lenL, dv_lenT, dv_tupL, dv_tupT, dv_lofL, dv_lofT, dv_lofS, dv_seqL, dv_seqT, dv_ixL, dv_ixT, dv_ixO, atI_0, atI_1, atI_2, Option.bind_some, Option.bind_none, List.getElem?_cons_zero, List.getElem?_cons_succ, List.getElem?_nil, List.set_cons_zero, List.set_cons_succ, List.set_nil, List.length_cons, List.length_nil, List.map_cons, List.map_nil, List.replicate_succ, List.replicate_zero, List.cons_append, List.nil_append, Nat.reduceAdd, Nat.reduceSub, Nat.reduceLeDiff, Nat.zero_add, Nat.sub_zero, Nat.add_zero, if_true, if_false, Bool.false_eq_true, Nat.reduceEqDiff, Bool.not_true, Bool.not_false, decide_true, decide_false, ev_nat, z0, z1, z2, e1, e2]
def famS (kf : Match → Option (Nat × Rat)) (acc : List (D × D)) (x : Match) : List (D × D) := if kf x = some x.1 then acc else stD acc (famK x.1 (kf x)) (.bl true)
theorem stD_len (kvs : List (D × D)) (k v : D) : (stD kvs k v).length ≤ kvs.length + 1 := by
  unfold stD
  split
  · rw [List.length_map]; omega
  · rw [List.length_append]; exact Nat.le_refl _
theorem stD_ne (kvs : List (D × D)) (k v : D) : stD kvs k v ≠ [] := by
  unfold stD
  split
  · rename_i h
    intro z
    have : kvs = [] := List.map_eq_nil_iff.mp z
    subst this
    cases h
  · simp
theorem stD_key {kvs : List (D × D)} {k v : D} {Q : D → Prop} (h : ∀ p ∈ kvs, Q p.1) (hk : Q k) : ∀ p ∈ stD kvs k v, Q p.1 := by
  unfold stD
  split
  · intro p hp
    obtain ⟨q, hq, rfl⟩ := List.mem_map.mp hp
    have := h q hq
    split <;> exact this
  · intro p hp
    rcases List.mem_append.mp hp with hp | hp
    · exact h p hp
    · rw [List.mem_singleton.mp hp]; exact hk
def famIn : Sv := (sSeq (sSet 3 (eCall 1 m_kept (aC (eV 2) aN))) (sIf (cV (eBin dNe (eB 3) (eIx (eB 2) (eC (.int 0))))) (sDPut 1 (eC (.bl true)) (eTup (aC (eIx (eB 2) (eC (.int 0))) (aC (eV 3) aN)))) sNil))
theorem fam_loop (kf : Match → Option (Nat × Rat)) (s0 : Slot) (S : List D) : ∀ (ms : List Match) (acc : List (D × D)) (s2 s3 : Slot), (∀ x ∈ ms, m_kept [matD x] S = some (roD (kf x), S)) → acc.length + ms.length ≤ 10000 → (∀ p ∈ acc, ∃ r o, p.1 = famK r o) →
    ∃ (acc' : List (D × D)) (s2' s3' : Slot), forL (.nm 2) famIn (ms.map matD) [s0, .own (.dct acc), s2, s3] S = some (.nx [s0, .own (.dct acc'), s2', s3'] S) ∧ acc'.length ≤ 10000 ∧ (∀ p ∈ acc', ∃ r o, p.1 = famK r o) ∧ (acc' = [] ↔ acc = [] ∧ ∀ x ∈ ms, kf x = some x.1)
  | [], acc, s2, s3, _, hl, hk => ⟨acc, s2, s3, rfl, hl, hk, by simp⟩
  | x :: ms, acc, s2, s3, h, hl, hk => by
    rw [List.length_cons] at hl
    have ek := h x List.mem_cons_self
    have al := stD_len acc (famK x.1 (kf x)) (.bl true)
    have hk2 : ∀ p ∈ famS kf acc x, ∃ r o, p.1 = famK r o := by
      unfold famS
      split
      · exact hk
      · exact stD_key (Q := fun d => ∃ r o, d = famK r o) hk ⟨_, _, rfl⟩
    obtain ⟨acc', s2', s3', e, h1, h2, h3⟩ := fam_loop kf s0 S ms (famS kf acc x) (.val (matD x)) (.val (roD (kf x))) (fun y hy => h y (List.mem_cons_of_mem _ hy)) (by unfold famS; split <;> omega) hk2
    refine ⟨acc', s2', s3', ?_, h1, h2, ?_⟩
    · have z0 : ixD S (matD x) (.int 0) = some (rowD x.1) := rfl
      have tst : cV (eBin dNe (eB 3) (eIx (eB 2) (eC (.int 0)))) [s0, .own (.dct acc), .val (matD x), .val (roD (kf x))] S = some (!decide (kf x = some x.1), S) :=
        cV_s (bin_s (d := roD (kf x)) (S' := S) (d2 := rowD x.1) (S2 := S) rfl (ix_s (d := matD x) (S' := S) (d2 := .int 0) (S2 := S) rfl rfl z0) (dv_neRo _ _))
      have step : famIn [s0, .own (.dct acc), .val (matD x), s3] S = some (.nx [s0, .own (.dct (famS kf acc x)), .val (matD x), .val (roD (kf x))] S) := by
        unfold famIn
        refine (seq_nx (set_s (d := roD (kf x)) (S' := S) (call_s (ds := [matD x]) (S' := S) rfl rfl ek))).trans ?_
        simp only [List.set_cons_succ, List.set_cons_zero]
        unfold famS
        by_cases c : kf x = some x.1
        · rw [decide_eq_true c] at tst
          rw [if_pos c]
          exact (if_f tst).trans rfl
        · rw [decide_eq_false c] at tst
          rw [if_neg c]
          refine (if_t tst).trans ?_
          have et : eTup (aC (eIx (eB 2) (eC (.int 0))) (aC (eV 3) aN)) [s0, .own (.dct acc), .val (matD x), .val (roD (kf x))] S = some (famK x.1 (kf x), S) :=
            tup_s (ds := [rowD x.1, roD (kf x)]) (aC_s (S' := S) (ix_s (d := matD x) (S' := S) (d2 := .int 0) (S2 := S) rfl rfl z0) rfl) (by show 2 ≤ 16777216; decide)
          unfold sDPut
          have ec : (eC (.bl true) : Ev) [s0, .own (.dct acc), .val (matD x), .val (roD (kf x))] S = some (.bl true, S) := rfl
          rw [ec, Option.bind_some, et, Option.bind_some]
          have hc : (isTupD (famK x.1 (kf x)) && kyD 7 (famK x.1 (kf x)) && decide (acc.length < 16777216)) = true := by
            rw [famK_ok, decide_eq_true (by omega)]
            rfl
          show (if (isTupD (famK x.1 (kf x)) && kyD 7 (famK x.1 (kf x)) && decide (acc.length < 16777216)) = true then _ else none) = _
          rw [if_pos hc]
          rfl
      rw [List.map_cons, ev_forC, ev_bnm, Option.bind_some, ev_put1, ev_put0]
      simp only [List.set_cons_succ, List.set_cons_zero]
      rw [step, Option.bind_some]
      exact e
    · rw [h3]
      have : famS kf acc x = [] ↔ acc = [] ∧ kf x = some x.1 := by
        unfold famS
        by_cases c : kf x = some x.1
        · rw [if_pos c]; exact ⟨fun z => ⟨z, c⟩, fun z => z.1⟩
        · rw [if_neg c]; exact ⟨fun z => absurd z (stD_ne _ _ _), fun z => absurd z.2 c⟩
      rw [this]
      simp only [List.mem_cons, forall_eq_or_imp]
      exact and_assoc
structure ClkW (hands : List Int) (looks : PySem.Str) (m : Nat) : Prop where
  len4 : hands.length ≤ 4
  bd : ∀ h ∈ hands, h.natAbs ≤ 1000000
  gcd : gcdL hands = 1
  lk : (cds looks).length = hands.length
  ok : okS (cds looks)
  m0 : 0 < m
  m6 : m ≤ 6
  ex : (exs (cds looks) (cds looks)).length ≤ 300
theorem Clk.w {hands : List Int} {looks : PySem.Str} {m : Nat} (c : Clk hands looks m) : ClkW hands looks m := ⟨c.len4, c.bd, c.gcd, c.lk, c.ok, c.m0, c.m6, Nat.le_trans c.ex (by decide)⟩
theorem m_families_ex {hands : List Int} {looks : PySem.Str} {m : Nat} (c : ClkW hands looks m) (S : List D) : ∃ (ms : List Match) (kf : Match → Option (Nat × Rat)) (kvs : List (D × D)),
    MS hands hands (cds looks) (cds looks) m ms ∧ (∀ x ∈ ms, Says (kf x) 185 16 (fun t => hasR x.1 t ∧ has (1 + x.2.1) x.2.2 t)) ∧ m_families [clkD hands looks (m : Int)] S = some (.lst (kvs.map (·.1)), S) ∧
    kvs.length ≤ 10000 ∧ (∀ p ∈ kvs, ∃ r o, p.1 = famK r o) ∧ (kvs = [] ↔ ∀ x ∈ ms, kf x = some x.1) := by
  obtain ⟨ms, e1, hms, hl⟩ := m_matches_ex hands hands looks looks m m c.bd c.bd c.len4 rfl c.gcd c.m0 c.m6 c.lk c.lk c.ok c.ok S
  obtain ⟨kf, hkf⟩ := Classical.axiomOfChoice (r := fun (x : Match) (o : Option (Nat × Rat)) => x ∈ ms → m_kept [matD x] S = some (roD o, S) ∧ Says o 185 16 (fun t => hasR x.1 t ∧ has (1 + x.2.1) x.2.2 t)) (fun x => by
    by_cases h : x ∈ ms
    · obtain ⟨o, q⟩ := m_kept_ex x (hms.good x h) S
      exact ⟨o, fun _ => q⟩
    · exact ⟨none, fun z => absurd z h⟩)
  have ml : ms.length ≤ 1800 := Nat.le_trans hl (Nat.mul_le_mul c.ex c.m6)
  obtain ⟨kvs, s2, s3, e2, h1, h2, h3⟩ := fam_loop kf (.val (clkD hands looks (m : Int))) S ms [] .non .non (fun x hx => (hkf x hx).1) (by show 0 + _ ≤ _; omega) (fun _ h => nomatch h)
  refine ⟨ms, kf, kvs, hms, fun x hx => (hkf x hx).2, ?_, h1, h2, by rw [h3]; exact ⟨fun z => z.2, fun z => ⟨rfl, z⟩⟩⟩
  unfold m_families
  show runB _ 4 (sSeq (sSetO 1 eDct0) (sSeq (sFor (.nm 2) (iAny (eCall 2 m_matches (aC (eV 0) (aC (eV 0) aN)))) famIn) (sRet (eUnF lOfK (eB 1))))) _ S = _
  refine run_rt (ρ := [.val (clkD hands looks (m : Int)), .non, .non, .non]) rfl ?_
  refine (seq_nx (setO_s (d := .dct []) (S' := S) rfl (by show 1 < 4; decide))).trans ?_
  simp only [List.set_cons_succ, List.set_cons_zero]
  refine (seq_nx (for_s (ds := ms.map matD) (S' := S) ?_ e2)).trans ?_
  · simp only [ev_C, ev_V, ev_B, ev_aN, ev_aC, ev_Tup, ev_Lst, ev_Bin, ev_Un, ev_UnF, ev_cV, ev_cAnd, ev_cOr, ev_cNot, ev_cYes, ev_And, ev_Or, ev_Not, ev_If, ev_Chain, ev_Call, ev_Ix, ev_Sl, ev_oN, ev_oE, ev_aS, ev_Comp, ev_iAny, ev_iRange1, ev_iRange2, ev_iZip, ev_iEnum, ev_sNil, ev_sSeq, ev_sIf, ev_sRet, ev_sRetO, ev_sRetN, ev_sAsg, ev_sSet, ev_sSetO, ev_sPar, ev_sFor, ev_sWhile, ev_sApp, ev_sIxO, ev_sIxC, ev_sFrz, ev_sExp, ev_sPass, ev_runB, ev_forN, ev_compN, ev_put0, ev_put1, ev_wipe0, ev_wipe1, ev_bnm, ev_btup, ev_bL0, ev_bL1, dv_add, dv_sub, dv_neg, dv_lt, dv_le, dv_gt, dv_ge, dv_int, dv_abs, dv_lenL, dv_lenT, dv_tupL, dv_tupT, dv_lofL, dv_lofT, dv_lofS, dv_seqL, dv_seqT, dv_ixL, dv_ixT, dv_ixO, atI_0, atI_1, atI_2, Option.bind_some, Option.bind_none, List.getElem?_cons_zero, List.getElem?_cons_succ, List.getElem?_nil, List.set_cons_zero, List.set_cons_succ, List.set_nil, List.length_cons, List.length_nil, List.map_cons, List.map_nil, List.replicate_succ, List.replicate_zero, List.cons_append, List.nil_append, Nat.reduceAdd, Nat.reduceSub, Nat.reduceLeDiff, Nat.zero_add, Nat.sub_zero, Nat.add_zero, if_true, if_false, Bool.false_eq_true, Nat.reduceEqDiff, Bool.not_true, Bool.not_false, decide_true, decide_false, ev_nat, e1]
  · exact ret_s (unF_s (d := .dct kvs) (S' := S) rfl rfl)
theorem m_is_clear_ex {hands : List Int} {looks : PySem.Str} {m : Nat} (c : ClkW hands looks m) (S : List D) : ∃ (ms : List Match) (kf : Match → Option (Nat × Rat)) (b : Bool),
    MS hands hands (cds looks) (cds looks) m ms ∧ (∀ x ∈ ms, Says (kf x) 185 16 (fun t => hasR x.1 t ∧ has (1 + x.2.1) x.2.2 t)) ∧ m_is_clear [clkD hands looks (m : Int)] S = some (.bl b, S) ∧ (b = true ↔ ∀ x ∈ ms, kf x = some x.1) := by
  obtain ⟨ms, kf, kvs, hms, hs, e1, _, h2, h3⟩ := m_families_ex c S
  refine ⟨ms, kf, decide (kvs = []), hms, hs, ?_, by rw [decide_eq_true_iff]; exact h3⟩
  unfold m_is_clear g_is_clear
  refine run_rt (ρ := [.val (clkD hands looks (m : Int))]) rfl (ret_s ?_)
  refine bin_s (d := .lst (kvs.map (·.1))) (S' := S) (d2 := .lst []) (S2 := S) (call_s (ds := [clkD hands looks (m : Int)]) (S' := S) rfl rfl e1) rfl ?_
  unfold dEq
  have ok1 : okD 60 (.lst (kvs.map (·.1))) = true := by
    rw [show (60 : Nat) = 59 + 1 from rfl]
    simp only [okD]
    refine okL_of fun d hd => ?_
    obtain ⟨p, hp, rfl⟩ := List.mem_map.mp hd
    obtain ⟨r, o, e⟩ := h2 p hp
    rw [e, show (59 : Nat) = 56 + 3 from rfl]
    exact okD_famK r o 56
  have ok2 : okD 60 (.lst []) = true := rfl
  rw [ok1, ok2]
  simp only [Bool.and_self, if_true]
  cases kvs with
  | nil => rfl
  | cons p kvs => rfl
theorem all_row {b c : Nat} {r : Nat × Rat} (g : GR b c r) (h : ∀ t, hasR r t) : r = (0, 0) := by
  obtain ⟨n, p⟩ := r
  have z : n = 0 := by
    apply Classical.byContradiction
    intro nz
    have hn : ((n : Int) : Rat) ≠ 0 := by
      intro e
      have : (n : Int) = 0 := by exact_mod_cast e
      omega
    have a : Eqv (0 * ((n : Int) : Rat)) p := h 0
    have b : Eqv ((1 / (2 * ((n : Int) : Rat))) * ((n : Int) : Rat)) p := h (1 / (2 * ((n : Int) : Rat)))
    have d := b.trans a.symm
    have e1 : (1 / (2 * ((n : Int) : Rat))) * ((n : Int) : Rat) = 1 / 2 := by
      have v := Rat.mul_inv_cancel _ hn
      rw [Rat.div_def, Rat.inv_mul_rev]
      grind
    have e2 : (0 : Rat) * ((n : Int) : Rat) = 0 := by grind
    rw [e1, e2] at d
    have := eqv_eq d (by decide +kernel) (by decide +kernel) (by decide +kernel) (by decide +kernel)
    exact absurd this (by decide +kernel)
  subst z
  have := g.z rfl
  have : p = 0 := this
  rw [this]
theorem ex_one {c0 : Nat} {e : List Nat} : IsEx [c0] [c0] e ↔ e = [0] := by
  constructor
  · intro h
    have hl := isEx_len h
    have hk := isEx_lt h
    match e, hl, hk with
    | [k], _, hk =>
      have := hk k List.mem_cons_self
      have : k = 0 := by simpa using this
      rw [this]
  · rintro rfl
    exact ⟨by simp, rfl⟩
theorem seen_one {h : Int} {c t u : Rat} : SeenBy [h] [0] (plc [h] t) c u ↔ Eqv (u * (h : Rat)) (t * (h : Rat) + c) := by
  have e : (plc [h] t).zip [0] = [(K.fr (t * (h : Rat)), 0)] := rfl
  unfold SeenBy
  rw [e]
  have q : has (([h] : List Int).getD 0 0) (K.fr (t * (h : Rat)) + c) u ↔ Eqv (u * (h : Rat)) (t * (h : Rat) + c) := by
    show Eqv (u * (h : Rat)) (K.fr (t * (h : Rat)) + c) ↔ _
    have a : Eqv (K.fr (t * (h : Rat)) + c) (t * (h : Rat) + c) := (fr_eqv _).add (Eqv.refl c)
    exact ⟨fun w => w.trans a, fun w => w.trans a.symm⟩
  constructor
  · intro w
    exact q.mp (w _ List.mem_cons_self)
  · intro w p hp
    rw [List.mem_singleton.mp hp]
    exact q.mpr w
theorem stp_one_not {m : Nat} (h : 1 < m) : ¬Eqv 0 (stp m 1) := by
  rintro ⟨k, e⟩
  have mz : (m : Rat) ≠ 0 := by
    intro z
    have : m = 0 := by exact_mod_cast z
    omega
  have v := Rat.mul_inv_cancel _ mz
  have o : ((1 : Nat) : Rat) = 1 := rfl
  unfold stp at e
  rw [Rat.div_def, o] at e
  have e2 : ((k * (m : Int) + 1 : Int) : Rat) = 0 := by
    rw [Rat.intCast_add, Rat.intCast_mul, Rat.intCast_natCast]
    have o2 : ((1 : Int) : Rat) = 1 := rfl
    rw [o2]
    grind
  have e3 : k * (m : Int) + 1 = 0 := by exact_mod_cast e2
  have d : (m : Int) ∣ 1 := ⟨-k, by rw [Int.mul_neg, Int.mul_comm]; omega⟩
  have := Int.le_of_dvd (by decide) d
  omega
theorem one_clear {h : Int} (hh : h = 1 ∨ h = -1) {looks : PySem.Str} {m : Nat} (c : ClkW [h] looks m) (S : List D) : m_is_clear [clkD [h] looks (m : Int)] S = some (.bl (decide (m = 1)), S) := by
  obtain ⟨ms, kf, b, hms, hs, e, hb⟩ := m_is_clear_ex c S
  obtain ⟨c0, hc0⟩ : ∃ c0, cds looks = [c0] := by
    have := c.lk
    match hq : cds looks, this with
    | [x], _ => exact ⟨x, rfl⟩
  rw [hc0] at hms
  have hsq : (h : Rat) * (h : Rat) = 1 := by
    rcases hh with rfl | rfl
    · decide +kernel
    · decide +kernel
  have inv : ∀ {a b : Rat}, Eqv (a * (h : Rat)) (b * (h : Rat)) → Eqv a b := fun {a b} w => by
    have := w.mul h
    exact (Eqv.of_eq (by grind)).trans (this.trans (Eqv.of_eq (by grind)))
  have key : ∀ x ∈ ms, ∃ s, s < m ∧ ∀ t u, msat x t u ↔ Eqv (u * (h : Rat)) (t * (h : Rat) + stp m s) := fun x hx => by
    obtain ⟨ex, s, he, hs, q⟩ := hms.of x hx
    rw [ex_one.mp he] at q
    exact ⟨s, hs, fun t u => (q t u).trans (eqs_seen.trans seen_one)⟩
  have kp : ∀ x : Match, ∀ t, (hasR x.1 t ∧ has (1 + x.2.1) x.2.2 t) ↔ msat x t t := fun x t => by
    unfold msat has
    refine and_congr Iff.rfl ?_
    have ec : (((1 + x.2.1 : Int)) : Rat) = 1 + (x.2.1 : Rat) := by rw [Rat.intCast_add]; rfl
    rw [ec]
    constructor
    · rintro ⟨n, w⟩
      exact ⟨n, by grind⟩
    · rintro ⟨n, w⟩
      exact ⟨n, by grind⟩
  have : b = decide (m = 1) := by
    by_cases m1 : m = 1
    · rw [decide_eq_true m1]
      refine hb.mpr fun x hx => ?_
      obtain ⟨s, hs1, q⟩ := key x hx
      have s0 : s = 0 := by omega
      subst s0
      have sz : stp m 0 = 0 := by
        unfold stp
        rw [Rat.div_def]
        have : ((0 : Nat) : Rat) = 0 := rfl
        rw [this]; grind
      have all : ∀ t, msat x t t := fun t => (q t t).mpr (Eqv.of_eq (by rw [sz]; grind))
      have rx : x.1 = (0, 0) := all_row (hms.good x hx).r fun t => (all t).1
      have sy := hs x hx
      cases ho : kf x with
      | none => exact absurd ((kp x 0).mpr (all 0)) (sy.no ho 0)
      | some r =>
        obtain ⟨g, w⟩ := sy.yes r ho
        rw [all_row g fun t => (w t).mpr ((kp x t).mpr (all t)), rx]
    · rw [decide_eq_false m1]
      have mm : 1 < m := by have := c.m0; omega
      rw [Bool.eq_false_iff]
      intro z
      have hall := hb.mp z
      have tu : Eqv ((stp m 1 * (h : Rat)) * (h : Rat)) (0 * (h : Rat) + stp m 1) := Eqv.of_eq (by grind)
      rcases hms.all [0] 1 (ex_one.mpr rfl) mm with ⟨x, hx, q⟩ | q
      · have q : ∀ t u, msat x t u ↔ Eqv (u * (h : Rat)) (t * (h : Rat) + stp m 1) := fun t u => (q t u).trans (eqs_seen.trans seen_one)
        have r0 := ((q 0 _).mpr tu).1
        obtain ⟨_, w⟩ := (hs x hx).yes _ (hall x hx)
        have k0 := (kp x 0).mp ((w 0).mp r0)
        have bad := (q 0 0).mp k0
        exact stp_one_not mm ((Eqv.of_eq (by grind)).trans (bad.trans (Eqv.of_eq (by grind))))
      · exact q 0 _ (eqs_seen.mpr (seen_one.mpr tu))
  rw [← this]
  exact e
abbrev Row := Nat × Rat
open Classical in
noncomputable def oneIf (p : Prop) : Int := if p then 1 else 0
theorem oneIf_t {p : Prop} (h : p) : oneIf p = 1 := by unfold oneIf; rw [if_pos h]
theorem oneIf_f {p : Prop} (h : ¬ p) : oneIf p = 0 := by unfold oneIf; rw [if_neg h]
theorem oneIf_congr {p q : Prop} (h : p ↔ q) : oneIf p = oneIf q := by rw [propext h]
theorem oneIf_and (p q : Prop) : oneIf (p ∧ q) = oneIf p * oneIf q := by
  by_cases hp : p
  · by_cases hq : q
    · rw [oneIf_t ⟨hp, hq⟩, oneIf_t hp, oneIf_t hq]; rfl
    · rw [oneIf_f (fun z => hq z.2), oneIf_f hq, Int.mul_zero]
  · rw [oneIf_f (fun z => hp z.1), oneIf_f hp, Int.zero_mul]
noncomputable def W (kvs : List (Row × Int)) (t : Rat) : Int := (kvs.map fun p => p.2 * oneIf (hasR p.1 t)).sum
def getR (kvs : List (Row × Int)) (r : Row) : Int := ((kvs.find? fun p => decide (p.1 = r)).map (·.2)).getD 0
def hasK (kvs : List (Row × Int)) (r : Row) : Bool := kvs.any fun p => decide (p.1 = r)
def putR (kvs : List (Row × Int)) (r : Row) (v : Int) : List (Row × Int) := if hasK kvs r = true then kvs.map (fun p => if p.1 = r then (p.1, v) else p) else kvs ++ [(r, v)]
theorem W_nil (t : Rat) : W [] t = 0 := rfl
theorem W_cons (p : Row × Int) (kvs : List (Row × Int)) (t : Rat) : W (p :: kvs) t = p.2 * oneIf (hasR p.1 t) + W kvs t := by
  unfold W
  rw [List.map_cons, List.sum_cons]
theorem W_app (a b : List (Row × Int)) (t : Rat) : W (a ++ b) t = W a t + W b t := by
  induction a with
  | nil => rw [List.nil_append, W_nil]; omega
  | cons p a ih => rw [List.cons_append, W_cons, W_cons, ih]; omega
theorem hasK_iff {kvs : List (Row × Int)} {r : Row} : hasK kvs r = true ↔ r ∈ kvs.map (·.1) := by
  unfold hasK
  rw [List.any_eq_true, List.mem_map]
  constructor
  · rintro ⟨p, hp, e⟩
    exact ⟨p, hp, of_decide_eq_true e⟩
  · rintro ⟨p, hp, e⟩
    exact ⟨p, hp, decide_eq_true e⟩
theorem repl_same {r : Row} {v : Int} : ∀ {kvs : List (Row × Int)}, r ∉ kvs.map (·.1) → kvs.map (fun p => if p.1 = r then (p.1, v) else p) = kvs
  | [], _ => rfl
  | p :: kvs, h => by
    rw [List.map_cons, List.mem_cons] at h
    rw [List.map_cons, repl_same (fun z => h (.inr z)), if_neg (fun z => h (.inl z.symm))]
theorem putR_W {r : Row} {v : Int} (t : Rat) : ∀ {kvs : List (Row × Int)}, (kvs.map (·.1)).Nodup → W (putR kvs r (getR kvs r + v)) t = W kvs t + v * oneIf (hasR r t)
  | [], _ => by
    have : putR [] r (getR [] r + v) = [(r, 0 + v)] := rfl
    rw [this, W_cons, W_nil, Int.zero_add]
    show v * oneIf (hasR r t) + 0 = 0 + v * oneIf (hasR r t)
    omega
  | p :: kvs, h => by
    rw [List.map_cons, List.nodup_cons] at h
    by_cases e : p.1 = r
    · have e1 : getR (p :: kvs) r = p.2 := by simp [getR, e]
      have e2 : hasK (p :: kvs) r = true := by simp [hasK, e]
      unfold putR
      rw [if_pos e2, e1, List.map_cons, if_pos e, repl_same (by rw [← e]; exact h.1), W_cons, W_cons]
      rw [e, Int.add_mul]
      omega
    · have e1 : getR (p :: kvs) r = getR kvs r := by simp [getR, e]
      have e2 : hasK (p :: kvs) r = hasK kvs r := by simp [hasK, e]
      have ih := putR_W (r := r) (v := v) t h.2
      have e3 : putR (p :: kvs) r (getR (p :: kvs) r + v) = p :: putR kvs r (getR kvs r + v) := by
        unfold putR
        rw [e1, e2]
        split
        · rw [List.map_cons, if_neg e]
        · rfl
      rw [e3, W_cons, W_cons, ih]
      omega
theorem putR_keys (kvs : List (Row × Int)) (r : Row) (v : Int) : (putR kvs r v).map (·.1) = if hasK kvs r = true then kvs.map (·.1) else kvs.map (·.1) ++ [r] := by
  unfold putR
  split
  · rw [List.map_map]
    refine List.map_congr_left fun p _ => ?_
    show (if p.1 = r then (p.1, v) else p).1 = p.1
    split <;> rfl
  · rw [List.map_append]; rfl
theorem putR_nodup {kvs : List (Row × Int)} {r : Row} {v : Int} (h : (kvs.map (·.1)).Nodup) : ((putR kvs r v).map (·.1)).Nodup := by
  rw [putR_keys]
  split
  · exact h
  · rename_i z
    rw [hasK_iff] at z
    rw [List.nodup_append]
    refine ⟨h, by simp, fun a ha b hb => ?_⟩
    rw [List.mem_singleton.mp hb]
    exact fun e => z (e ▸ ha)
theorem putR_mem {kvs : List (Row × Int)} {r : Row} {v : Int} {U : Row → Prop} (h : ∀ p ∈ kvs, U p.1) (hr : U r) : ∀ p ∈ putR kvs r v, U p.1 := fun p hp => by
  have q : p.1 ∈ (putR kvs r v).map (·.1) := List.mem_map_of_mem hp
  rw [putR_keys] at q
  split at q
  · obtain ⟨a, ha, e⟩ := List.mem_map.mp q
    rw [← e]; exact h a ha
  · rcases List.mem_append.mp q with q | q
    · obtain ⟨a, ha, e⟩ := List.mem_map.mp q
      rw [← e]; exact h a ha
    · rw [List.mem_singleton.mp q]; exact hr
theorem putR_keep {kvs : List (Row × Int)} {r : Row} {v : Int} {p : Row × Int} (h : p ∈ kvs) (n : p.1 ≠ r) : p ∈ putR kvs r v := by
  unfold putR
  split
  · exact List.mem_map.mpr ⟨p, h, if_neg n⟩
  · exact List.mem_append_left _ h
def rdD (kvs : List (Row × Int)) : List (D × D) := kvs.map fun p => (rowD p.1, .int p.2)
theorem keyD_row {r r' : Row} (h : keyD (rowD r) = keyD (rowD r')) : r = r' := by
  unfold rowD dR at h
  simp only [keyD, keyL] at h
  injection h with h
  injection h with h1 h
  injection h with h _
  injection h1 with h1
  injection h with h
  injection h with h2 h
  injection h with h _
  injection h2 with h2
  injection h with h3
  obtain ⟨n, q⟩ := r
  obtain ⟨n', q'⟩ := r'
  have a : n = n' := by exact_mod_cast h1
  have b : q = q' := Rat.ext h2 (by exact_mod_cast h3)
  rw [a, b]
theorem dec_row (r r' : Row) : decide (keyD (rowD r) = keyD (rowD r')) = decide (r = r') := decide_eq_decide.mpr ⟨keyD_row, fun e => by rw [e]⟩
theorem valD_rd (kvs : List (Row × Int)) (r : Row) : (valD (rdD kvs) (rowD r)).getD (.int 0) = .int (getR kvs r) := by
  induction kvs with
  | nil => rfl
  | cons p kvs ih =>
    unfold valD getR rdD at *
    rw [List.map_cons, List.find?_cons, List.find?_cons]
    simp only [dec_row]
    by_cases e : p.1 = r
    · simp only [decide_eq_true e]; rfl
    · simp only [decide_eq_false e]; exact ih
theorem hasD_rd (kvs : List (Row × Int)) (r : Row) : hasD (rdD kvs) (rowD r) = hasK kvs r := by
  induction kvs with
  | nil => rfl
  | cons p kvs ih =>
    unfold hasD hasK rdD at *
    rw [List.map_cons, List.any_cons, List.any_cons, ih]
    simp only [dec_row]
theorem stD_rd (kvs : List (Row × Int)) (r : Row) (v : Int) : stD (rdD kvs) (rowD r) (.int v) = rdD (putR kvs r v) := by
  unfold stD putR
  rw [hasD_rd]
  split
  · unfold rdD
    rw [List.map_map, List.map_map]
    refine List.map_congr_left fun p _ => ?_
    show (if keyD (rowD p.1) = keyD (rowD r) then (rowD p.1, D.int v) else (rowD p.1, .int p.2)) = (rowD (if p.1 = r then (p.1, v) else p).1, .int (if p.1 = r then (p.1, v) else p).2)
    by_cases e : p.1 = r
    · rw [if_pos e, if_pos (by rw [e])]
    · rw [if_neg e, if_neg (fun z => e (keyD_row z))]
  · unfold rdD
    rw [List.map_append]; rfl
theorem row_key (r : Row) : (isTupD (rowD r) && kyD 7 (rowD r)) = true := by simp [isTupD, kyD, kyL, rowD, dR]
theorem noTx_row (r : Row) : noTx (keyD (rowD r)) = true := by simp [keyD, keyL, rowD, dR, noTx, noTxs]
structure Univ (U : Row → Prop) (b c n : Nat) : Prop where
  hb : b ≤ 7999
  hc : c + c ≤ 8000
  hn : n ≤ 1000000
  gr : ∀ r, U r → GR b c r
  all : U (0, 0)
  mt : ∀ r1 r2 r, U r1 → U r2 → GR b (c + c) r → r.1 = Nat.gcd r1.1 r2.1 → (∀ t, hasR r t ↔ (hasR r1 t ∧ hasR r2 t)) → U r
  few : ∃ L : List Row, L.length ≤ n ∧ ∀ r, U r → r ∈ L
  hash : ∀ r1 r2, U r1 → U r2 → hashN (keyD (rowD r1)) = hashN (keyD (rowD r2)) → r1 = r2
structure SgI (U : Row → Prop) (kvs : List (Row × Int)) : Prop where
  nd : (kvs.map (·.1)).Nodup
  u : ∀ p ∈ kvs, U p.1
section
variable {U : Row → Prop} {b c n : Nat}
theorem SgI.len (V : Univ U b c n) {kvs : List (Row × Int)} (h : SgI U kvs) : kvs.length ≤ n := by
  obtain ⟨L, hl, hL⟩ := V.few
  have := nodup_sub_len h.nd (b := L) fun x hx => by
    obtain ⟨p, hp, e⟩ := List.mem_map.mp hx
    rw [← e]; exact hL _ (h.u p hp)
  rw [List.length_map] at this
  omega
theorem SgI.apart (V : Univ U b c n) {kvs : List (Row × Int)} (h : SgI U kvs) : dCopy (.dct (rdD kvs)) = some (.dct (rdD kvs)) := by
  have a : apartD (rdD kvs) = true := by
    unfold apartD
    rw [Bool.and_eq_true]
    constructor
    · rw [List.all_eq_true]
      intro p hp
      obtain ⟨q, _, rfl⟩ := List.mem_map.mp hp
      exact noTx_row q.1
    · refine decide_eq_true ?_
      have e : (rdD kvs).map (fun p => hashN (keyD p.1)) = (kvs.map (·.1)).map fun r => hashN (keyD (rowD r)) := by
        unfold rdD
        rw [List.map_map, List.map_map]; rfl
      rw [e]
      refine nodup_map_on (fun x hx y hy => ?_) h.nd
      obtain ⟨p, hp, rfl⟩ := List.mem_map.mp hx
      obtain ⟨q, hq, rfl⟩ := List.mem_map.mp hy
      exact V.hash _ _ (h.u p hp) (h.u q hq)
  show (if apartD (rdD kvs) = true then some (D.dct (rdD kvs)) else none) = _
  rw [if_pos a]
def sgIn : Sv := (sSeq (sSet 9 (eCall 2 m_meet (aC (eV 5) (aC (eV 7) aN)))) (sIf (cV (eBin dNotN (eB 9) (eC .non))) (sDPut 4 (eBin dAdd (eDGet (eB 4) (eV 9) (eC (.int 0))) (eBin dMul (eB 8) (eB 6))) (eV 9)) sNil))
theorem says_row {r : Row} (g : GR b c r) : Says (some r) b c (fun t => ∃ q, some r = some q ∧ hasR q t) := ⟨fun q e => (by cases e; exact ⟨g, fun t => ⟨fun h => ⟨r, rfl, h⟩, fun ⟨q, e, h⟩ => (by cases e; exact h)⟩⟩), fun e => nomatch e⟩
theorem says_opt {o : Option Row} (g : ∀ r, o = some r → GR b c r) : Says o b c (fun t => ∃ q, o = some q ∧ hasR q t) := by
  cases o with
  | none => exact ⟨fun q e => (nomatch e), fun _ t ⟨q, e, _⟩ => (nomatch e)⟩
  | some r => exact says_row (g r rfl)
theorem sg_in (V : Univ U b c n) (own : Row) (hown : U own) (v : Int) (o : Option Row) (ho : ∀ r, o = some r → U r) (sg : Int) (hs : sg = 1 ∨ sg = -1) (more : List (Row × Int)) (M : SgI U more) (s0 s1 s2 s3 s9 : Slot) (S : List D) :
    ∃ more' s9', sgIn [s0, s1, s2, s3, .own (.dct (rdD more)), .val (rowD own), .val (.int v), .val (roD o), .val (.int sg), s9] S = some (.nx [s0, s1, s2, s3, .own (.dct (rdD more')), .val (rowD own), .val (.int v), .val (roD o), .val (.int sg), s9'] S) ∧ SgI U more' ∧
      (∀ t, W more' t = W more t + sg * v * oneIf (hasR own t ∧ ∃ q, o = some q ∧ hasR q t)) ∧ ((∀ r, o = some r → r.1 ≠ 0) → ((0, 0), 1) ∈ more → ((0, 0), 1) ∈ more') := by
  obtain ⟨both, e1, sy, hg⟩ := m_meet_ex (says_row (V.gr own hown)) (says_opt fun r e => V.gr r (ho r e)) V.hc V.hb V.hb S
  rw [Nat.max_self] at sy
  have e1 : m_meet [rowD own, roD o] S = some (roD both, S) := e1
  have ec : ∀ q : Prop, q ∧ (∃ q, o = some q ∧ hasR q 0) ↔ q ∧ (∃ q, o = some q ∧ hasR q 0) := fun _ => Iff.rfl
  have st := set_s (i := 9) (d := roD both) (S' := S) (ρ := [s0, s1, s2, s3, .own (.dct (rdD more)), .val (rowD own), .val (.int v), .val (roD o), .val (.int sg), s9]) (S := S) (f := eCall 2 m_meet (aC (eV 5) (aC (eV 7) aN))) (call_s (ds := [rowD own, roD o]) (S' := S) rfl rfl e1)
  simp only [List.set_cons_succ, List.set_cons_zero] at st
  cases hb : both with
  | none =>
    rw [hb] at st
    refine ⟨more, .val .non, ?_, M, fun t => ?_, fun _ h => h⟩
    · unfold sgIn
      refine (seq_nx st).trans ?_
      exact (if_f (cV_s (k := false) (S' := S) rfl)).trans rfl
    · rw [oneIf_f, Int.mul_zero, Int.add_zero]
      rintro ⟨a, bq⟩
      exact sy.no hb t ⟨⟨own, rfl, a⟩, bq⟩
  | some r =>
    rw [hb, show roD (some r) = rowD r from rfl] at st
    obtain ⟨g, w⟩ := sy.yes r hb
    obtain ⟨r1, r2, h1, h2, hgr⟩ := hg r hb
    cases h1
    have w' : ∀ t, hasR r t ↔ hasR own t ∧ ∃ q, o = some q ∧ hasR q t := fun t => (w t).trans (and_congr ⟨fun ⟨q, e, h⟩ => by cases e; exact h, fun h => ⟨own, rfl, h⟩⟩ Iff.rfl)
    have ur : U r := V.mt own r2 r hown (ho _ h2) g hgr fun t => (w' t).trans (and_congr Iff.rfl ⟨fun ⟨q, e, h⟩ => by rw [h2] at e; cases e; exact h, fun h => ⟨r2, h2, h⟩⟩)
    refine ⟨putR more r (getR more r + sg * v), .val (rowD r), ?_, ⟨putR_nodup M.nd, putR_mem M.u ur⟩, fun t => ?_, fun hz h => putR_keep h ?_⟩
    · unfold sgIn
      refine (seq_nx st).trans ?_
      refine (if_t (cV_s (k := true) (S' := S) rfl)).trans ?_
      have hl : (rdD more).length < 16777216 := by
        have := M.len V
        have := V.hn
        unfold rdD
        rw [List.length_map]; omega
      have eg : eDGet (eB 4) (eV 9) (eC (.int 0)) [s0, s1, s2, s3, .own (.dct (rdD more)), .val (rowD own), .val (.int v), .val (roD o), .val (.int sg), .val (rowD r)] S = some (.int (getR more r), S) := by
        show (if (isTupD (rowD r) && kyD 7 (rowD r)) = true then some ((valD (rdD more) (rowD r)).getD (.int 0), S) else none) = _
        rw [if_pos (row_key r), valD_rd]
      have em : dMul (.int sg) (.int v) = some (.int (sg * v)) := by
        refine dv_mul _ _ ?_
        have : small sg = true := by rcases hs with rfl | rfl <;> decide
        rw [this]; rfl
      have ev : eBin dAdd (eDGet (eB 4) (eV 9) (eC (.int 0))) (eBin dMul (eB 8) (eB 6)) [s0, s1, s2, s3, .own (.dct (rdD more)), .val (rowD own), .val (.int v), .val (roD o), .val (.int sg), .val (rowD r)] S = some (.int (getR more r + sg * v), S) :=
        bin_s eg (bin_s (d := .int sg) (S' := S) (d2 := .int v) (S2 := S) rfl rfl em) rfl
      unfold sDPut
      rw [ev, Option.bind_some]
      show (if (isTupD (rowD r) && kyD 7 (rowD r) && decide ((rdD more).length < 16777216)) = true then some (Out.nx [s0, s1, s2, s3, .own (.dct (stD (rdD more) (rowD r) (.int (getR more r + sg * v)))), .val (rowD own), .val (.int v), .val (roD o), .val (.int sg), .val (rowD r)] S) else none) = _
      rw [if_pos (by rw [row_key, decide_eq_true hl]; rfl), stD_rd]
    · rw [putR_W t M.nd, oneIf_congr (w' t)]
    · intro z
      have h0 : r.1 = 0 := by rw [← z]
      rw [hgr] at h0
      exact hz r2 h2 (Nat.eq_zero_of_gcd_eq_zero_right h0)
end
section
variable {U : Row → Prop} {b c n : Nat}
def sgPair : Sv := (sFor (.tup [(.nm 7), (.nm 8)]) (iAny (eTup (aC (eTup (aC (eV 2) (aC (eUn dNeg (eC (.int 1))) aN))) (aC (eTup (aC (eV 3) (aC (eC (.int 1)) aN))) aN)))) sgIn)
noncomputable def dl (row : Row) (less : Option Row) (t : Rat) : Int := oneIf (∃ q, less = some q ∧ hasR q t) - oneIf (hasR row t)
theorem sg_pair (V : Univ U b c n) (row : Row) (hrow : U row) (less : Option Row) (hless : ∀ r, less = some r → U r) (own : Row) (hown : U own) (v : Int) (more : List (Row × Int)) (M : SgI U more) (s0 s1 s7 s8 s9 : Slot) (S : List D) :
    ∃ more' s7' s8' s9', sgPair [s0, s1, .val (rowD row), .val (roD less), .own (.dct (rdD more)), .val (rowD own), .val (.int v), s7, s8, s9] S = some (.nx [s0, s1, .val (rowD row), .val (roD less), .own (.dct (rdD more')), .val (rowD own), .val (.int v), s7', s8', s9'] S) ∧ SgI U more' ∧
      (∀ t, W more' t = W more t + v * oneIf (hasR own t) * dl row less t) ∧ (row.1 ≠ 0 → (∀ r, less = some r → r.1 ≠ 0) → ((0, 0), 1) ∈ more → ((0, 0), 1) ∈ more') := by
  obtain ⟨m1, s9a, e1, M1, w1, k1⟩ := sg_in V own hown v (some row) (fun r e => by cases e; exact hrow) (-1) (.inr rfl) more M s0 s1 (.val (rowD row)) (.val (roD less)) s9 S
  obtain ⟨m2, s9b, e2, M2, w2, k2⟩ := sg_in V own hown v less hless 1 (.inl rfl) m1 M1 s0 s1 (.val (rowD row)) (.val (roD less)) s9a S
  refine ⟨m2, .val (roD less), .val (.int 1), s9b, ?_, M2, fun t => ?_, fun h1 h2 h => k2 h2 (k1 (fun r e => by cases e; exact h1) h)⟩
  · unfold sgPair
    refine for_s (ds := [.tup [rowD row, .int (-1)], .tup [roD less, .int 1]]) (S' := S) rfl ?_
    rw [ev_forC, ev_btup, ev_bL1, ev_bnm, ev_bL1, ev_bnm, ev_bL0]
    simp only [Option.bind_some, List.cons_append, List.nil_append, ev_put1, ev_put0, List.set_cons_succ, List.set_cons_zero]
    have e1' : sgIn [s0, s1, .val (rowD row), .val (roD less), .own (.dct (rdD more)), .val (rowD own), .val (.int v), .val (rowD row), .val (.int (-1)), s9] S = _ := e1
    rw [e1', Option.bind_some]
    show forL _ _ [D.tup [roD less, .int 1]] _ _ = _
    rw [ev_forC, ev_btup, ev_bL1, ev_bnm, ev_bL1, ev_bnm, ev_bL0]
    simp only [Option.bind_some, List.cons_append, List.nil_append, ev_put1, ev_put0, List.set_cons_succ, List.set_cons_zero]
    rw [e2, Option.bind_some]
    rfl
  · rw [w2 t, w1 t, oneIf_and, oneIf_and]
    have : oneIf (∃ q, some row = some q ∧ hasR q t) = oneIf (hasR row t) := oneIf_congr ⟨fun ⟨q, e, h⟩ => (by cases e; exact h), fun h => ⟨row, rfl, h⟩⟩
    rw [this]
    unfold dl
    rw [Int.mul_sub, Int.one_mul, Int.neg_mul, Int.one_mul, Int.neg_mul, ← Int.mul_assoc, ← Int.mul_assoc]
    omega
theorem sg_items (V : Univ U b c n) (row : Row) (hrow : U row) (less : Option Row) (hless : ∀ r, less = some r → U r) (s0 s1 : Slot) (S : List D) : ∀ (kvs : List (Row × Int)) (more : List (Row × Int)) (s5 s6 s7 s8 s9 : Slot), (∀ p ∈ kvs, U p.1) → SgI U more →
    ∃ more' s5' s6' s7' s8' s9', forL (.tup [(.nm 5), (.nm 6)]) sgPair ((rdD kvs).map fun p => .tup [p.1, p.2]) [s0, s1, .val (rowD row), .val (roD less), .own (.dct (rdD more)), s5, s6, s7, s8, s9] S = some (.nx [s0, s1, .val (rowD row), .val (roD less), .own (.dct (rdD more')), s5', s6', s7', s8', s9'] S) ∧ SgI U more' ∧
      (∀ t, W more' t = W more t + W kvs t * dl row less t) ∧ (row.1 ≠ 0 → (∀ r, less = some r → r.1 ≠ 0) → ((0, 0), 1) ∈ more → ((0, 0), 1) ∈ more')
  | [], more, s5, s6, s7, s8, s9, _, M => ⟨more, s5, s6, s7, s8, s9, rfl, M, fun t => by rw [W_nil, Int.zero_mul, Int.add_zero], fun _ _ h => h⟩
  | p :: kvs, more, s5, s6, s7, s8, s9, hk, M => by
    obtain ⟨m1, s7a, s8a, s9a, e1, M1, w1, k1⟩ := sg_pair V row hrow less hless p.1 (hk p List.mem_cons_self) p.2 more M s0 s1 s7 s8 s9 S
    obtain ⟨m2, s5b, s6b, s7b, s8b, s9b, e2, M2, w2, k2⟩ := sg_items V row hrow less hless s0 s1 S kvs m1 (.val (rowD p.1)) (.val (.int p.2)) s7a s8a s9a (fun q hq => hk q (List.mem_cons_of_mem _ hq)) M1
    refine ⟨m2, s5b, s6b, s7b, s8b, s9b, ?_, M2, fun t => ?_, fun h1 h2 h => k2 h1 h2 (k1 h1 h2 h)⟩
    · show forL _ _ (D.tup [rowD p.1, .int p.2] :: (rdD kvs).map fun p => .tup [p.1, p.2]) _ _ = _
      rw [ev_forC, ev_btup, ev_bL1, ev_bnm, ev_bL1, ev_bnm, ev_bL0]
      simp only [Option.bind_some, List.cons_append, List.nil_append, ev_put1, ev_put0, List.set_cons_succ, List.set_cons_zero]
      rw [e1, Option.bind_some]
      exact e2
    · rw [w2 t, w1 t, W_cons, Int.add_mul]
      omega
def nzK (kvs : List (Row × Int)) : List (Row × Int) := kvs.filter fun p => !decide (p.2 = 0)
theorem W_nz (t : Rat) : ∀ kvs : List (Row × Int), W (nzK kvs) t = W kvs t
  | [] => rfl
  | p :: kvs => by
    have ih := W_nz t kvs
    unfold nzK at *
    by_cases h : p.2 = 0
    · rw [List.filter_cons_of_neg (by simp [h]), ih, W_cons, h, Int.zero_mul, Int.zero_add]
    · rw [List.filter_cons_of_pos (by simp [h]), W_cons, W_cons, ih]
theorem nz_sub (kvs : List (Row × Int)) : (nzK kvs).Sublist kvs := List.filter_sublist
theorem SgI.nz {kvs : List (Row × Int)} (h : SgI U kvs) : SgI U (nzK kvs) := ⟨h.nd.sublist ((nz_sub kvs).map _), fun p hp => h.u p ((nz_sub kvs).mem hp)⟩
theorem sg_comp (a0 a1 a2 a3 a4 a7 a8 a9 : Slot) (S : List D) : ∀ (kvs acc : List (Row × Int)), ((acc ++ kvs).map (·.1)).Nodup →
    dcompL (.tup [(.nm 5), (.nm 6)]) (cV (eBin dNe (eB 6) (eC (.int 0)))) (eV 5) (eV 6) [a0, a1, a2, a3, a4, .non, .non, a7, a8, a9] ((rdD kvs).map fun p => .tup [p.1, p.2]) (rdD acc) S = some (rdD (acc ++ nzK kvs), S)
  | [], acc, _ => by
    have : acc ++ nzK [] = acc := List.append_nil acc
    rw [this]; rfl
  | p :: kvs, acc, h => by
    show dcompL _ _ _ _ _ (D.tup [rowD p.1, .int p.2] :: (rdD kvs).map fun p => .tup [p.1, p.2]) _ _ = _
    unfold dcompL
    rw [ev_btup, ev_bL1, ev_bnm, ev_bL1, ev_bnm, ev_bL0]
    simp only [Option.bind_some, List.cons_append, List.nil_append, ev_put1, ev_put0, List.set_cons_succ, List.set_cons_zero]
    have et : cV (eBin dNe (eB 6) (eC (.int 0))) [a0, a1, a2, a3, a4, .val (rowD p.1), .val (.int p.2), a7, a8, a9] S = some (!decide (p.2 = 0), S) := cV_s (bin_s (d := .int p.2) (S' := S) (d2 := .int 0) (S2 := S) rfl rfl (dv_neI _ _))
    rw [et, Option.bind_some]
    have hsub : ((acc ++ kvs).map (·.1)).Nodup := h.sublist (List.Sublist.map _ (List.Sublist.append (List.Sublist.refl acc) (List.sublist_cons_self p kvs)))
    by_cases hz : p.2 = 0
    · rw [decide_eq_true hz, Bool.not_true]
      rw [if_neg Bool.false_ne_true]
      have e : nzK (p :: kvs) = nzK kvs := List.filter_cons_of_neg (by simp [hz])
      rw [e]
      exact sg_comp a0 a1 a2 a3 a4 a7 a8 a9 S kvs acc hsub
    · rw [decide_eq_false hz, Bool.not_false, if_pos rfl]
      have e : nzK (p :: kvs) = p :: nzK kvs := List.filter_cons_of_pos (by simp [hz])
      have e5 : eV 5 [a0, a1, a2, a3, a4, .val (rowD p.1), .val (.int p.2), a7, a8, a9] S = some (rowD p.1, S) := rfl
      have e6 : eV 6 [a0, a1, a2, a3, a4, .val (rowD p.1), .val (.int p.2), a7, a8, a9] S = some (.int p.2, S) := rfl
      rw [e5, Option.bind_some]
      show ((eV 6 [a0, a1, a2, a3, a4, .val (rowD p.1), .val (.int p.2), a7, a8, a9] S).bind _) = _
      rw [e6, Option.bind_some]
      show (if (isTupD (rowD p.1) && kyD 7 (rowD p.1)) = true then dcompL _ _ _ _ _ _ (stD (rdD acc) (rowD p.1) (.int p.2)) S else none) = _
      rw [if_pos (row_key _), stD_rd, e]
      have hn : ¬ hasK acc p.1 = true := by
        rw [hasK_iff]
        intro z
        rw [List.map_append, List.nodup_append] at h
        exact h.2.2 p.1 z p.1 (by rw [List.map_cons]; exact List.mem_cons_self) rfl
      have ep : putR acc p.1 p.2 = acc ++ [p] := by unfold putR; rw [if_neg hn]
      have ea : acc ++ p :: nzK kvs = (acc ++ [p]) ++ nzK kvs := by rw [List.append_assoc]; rfl
      rw [ep, ea]
      exact sg_comp a0 a1 a2 a3 a4 a7 a8 a9 S kvs (acc ++ [p]) (by rw [List.append_assoc]; exact h)
def sgBody : Sv := (sSeq (sSetO 4 (eUn dCopy (eB 1))) (sSeq (sFor (.tup [(.nm 5), (.nm 6)]) (iItems (eV 1)) sgPair) (sFrz 4 (sSet 1 (eDComp (.tup [(.nm 5), (.nm 6)]) (iItems (eV 4)) (cV (eBin dNe (eB 6) (eC (.int 0)))) (eV 5) (eV 6) [5, 6])))))
theorem g_signed_is : g_signed = (sSeq (sSet 1 (eDisp (eC k_ALL) (eC (.int 1)))) (sSeq (sFor (.tup [(.nm 2), (.nm 3)]) (iAny (eV 0)) sgBody) (sRet (eV 1)))) := rfl
theorem sg_body (V : Univ U b c n) (row : Row) (hrow : U row) (less : Option Row) (hless : ∀ r, less = some r → U r) (kvs : List (Row × Int)) (M : SgI U kvs) (s0 s4 s5 s6 s7 s8 s9 : Slot) (S : List D) :
    ∃ kvs' s4' s5' s6' s7' s8' s9', sgBody [s0, .val (.dct (rdD kvs)), .val (rowD row), .val (roD less), s4, s5, s6, s7, s8, s9] S = some (.nx [s0, .val (.dct (rdD kvs')), .val (rowD row), .val (roD less), s4', s5', s6', s7', s8', s9'] S) ∧ SgI U kvs' ∧
      (∀ t, W kvs' t = W kvs t * (1 + dl row less t)) ∧ (row.1 ≠ 0 → (∀ r, less = some r → r.1 ≠ 0) → ((0, 0), 1) ∈ kvs → ((0, 0), 1) ∈ kvs') := by
  obtain ⟨m1, s5a, s6a, s7a, s8a, s9a, e1, M1, w1, k1⟩ := sg_items V row hrow less hless s0 (.val (.dct (rdD kvs))) S kvs kvs s5 s6 s7 s8 s9 M.u M
  refine ⟨nzK m1, .val (.dct (rdD m1)), s5a, s6a, s7a, s8a, s9a, ?_, M1.nz, fun t => ?_, fun h1 h2 h => ?_⟩
  · unfold sgBody
    refine (seq_nx (setO_s (d := .dct (rdD kvs)) (S' := S) (un_s (d := .dct (rdD kvs)) (S' := S) rfl (M.apart V)) (by show 4 < 10; decide))).trans ?_
    simp only [List.set_cons_succ, List.set_cons_zero]
    refine (seq_nx (for_s (ds := (rdD kvs).map fun p => .tup [p.1, p.2]) (S' := S) rfl e1)).trans ?_
    rw [ev_sFrz]
    show sSet 1 _ [s0, .val (.dct (rdD kvs)), .val (rowD row), .val (roD less), .val (.dct (rdD m1)), s5a, s6a, s7a, s8a, s9a] S = _
    have hc := sg_comp s0 (.val (.dct (rdD kvs))) (.val (rowD row)) (.val (roD less)) (.val (.dct (rdD m1))) s7a s8a s9a S m1 [] M1.nd
    have hl : ((rdD m1).map fun p => D.tup [p.1, p.2]).length ≤ 16777216 := by
      have := M1.len V
      have := V.hn
      unfold rdD
      rw [List.length_map, List.length_map]; omega
    have ed : eDComp (.tup [(.nm 5), (.nm 6)]) (iItems (eV 4)) (cV (eBin dNe (eB 6) (eC (.int 0)))) (eV 5) (eV 6) [5, 6] [s0, .val (.dct (rdD kvs)), .val (rowD row), .val (roD less), .val (.dct (rdD m1)), s5a, s6a, s7a, s8a, s9a] S = some (.dct (rdD (nzK m1)), S) := by
      unfold eDComp
      have ei : iItems (eV 4) [s0, .val (.dct (rdD kvs)), .val (rowD row), .val (roD less), .val (.dct (rdD m1)), s5a, s6a, s7a, s8a, s9a] S = some ((rdD m1).map fun p => D.tup [p.1, p.2], S) := rfl
      rw [ei, Option.bind_some]
      show (if ((rdD m1).map fun p => D.tup [p.1, p.2]).length ≤ 16777216 then _ else none) = _
      rw [if_pos hl]
      show ((dcompL _ _ _ _ [s0, .val (.dct (rdD kvs)), .val (rowD row), .val (roD less), .val (.dct (rdD m1)), .non, .non, s7a, s8a, s9a] _ (rdD []) S).bind _) = _
      rw [hc, Option.bind_some]
      rfl
    exact (set_s ed).trans rfl
  · rw [W_nz, w1 t, Int.mul_add, Int.mul_one]
  · have := k1 h1 h2 h
    unfold nzK
    rw [List.mem_filter]
    exact ⟨this, by simp⟩
def famD (f : Row × Option Row) : D := famK f.1 f.2
def InF (F : List (Row × Option Row)) (t : Rat) : Prop := ∃ f ∈ F, hasR f.1 t ∧ ¬ ∃ q, f.2 = some q ∧ hasR q t
structure FamOk (U : Row → Prop) (F : List (Row × Option Row)) : Prop where
  row : ∀ f ∈ F, U f.1
  less : ∀ f ∈ F, ∀ r, f.2 = some r → U r ∧ ∀ t, hasR r t → hasR f.1 t
theorem dl_eq {row : Row} {less : Option Row} (h : ∀ r, less = some r → ∀ t, hasR r t → hasR row t) (t : Rat) : 1 + dl row less t = 1 - oneIf (hasR row t ∧ ¬ ∃ q, less = some q ∧ hasR q t) := by
  unfold dl
  by_cases h1 : ∃ q, less = some q ∧ hasR q t
  · obtain ⟨q, e, w⟩ := id h1
    rw [oneIf_t h1, oneIf_t (h q e t w), oneIf_f (fun z => z.2 h1)]; rfl
  · by_cases h2 : hasR row t
    · rw [oneIf_f h1, oneIf_t h2, oneIf_t ⟨h2, h1⟩]; rfl
    · rw [oneIf_f h1, oneIf_f h2, oneIf_f (fun z => h2 z.1)]; rfl
theorem sg_loop (V : Univ U b c n) (s0 : Slot) (S : List D) : ∀ (F : List (Row × Option Row)) (kvs : List (Row × Int)) (s2 s3 s4 s5 s6 s7 s8 s9 : Slot), FamOk U F → SgI U kvs →
    ∃ kvs' s2' s3' s4' s5' s6' s7' s8' s9', forL (.tup [(.nm 2), (.nm 3)]) sgBody (F.map famD) [s0, .val (.dct (rdD kvs)), s2, s3, s4, s5, s6, s7, s8, s9] S = some (.nx [s0, .val (.dct (rdD kvs')), s2', s3', s4', s5', s6', s7', s8', s9'] S) ∧ SgI U kvs' ∧
      (∀ t, W kvs' t = W kvs t * (1 - oneIf (InF F t))) ∧ ((∀ f ∈ F, f.1.1 ≠ 0) → ((0, 0), 1) ∈ kvs → ((0, 0), 1) ∈ kvs')
  | [], kvs, s2, s3, s4, s5, s6, s7, s8, s9, _, M => ⟨kvs, s2, s3, s4, s5, s6, s7, s8, s9, rfl, M, fun t => by rw [oneIf_f (fun ⟨f, h, _⟩ => nomatch h), Int.sub_zero, Int.mul_one], fun _ h => h⟩
  | f :: F, kvs, s2, s3, s4, s5, s6, s7, s8, s9, G, M => by
    have hf := G.row f List.mem_cons_self
    have hl := G.less f List.mem_cons_self
    obtain ⟨m1, s4a, s5a, s6a, s7a, s8a, s9a, e1, M1, w1, k1⟩ := sg_body V f.1 hf f.2 (fun r e => (hl r e).1) kvs M s0 s4 s5 s6 s7 s8 s9 S
    obtain ⟨m2, s2b, s3b, s4b, s5b, s6b, s7b, s8b, s9b, e2, M2, w2, k2⟩ := sg_loop V s0 S F m1 (.val (rowD f.1)) (.val (roD f.2)) s4a s5a s6a s7a s8a s9a ⟨fun g hg => G.row g (List.mem_cons_of_mem _ hg), fun g hg => G.less g (List.mem_cons_of_mem _ hg)⟩ M1
    refine ⟨m2, s2b, s3b, s4b, s5b, s6b, s7b, s8b, s9b, ?_, M2, fun t => ?_, fun hz h => k2 (fun g hg => hz g (List.mem_cons_of_mem _ hg)) (k1 (hz f List.mem_cons_self) (fun r e => ?_) h)⟩
    · rw [List.map_cons, ev_forC]
      show ((binds (.tup [(.nm 2), (.nm 3)]) (.tup [rowD f.1, roD f.2])).bind _) = _
      rw [ev_btup, ev_bL1, ev_bnm, ev_bL1, ev_bnm, ev_bL0]
      simp only [Option.bind_some, List.cons_append, List.nil_append, ev_put1, ev_put0, List.set_cons_succ, List.set_cons_zero]
      rw [e1, Option.bind_some]
      exact e2
    · rw [w2 t, w1 t, dl_eq (fun r e => (hl r e).2), Int.mul_assoc]
      congr 1
      by_cases h1 : hasR f.1 t ∧ ¬ ∃ q, f.2 = some q ∧ hasR q t
      · have h2 : InF (f :: F) t := ⟨f, List.mem_cons_self, h1⟩
        rw [oneIf_t h1, oneIf_t h2, Int.sub_self, Int.zero_mul]
      · rw [oneIf_f h1, Int.sub_zero, Int.one_mul]
        congr 1
        refine oneIf_congr ⟨fun ⟨g, hg, w⟩ => ⟨g, List.mem_cons_of_mem _ hg, w⟩, fun ⟨g, hg, w⟩ => ?_⟩
        rcases List.mem_cons.mp hg with rfl | hg
        · exact absurd w h1
        · exact ⟨g, hg, w⟩
    · intro z
      have g := (V.gr r (hl r e).1).z z
      have er : r = (0, 0) := Prod.ext z g
      have all : ∀ t, hasR f.1 t := fun t => (hl r e).2 t (by rw [er]; exact hasR_all t)
      have := all_row (V.gr _ hf) all
      exact hz f List.mem_cons_self (by rw [this])
theorem m_signed_ex (V : Univ U b c n) (F : List (Row × Option Row)) (G : FamOk U F) (S : List D) : ∃ kvs : List (Row × Int), m_signed [.lst (F.map famD)] S = some (.dct (rdD kvs), S) ∧ SgI U kvs ∧ (∀ t, W kvs t = 1 - oneIf (InF F t)) ∧ ((∀ f ∈ F, f.1.1 ≠ 0) → ((0, 0), 1) ∈ kvs) := by
  obtain ⟨kvs, s2, s3, s4, s5, s6, s7, s8, s9, e, M, w, k⟩ := sg_loop V (.val (.lst (F.map famD))) S F [((0, 0), 1)] .non .non .non .non .non .non .non .non G ⟨by simp, fun p hp => by rw [List.mem_singleton.mp hp]; exact V.all⟩
  refine ⟨kvs, ?_, M, fun t => ?_, fun h => k h List.mem_cons_self⟩
  · unfold m_signed
    rw [g_signed_is]
    refine run_rt (ρ := [.val (.lst (F.map famD)), .non, .non, .non, .non, .non, .non, .non, .non, .non]) rfl ?_
    refine (seq_nx (ρ' := [.val (.lst (F.map famD)), .val (.dct (rdD [((0, 0), 1)])), .non, .non, .non, .non, .non, .non, .non, .non]) (S' := S) rfl).trans ?_
    refine (seq_nx (for_s (ds := F.map famD) (S' := S) rfl e)).trans ?_
    exact ret_s rfl
  · rw [w t, W_cons, W_nil, oneIf_t (hasR_all t)]
    omega
end
noncomputable def cnt (l : List Rat) (Q : Rat → Prop) : Int := (l.map fun t => oneIf (Q t)).sum
theorem cnt_nil (Q : Rat → Prop) : cnt [] Q = 0 := rfl
theorem cnt_cons (x : Rat) (l : List Rat) (Q : Rat → Prop) : cnt (x :: l) Q = oneIf (Q x) + cnt l Q := by
  unfold cnt
  rw [List.map_cons, List.sum_cons]
open Classical in
theorem cnt_filter (Q : Rat → Prop) : ∀ l : List Rat, cnt l Q = ((l.filter fun t => decide (Q t)).length : Nat)
  | [] => rfl
  | x :: l => by
    rw [cnt_cons, cnt_filter Q l]
    by_cases h : Q x
    · rw [oneIf_t h, List.filter_cons_of_pos (p := fun t => decide (Q t)) (decide_eq_true h), List.length_cons]; omega
    · rw [oneIf_f h, List.filter_cons_of_neg (p := fun t => decide (Q t)) (by rw [decide_eq_true_iff]; exact h)]; omega
theorem cnt_congr {l : List Rat} {Q Q' : Rat → Prop} (h : ∀ t ∈ l, Q t ↔ Q' t) : cnt l Q = cnt l Q' := by
  unfold cnt
  congr 1
  exact List.map_congr_left fun t ht => oneIf_congr (h t ht)
theorem cnt_all {l : List Rat} {Q : Rat → Prop} (h : ∀ t ∈ l, Q t) : cnt l Q = (l.length : Nat) := by
  induction l with
  | nil => rfl
  | cons x l ih => rw [cnt_cons, ih (fun t m => h t (List.mem_cons_of_mem _ m)), oneIf_t (h x List.mem_cons_self), List.length_cons]; omega
open Classical in
theorem cnt_same {l l' : List Rat} {Q Q' : Rat → Prop} (n : l.Nodup) (n' : l'.Nodup) (h : ∀ t, (t ∈ l ∧ Q t) ↔ (t ∈ l' ∧ Q' t)) : cnt l Q = cnt l' Q' := by
  rw [cnt_filter, cnt_filter]
  have : (l.filter fun t => decide (Q t)).Perm (l'.filter fun t => decide (Q' t)) := by
    refine (List.perm_ext_iff_of_nodup (n.sublist List.filter_sublist) (n'.sublist List.filter_sublist)).mpr fun t => ?_
    rw [List.mem_filter, List.mem_filter, decide_eq_true_iff, decide_eq_true_iff]
    exact h t
  rw [this.length_eq]
theorem cnt_mul (l : List Rat) (v : Int) (Q : Rat → Prop) : v * cnt l Q = (l.map fun t => v * oneIf (Q t)).sum := by
  induction l with
  | nil => rw [cnt_nil]; exact Int.mul_zero v
  | cons x l ih => rw [cnt_cons, List.map_cons, List.sum_cons, ← ih, Int.mul_add]
theorem sum_map_add (l : List Rat) (f g : Rat → Int) : (l.map fun t => f t + g t).sum = (l.map f).sum + (l.map g).sum := by
  induction l with
  | nil => rfl
  | cons x l ih => rw [List.map_cons, List.sum_cons, List.map_cons, List.sum_cons, List.map_cons, List.sum_cons, ih]; omega
theorem sum_swap (A : List Rat) (Q : Rat → Prop) : ∀ R : List (Row × Int), (R.map fun p => p.2 * cnt A fun t => hasR p.1 t ∧ Q t).sum = (A.map fun t => W R t * oneIf (Q t)).sum
  | [] => by
    show (0 : Int) = _
    have : (A.map fun t => W [] t * oneIf (Q t)) = A.map fun _ => (0 : Int) := List.map_congr_left fun t _ => by rw [W_nil, Int.zero_mul]
    rw [this]
    clear this
    induction A with
    | nil => rfl
    | cons x A ih => rw [List.map_cons, List.sum_cons, ← ih]; rfl
  | p :: R => by
    rw [List.map_cons, List.sum_cons, sum_swap A Q R, cnt_mul, ← sum_map_add]
    congr 1
    refine List.map_congr_left fun t _ => ?_
    show p.2 * oneIf (hasR p.1 t ∧ Q t) + W R t * oneIf (Q t) = W (p :: R) t * oneIf (Q t)
    rw [W_cons, Int.add_mul, oneIf_and, Int.mul_assoc]
def insT (x : Rat) : List Rat → List Rat
  | [] => [x]
  | y :: l => if x < y then x :: y :: l else if x = y then y :: l else y :: insT x l
theorem mem_insT {x t : Rat} : ∀ {l : List Rat}, t ∈ insT x l ↔ t = x ∨ t ∈ l
  | [] => by unfold insT; simp
  | y :: l => by
    unfold insT
    split
    · simp
    · split
      · rename_i e
        subst e
        simp
      · rw [List.mem_cons, mem_insT (l := l), List.mem_cons]
        constructor
        · rintro (h | h | h)
          · exact .inr (.inl h)
          · exact .inl h
          · exact .inr (.inr h)
        · rintro (h | h | h)
          · exact .inr (.inl h)
          · exact .inl h
          · exact .inr (.inr h)
theorem asc_insT (x : Rat) : ∀ {l : List Rat}, Asc l → Asc (insT x l)
  | [], _ => by unfold insT; exact List.pairwise_singleton _ _
  | y :: l, h => by
    unfold insT
    have h' := List.pairwise_cons.mp h
    split
    · rename_i lt
      refine List.pairwise_cons.mpr ⟨fun z hz => ?_, h⟩
      rcases List.mem_cons.mp hz with rfl | hz
      · exact lt
      · have := h'.1 z hz; grind
    · split
      · exact h
      · rename_i n1 n2
        refine List.pairwise_cons.mpr ⟨fun z hz => ?_, asc_insT x h'.2⟩
        rcases mem_insT.mp hz with rfl | hz
        · have := Rat.not_lt.mp n1
          exact Rat.lt_of_le_of_ne this (Ne.symm n2)
        · exact h'.1 z hz
theorem asc_nodup {l : List Rat} (h : Asc l) : l.Nodup := h.imp fun h e => by rw [e] at h; exact Rat.lt_irrefl h
theorem asc_of {P : Rat → Prop} : ∀ (cov : List Rat), (∀ t, P t → t ∈ cov) → ∃ T, Asc T ∧ ∀ t, t ∈ T ↔ P t
  | [], h => ⟨[], List.Pairwise.nil, fun t => ⟨fun z => (nomatch z), fun z => (nomatch h t z)⟩⟩
  | x :: cov, h => by
    obtain ⟨T, h1, h2⟩ := asc_of (P := fun t => P t ∧ t ≠ x) cov fun t ht => (List.mem_cons.mp (h t ht.1)).resolve_left ht.2
    by_cases hx : P x
    · refine ⟨insT x T, asc_insT x h1, fun t => ?_⟩
      rw [mem_insT, h2]
      constructor
      · rintro (rfl | z)
        · exact hx
        · exact z.1
      · intro z
        by_cases e : t = x
        · exact .inl e
        · exact .inr ⟨z, e⟩
    · refine ⟨T, h1, fun t => (h2 t).trans ⟨fun z => z.1, fun z => ⟨z, fun e => hx (e ▸ z)⟩⟩⟩
def tsR (r : Row) : List Rat := (List.range r.1).map fun (k : Nat) => (r.2 + ((k : Int) : Rat)) / ((r.1 : Int) : Rat)
theorem mem_tsR {r : Row} (hn : 0 < r.1) (p0 : 0 ≤ r.2) (p1 : r.2 < 1) {t : Rat} : t ∈ tsR r ↔ (0 ≤ t ∧ t < 1) ∧ hasR r t := by
  have hn' : (0 : Int) < ((r.1 : Nat) : Int) := by omega
  constructor
  · intro h
    obtain ⟨k, hk, rfl⟩ := List.mem_map.mp h
    have hk := List.mem_range.mp hk
    exact ⟨row_time_range hn' p0 p1 (by omega) (by omega), row_time hn' _⟩
  · rintro ⟨⟨a, b⟩, h⟩
    obtain ⟨k, k0, k1, e⟩ := (row_times hn' p0 p1 a b).mp h
    refine List.mem_map.mpr ⟨k.toNat, List.mem_range.mpr (by omega), ?_⟩
    have : ((k.toNat : Nat) : Int) = k := by omega
    rw [this, e]
theorem asc_tsR {r : Row} (hn : 0 < r.1) : Asc (tsR r) := by
  have hn' : (0 : Rat) < ((r.1 : Int) : Rat) := int_pos_rat (by omega)
  unfold Asc tsR
  rw [List.pairwise_map]
  refine List.Pairwise.imp ?_ List.pairwise_lt_range
  intro i j h
  have hij : ((i : Int) : Rat) < ((j : Int) : Rat) := Rat.intCast_lt_intCast.mpr (by omega)
  rw [Rat.div_lt_iff hn', Rat.div_mul_cancel (ne_of_pos_rat hn')]
  grind
structure RowsOk (R : List (Row × Int)) : Prop where
  pos : ∀ p ∈ R, 0 < p.1.1
  lo : ∀ p ∈ R, 0 ≤ p.1.2
  hi : ∀ p ∈ R, p.1.2 < 1
structure Once (R : List (Row × Int)) (T : List Rat) : Prop where
  ok : RowsOk R
  asc : Asc T
  mem : ∀ t, t ∈ T → 0 ≤ t ∧ t < 1
  one : ∀ t, 0 ≤ t → t < 1 → W R t = oneIf (t ∈ T)
theorem Once.count {R : List (Row × Int)} {T : List Rat} (h : Once R T) (Q : Rat → Prop) : (R.map fun p => p.2 * cnt (tsR p.1) Q).sum = cnt T Q := by
  obtain ⟨A, hA, mA⟩ := asc_of (P := fun t => t ∈ R.flatMap fun p => tsR p.1) (R.flatMap fun p => tsR p.1) fun t ht => ht
  have e1 : (R.map fun p => p.2 * cnt (tsR p.1) Q) = R.map fun p => p.2 * cnt A fun t => hasR p.1 t ∧ Q t := by
    refine List.map_congr_left fun p hp => ?_
    congr 1
    refine cnt_same (asc_nodup (asc_tsR (h.ok.pos p hp))) (asc_nodup hA) fun t => ?_
    rw [mem_tsR (h.ok.pos p hp) (h.ok.lo p hp) (h.ok.hi p hp)]
    constructor
    · rintro ⟨⟨a, b⟩, c⟩
      exact ⟨(mA t).mpr (List.mem_flatMap.mpr ⟨p, hp, (mem_tsR (h.ok.pos p hp) (h.ok.lo p hp) (h.ok.hi p hp)).mpr ⟨a, b⟩⟩), b, c⟩
    · rintro ⟨a, b, c⟩
      obtain ⟨q, hq, w⟩ := List.mem_flatMap.mp ((mA t).mp a)
      exact ⟨⟨((mem_tsR (h.ok.pos q hq) (h.ok.lo q hq) (h.ok.hi q hq)).mp w).1, b⟩, c⟩
  rw [e1, sum_swap]
  have rng : ∀ t ∈ A, 0 ≤ t ∧ t < 1 := fun t ht => by
    obtain ⟨q, hq, w⟩ := List.mem_flatMap.mp ((mA t).mp ht)
    exact ((mem_tsR (h.ok.pos q hq) (h.ok.lo q hq) (h.ok.hi q hq)).mp w).1
  have e2 : (A.map fun t => W R t * oneIf (Q t)) = A.map fun t => oneIf (t ∈ T ∧ Q t) := List.map_congr_left fun t ht => by
    rw [h.one t (rng t ht).1 (rng t ht).2, oneIf_and]
  rw [e2]
  show cnt A (fun t => t ∈ T ∧ Q t) = _
  refine cnt_same (asc_nodup hA) (asc_nodup h.asc) fun t => ⟨fun z => z.2, fun z => ⟨(mA t).mpr ?_, z⟩⟩
  apply Classical.byContradiction
  intro no
  have tr := h.mem t z.1
  have w1 := h.one t tr.1 tr.2
  rw [oneIf_t z.1] at w1
  have w0 : ∀ R' : List (Row × Int), (∀ p ∈ R', p ∈ R) → W R' t = 0 := by
    intro R' hs
    induction R' with
    | nil => rfl
    | cons p R' ih =>
      rw [W_cons, ih fun q hq => hs q (List.mem_cons_of_mem _ hq)]
      have hp := hs p List.mem_cons_self
      rw [oneIf_f fun z => no (List.mem_flatMap.mpr ⟨p, hp, (mem_tsR (h.ok.pos p hp) (h.ok.lo p hp) (h.ok.hi p hp)).mpr ⟨tr, z⟩⟩)]
      omega
  rw [w0 R fun p hp => hp] at w1
  exact absurd w1 (by decide)
theorem cnt_rng {n : Nat} (z : Int) : ((List.range n).map fun (k : Nat) => oneIf ((k : Int) ≤ z)).sum = max 0 (min (n : Int) (z + 1)) := by
  induction n with
  | zero => show (0 : Int) = _; omega
  | succ n ih =>
    rw [List.range_succ, List.map_append, List.sum_append, ih]
    show _ + (oneIf ((n : Int) ≤ z) + 0) = _
    by_cases h : (n : Int) ≤ z
    · rw [oneIf_t h]; omega
    · rw [oneIf_f h]; omega
theorem cnt_to {r : Row} (hn : 0 < r.1) {a d : Int} (hd : 0 < d) (after : Bool) :
    cnt (tsR r) (fun t => if after = true then t ≤ (a : Rat) / (d : Rat) else t < (a : Rat) / (d : Rat)) =
      max 0 (min (r.1 : Int) (if after = true then ((r.1 : Int) * a * (r.2.den : Int) - r.2.num * d) / (d * (r.2.den : Int)) + 1 else ((r.1 : Int) * a * (r.2.den : Int) - r.2.num * d - 1) / (d * (r.2.den : Int)) + 1)) := by
  have dp : (0 : Rat) < (d : Rat) := int_pos_rat hd
  have np : (0 : Rat) < ((r.1 : Int) : Rat) := int_pos_rat (by omega)
  have bp : (0 : Rat) < ((r.2.den : Int) : Rat) := int_pos_rat (den_pos _)
  have wp : (0 : Int) < d * (r.2.den : Int) := Int.mul_pos hd (den_pos _)
  have ep : r.2 * ((r.2.den : Int) : Rat) = (r.2.num : Rat) := by
    have := num_div_den r.2
    have e2 : ((r.2.den : Int) : Rat) = (r.2.den : Rat) := Rat.intCast_natCast _
    conv => lhs; lhs; rw [← this]
    rw [e2, Rat.div_mul_cancel]
    exact ne_of_pos_rat (by rw [← e2]; exact bp)
  have key : ∀ k : Nat, (((r.2 + ((k : Int) : Rat)) / ((r.1 : Int) : Rat)) * (((r.1 : Int) : Rat) * ((r.2.den : Int) : Rat) * (d : Rat)) = ((((k : Int) * (d * (r.2.den : Int)) + r.2.num * d : Int)) : Rat)) := fun k => by
    have v := Rat.div_mul_cancel (a := r.2 + ((k : Int) : Rat)) (ne_of_pos_rat np)
    rw [Rat.intCast_add, Rat.intCast_mul, Rat.intCast_mul, Rat.intCast_mul, ← ep]
    grind
  have key2 : ((a : Rat) / (d : Rat)) * (((r.1 : Int) : Rat) * ((r.2.den : Int) : Rat) * (d : Rat)) = (((r.1 : Int) * a * (r.2.den : Int) : Int) : Rat) := by
    have v := Rat.div_mul_cancel (a := (a : Rat)) (ne_of_pos_rat dp)
    rw [Rat.intCast_mul, Rat.intCast_mul]
    grind
  have cp : (0 : Rat) < ((r.1 : Int) : Rat) * ((r.2.den : Int) : Rat) * (d : Rat) := Rat.mul_pos (Rat.mul_pos np bp) dp
  have cle : ∀ x y : Rat, x ≤ y ↔ x * (((r.1 : Int) : Rat) * ((r.2.den : Int) : Rat) * (d : Rat)) ≤ y * (((r.1 : Int) : Rat) * ((r.2.den : Int) : Rat) * (d : Rat)) := fun x y => by
    constructor
    · exact fun h => Rat.mul_le_mul_of_nonneg_right h (Rat.le_of_lt cp)
    · intro h
      apply Rat.not_lt.mp
      intro z
      exact Rat.not_le.mpr (Rat.mul_lt_mul_of_pos_right z cp) h
  have q1 : ∀ k : Nat, ((r.2 + ((k : Int) : Rat)) / ((r.1 : Int) : Rat) ≤ (a : Rat) / (d : Rat)) ↔ (k : Int) ≤ ((r.1 : Int) * a * (r.2.den : Int) - r.2.num * d) / (d * (r.2.den : Int)) := fun k => by
    rw [cle, key, key2, Rat.intCast_le_intCast, Int.le_ediv_iff_mul_le wp]
    omega
  have q2 : ∀ k : Nat, ((r.2 + ((k : Int) : Rat)) / ((r.1 : Int) : Rat) < (a : Rat) / (d : Rat)) ↔ (k : Int) ≤ ((r.1 : Int) * a * (r.2.den : Int) - r.2.num * d - 1) / (d * (r.2.den : Int)) := fun k => by
    rw [← Rat.not_le, cle, key, key2, Rat.intCast_le_intCast, Int.le_ediv_iff_mul_le wp]
    omega
  unfold cnt tsR
  rw [List.map_map]
  cases after with
  | true =>
    simp only [if_true]
    rw [← cnt_rng]
    congr 1
    exact List.map_congr_left fun k _ => oneIf_congr (q1 k)
  | false =>
    simp only [Bool.false_eq_true, if_false]
    rw [← cnt_rng]
    congr 1
    exact List.map_congr_left fun k _ => oneIf_congr (q2 k)
theorem asc_at : ∀ {T : List Rat} {i : Nat} {x : Rat}, Asc T → T[i]? = some x → ∀ y : Rat, (i : Int) < cnt T (fun t => t ≤ y) ↔ x ≤ y
  | [], _, _, _, h, _ => by simp at h
  | z :: T, 0, x, h, e, y => by
    have e : z = x := by simpa using e
    subst e
    have h' := List.pairwise_cons.mp h
    rw [cnt_cons]
    have nn : 0 ≤ cnt T fun t => t ≤ y := by rw [cnt_filter]; omega
    by_cases q : z ≤ y
    · rw [oneIf_t q]
      exact ⟨fun _ => q, fun _ => by omega⟩
    · rw [oneIf_f q]
      have : cnt T (fun t => t ≤ y) = 0 := by
        have : cnt T (fun t => t ≤ y) = cnt T fun _ => False := cnt_congr fun t ht => ⟨fun w => q (Rat.le_trans (Rat.le_of_lt (h'.1 t ht)) w), fun w => w.elim⟩
        rw [this]
        clear this nn h h' e
        induction T with
        | nil => rfl
        | cons u T ih => rw [cnt_cons, oneIf_f (fun z => z), ih]; rfl
      rw [this]
      exact ⟨fun w => by omega, fun w => absurd w q⟩
  | z :: T, i + 1, x, h, e, y => by
    have h' := List.pairwise_cons.mp h
    have e : T[i]? = some x := by simpa using e
    have ih := asc_at h'.2 e y
    have hz : z < x := h'.1 x (List.mem_of_getElem? e)
    rw [cnt_cons]
    have nn : 0 ≤ cnt T fun t => t ≤ y := by rw [cnt_filter]; omega
    by_cases q : z ≤ y
    · rw [oneIf_t q, ← ih]; omega
    · rw [oneIf_f q]
      constructor
      · intro w
        exact ih.mp (by omega)
      · intro w
        exact absurd (Rat.le_trans (Rat.le_of_lt hz) w) q
def cntD (p : Row × Int) : D := .tup [rowD p.1, .int p.2]
def twoD (a d : Int) : D := .tup [.int a, .int d]
theorem smallN {k : Int} (h : k.natAbs < 2 ^ 64) : small k = true := by
  have : (2 : Nat) ^ 64 = 18446744073709551616 := rfl
  exact decide_eq_true (by omega)
theorem mul_l {a b : Int} (h : small a = true) : dMul (.int a) (.int b) = some (.int (a * b)) := dv_mul a b (by rw [h]; rfl)
theorem mul_r {a b : Int} (h : small b = true) : dMul (.int a) (.int b) = some (.int (a * b)) := dv_mul a b (by rw [h]; cases small a <;> rfl)
theorem dv_max2 (a b : Int) : dMax2 (.int a) (.int b) = some (.int (max a b)) := by
  show some (D.int (if b > a then b else a)) = _
  congr 2
  rw [Int.max_def]
  split <;> split <;> omega
theorem dv_min2 (a b : Int) : dMin2 (.int a) (.int b) = some (.int (min a b)) := by
  show some (D.int (if b < a then b else a)) = _
  congr 2
  rw [Int.min_def]
  split <;> split <;> omega
structure SmallR (r : Row) : Prop where
  n : 0 < r.1
  b : r.1 < 2 ^ 64
  p : P 64 r.2
def cto (r : Row) (a d : Int) (after : Bool) : Int := max 0 (min (r.1 : Int) (if after = true then ((r.1 : Int) * a * (r.2.den : Int) - r.2.num * d) / (d * (r.2.den : Int)) + 1 else ((r.1 : Int) * a * (r.2.den : Int) - r.2.num * d - 1) / (d * (r.2.den : Int)) + 1))
theorem m_count_to_eq {r : Row} (h : SmallR r) {a d : Int} (hd : 0 < d) (hw : d.natAbs < 2 ^ 7900) (after : Bool) (S : List D) : m_count_to [rowD r, twoD a d, .bl after] S = some (.int (cto r a d after), S) := by
  have sn : small (r.1 : Int) = true := smallN (by rw [Int.natAbs_natCast]; exact h.b)
  have sd : small (r.2.den : Int) = true := smallN (by rw [Int.natAbs_natCast]; exact h.p.den)
  have st : small r.2.num = true := h.p.snum (by decide)
  have m1 := mul_l (b := a) sn
  have m2 := mul_r (a := (r.1 : Int) * a) sd
  have m3 := mul_l (b := d) st
  have m4 := mul_r (a := d) sd
  have wp : 0 < d * (r.2.den : Int) := Int.mul_pos hd (den_pos _)
  have ww : wide (d * (r.2.den : Int)) = true := wide_pow (n := 7964) (by decide) (by
    rw [Int.natAbs_mul, Int.natAbs_natCast, show (7964 : Nat) = 7900 + 64 from rfl, Nat.pow_add]
    exact Nat.mul_lt_mul_of_lt_of_lt hw h.p.den)
  have d1 := dv_div ((r.1 : Int) * a * (r.2.den : Int) - r.2.num * d) _ wp ww
  have d2 := dv_div ((r.1 : Int) * a * (r.2.den : Int) - r.2.num * d - 1) _ wp ww
  unfold m_count_to g_count_to cto
  have eb : binds (.tup [(.nm 3), (.tup [(.nm 4), (.nm 5)])]) (rowD r) = some [(3, .int (r.1 : Int)), (4, .int r.2.num), (5, .int (r.2.den : Int))] := by unfold rowD dR; simp only [ev_C, ev_V, ev_B, ev_aN, ev_aC, ev_Tup, ev_Lst, ev_Bin, ev_Un, ev_UnF, ev_cV, ev_cAnd, ev_cOr, ev_cNot, ev_cYes, ev_And, ev_Or, ev_Not, ev_If, ev_Chain, ev_Call, ev_Ix, ev_Sl, ev_oN, ev_oE, ev_aS, ev_Comp, ev_iAny, ev_iRange1, ev_iRange2, ev_iZip, ev_iEnum, ev_sNil, ev_sSeq, ev_sIf, ev_sRet, ev_sRetO, ev_sRetN, ev_sAsg, ev_sSet, ev_sSetO, ev_sPar, ev_sFor, ev_sWhile, ev_sApp, ev_sIxO, ev_sIxC, ev_sFrz, ev_sExp, ev_sPass, ev_runB, ev_forN, ev_compN, ev_put0, ev_put1, ev_wipe0, ev_wipe1, ev_bnm, ev_btup, ev_bL0, ev_bL1, dv_add, dv_sub, dv_neg, dv_lt, dv_le, dv_gt, dv_ge, dv_int, dv_abs, dv_lenL, dv_lenT, dv_tupL, dv_tupT, dv_lofL, dv_lofT, dv_lofS, dv_seqL, dv_seqT, dv_ixL, dv_ixT, dv_ixO, atI_0, atI_1, atI_2, Option.bind_some, Option.bind_none, List.getElem?_cons_zero, List.getElem?_cons_succ, List.getElem?_nil, List.set_cons_zero, List.set_cons_succ, List.set_nil, List.length_cons, List.length_nil, List.map_cons, List.map_nil, List.replicate_succ, List.replicate_zero, List.cons_append, List.nil_append, Nat.reduceAdd, Nat.reduceSub, Nat.reduceLeDiff, Nat.zero_add, Nat.sub_zero, Nat.add_zero, if_true, if_false, Bool.false_eq_true, Nat.reduceEqDiff, Bool.not_true, Bool.not_false, decide_true, decide_false, ev_nat]
  have z0 : ixD S (twoD a d) (.int 0) = some (.int a) := rfl
  have z1 : ixD S (twoD a d) (.int 1) = some (.int d) := rfl
  cases after with
  | true => simp only [ev_C, ev_V, ev_B, ev_aN, ev_aC, ev_Tup, ev_Lst, ev_Bin, ev_Un, ev_UnF, ev_cV, ev_cAnd, ev_cOr, ev_cNot, ev_cYes, ev_And, ev_Or, ev_Not, ev_If, ev_Chain, ev_Call, ev_Ix, ev_Sl, ev_oN, ev_oE, ev_aS, ev_Comp, ev_iAny, ev_iRange1, ev_iRange2, ev_iZip, ev_iEnum, ev_sNil, ev_sSeq, ev_sIf, ev_sRet, ev_sRetO, ev_sRetN, ev_sAsg, ev_sSet, ev_sSetO, ev_sPar, ev_sFor, ev_sWhile, ev_sApp, ev_sIxO, ev_sIxC, ev_sFrz, ev_sExp, ev_sPass, ev_runB, ev_forN, ev_compN, ev_put0, ev_put1, ev_wipe0, ev_wipe1, ev_bnm, ev_btup, ev_bL0, ev_bL1, dv_add, dv_sub, dv_neg, dv_lt, dv_le, dv_gt, dv_ge, dv_int, dv_abs, dv_lenL, dv_lenT, dv_tupL, dv_tupT, dv_lofL, dv_lofT, dv_lofS, dv_seqL, dv_seqT, dv_ixL, dv_ixT, dv_ixO, atI_0, atI_1, atI_2, Option.bind_some, Option.bind_none, List.getElem?_cons_zero, List.getElem?_cons_succ, List.getElem?_nil, List.set_cons_zero, List.set_cons_succ, List.set_nil, List.length_cons, List.length_nil, List.map_cons, List.map_nil, List.replicate_succ, List.replicate_zero, List.cons_append, List.nil_append, Nat.reduceAdd, Nat.reduceSub, Nat.reduceLeDiff, Nat.zero_add, Nat.sub_zero, Nat.add_zero, if_true, if_false, Bool.false_eq_true, Nat.reduceEqDiff, Bool.not_true, Bool.not_false, decide_true, decide_false, ev_nat, eb, z0, z1, m1, m2, m3, m4, d1, dv_max2, dv_min2]
  | false => simp only [ev_C, ev_V, ev_B, ev_aN, ev_aC, ev_Tup, ev_Lst, ev_Bin, ev_Un, ev_UnF, ev_cV, ev_cAnd, ev_cOr, ev_cNot, ev_cYes, ev_And, ev_Or, ev_Not, ev_If, ev_Chain, ev_Call, ev_Ix, ev_Sl, ev_oN, ev_oE, ev_aS, ev_Comp, ev_iAny, ev_iRange1, ev_iRange2, ev_iZip, ev_iEnum, ev_sNil, ev_sSeq, ev_sIf, ev_sRet, ev_sRetO, ev_sRetN, ev_sAsg, ev_sSet, ev_sSetO, ev_sPar, ev_sFor, ev_sWhile, ev_sApp, ev_sIxO, ev_sIxC, ev_sFrz, ev_sExp, ev_sPass, ev_runB, ev_forN, ev_compN, ev_put0, ev_put1, ev_wipe0, ev_wipe1, ev_bnm, ev_btup, ev_bL0, ev_bL1, dv_add, dv_sub, dv_neg, dv_lt, dv_le, dv_gt, dv_ge, dv_int, dv_abs, dv_lenL, dv_lenT, dv_tupL, dv_tupT, dv_lofL, dv_lofT, dv_lofS, dv_seqL, dv_seqT, dv_ixL, dv_ixT, dv_ixO, atI_0, atI_1, atI_2, Option.bind_some, Option.bind_none, List.getElem?_cons_zero, List.getElem?_cons_succ, List.getElem?_nil, List.set_cons_zero, List.set_cons_succ, List.set_nil, List.length_cons, List.length_nil, List.map_cons, List.map_nil, List.replicate_succ, List.replicate_zero, List.cons_append, List.nil_append, Nat.reduceAdd, Nat.reduceSub, Nat.reduceLeDiff, Nat.zero_add, Nat.sub_zero, Nat.add_zero, if_true, if_false, Bool.false_eq_true, Nat.reduceEqDiff, Bool.not_true, Bool.not_false, decide_true, decide_false, ev_nat, eb, z0, z1, m1, m2, m3, m4, d2, dv_max2, dv_min2]
theorem cto_eq {r : Row} (hn : 0 < r.1) {a d : Int} (hd : 0 < d) (after : Bool) : cto r a d after = cnt (tsR r) (fun t => if after = true then t ≤ (a : Rat) / (d : Rat) else t < (a : Rat) / (d : Rat)) := (cnt_to hn hd after).symm
theorem m_count_until_eq {R : List (Row × Int)} {T : List Rat} (o : Once R T) (h : ∀ p ∈ R, SmallR p.1) (hl : R.length ≤ 16777216) {a d : Int} (hd : 0 < d) (hw : d.natAbs < 2 ^ 7900) (after : Bool) (S : List D) :
    m_count_until [.lst (R.map cntD), twoD a d, .bl after] S = some (.int (cnt T (fun t => if after = true then t ≤ (a : Rat) / (d : Rat) else t < (a : Rat) / (d : Rat))), S) := by
  unfold m_count_until g_count_until
  refine run_rt (ρ := [.val (.lst (R.map cntD)), .val (twoD a d), .val (.bl after), .non, .non]) rfl (ret_s ?_)
  have hc : compL (.tup [(.nm 3), (.nm 4)]) cYes (eBin dMul (eCall 3 m_count_to (aC (eV 3) (aC (eV 1) (aC (eV 2) aN)))) (eB 4)) [.val (.lst (R.map cntD)), .val (twoD a d), .val (.bl after), .non, .non] (R.map cntD) S = some (R.map fun p => D.int (cto p.1 a d after * p.2), S) := by
    refine compL_map cntD (fun p => D.int (cto p.1 a d after * p.2)) R fun p hp => ?_
    refine ⟨[(3, rowD p.1), (4, .int p.2)], by unfold cntD; simp only [ev_C, ev_V, ev_B, ev_aN, ev_aC, ev_Tup, ev_Lst, ev_Bin, ev_Un, ev_UnF, ev_cV, ev_cAnd, ev_cOr, ev_cNot, ev_cYes, ev_And, ev_Or, ev_Not, ev_If, ev_Chain, ev_Call, ev_Ix, ev_Sl, ev_oN, ev_oE, ev_aS, ev_Comp, ev_iAny, ev_iRange1, ev_iRange2, ev_iZip, ev_iEnum, ev_sNil, ev_sSeq, ev_sIf, ev_sRet, ev_sRetO, ev_sRetN, ev_sAsg, ev_sSet, ev_sSetO, ev_sPar, ev_sFor, ev_sWhile, ev_sApp, ev_sIxO, ev_sIxC, ev_sFrz, ev_sExp, ev_sPass, ev_runB, ev_forN, ev_compN, ev_put0, ev_put1, ev_wipe0, ev_wipe1, ev_bnm, ev_btup, ev_bL0, ev_bL1, dv_add, dv_sub, dv_neg, dv_lt, dv_le, dv_gt, dv_ge, dv_int, dv_abs, dv_lenL, dv_lenT, dv_tupL, dv_tupT, dv_lofL, dv_lofT, dv_lofS, dv_seqL, dv_seqT, dv_ixL, dv_ixT, dv_ixO, atI_0, atI_1, atI_2, Option.bind_some, Option.bind_none, List.getElem?_cons_zero, List.getElem?_cons_succ, List.getElem?_nil, List.set_cons_zero, List.set_cons_succ, List.set_nil, List.length_cons, List.length_nil, List.map_cons, List.map_nil, List.replicate_succ, List.replicate_zero, List.cons_append, List.nil_append, Nat.reduceAdd, Nat.reduceSub, Nat.reduceLeDiff, Nat.zero_add, Nat.sub_zero, Nat.add_zero, if_true, if_false, Bool.false_eq_true, Nat.reduceEqDiff, Bool.not_true, Bool.not_false, decide_true, decide_false, ev_nat], ?_⟩
    rw [ev_put1, ev_put1, ev_put0]
    simp only [List.set_cons_succ, List.set_cons_zero]
    have hs : small (cto p.1 a d after) = true := smallN (by
      have := (h p hp).b
      unfold cto
      generalize (if after = true then _ else _ : Int) = z
      omega)
    have ec : eCall 3 m_count_to (aC (eV 3) (aC (eV 1) (aC (eV 2) aN))) [.val (.lst (R.map cntD)), .val (twoD a d), .val (.bl after), .val (rowD p.1), .val (.int p.2)] S = some (.int (cto p.1 a d after), S) :=
      call_s (ds := [rowD p.1, twoD a d, .bl after]) (S' := S) (by simp only [ev_C, ev_V, ev_B, ev_aN, ev_aC, ev_Tup, ev_Lst, ev_Bin, ev_Un, ev_UnF, ev_cV, ev_cAnd, ev_cOr, ev_cNot, ev_cYes, ev_And, ev_Or, ev_Not, ev_If, ev_Chain, ev_Call, ev_Ix, ev_Sl, ev_oN, ev_oE, ev_aS, ev_Comp, ev_iAny, ev_iRange1, ev_iRange2, ev_iZip, ev_iEnum, ev_sNil, ev_sSeq, ev_sIf, ev_sRet, ev_sRetO, ev_sRetN, ev_sAsg, ev_sSet, ev_sSetO, ev_sPar, ev_sFor, ev_sWhile, ev_sApp, ev_sIxO, ev_sIxC, ev_sFrz, ev_sExp, ev_sPass, ev_runB, ev_forN, ev_compN, ev_put0, ev_put1, ev_wipe0, ev_wipe1, ev_bnm, ev_btup, ev_bL0, ev_bL1, dv_add, dv_sub, dv_neg, dv_lt, dv_le, dv_gt, dv_ge, dv_int, dv_abs, dv_lenL, dv_lenT, dv_tupL, dv_tupT, dv_lofL, dv_lofT, dv_lofS, dv_seqL, dv_seqT, dv_ixL, dv_ixT, dv_ixO, atI_0, atI_1, atI_2, Option.bind_some, Option.bind_none, List.getElem?_cons_zero, List.getElem?_cons_succ, List.getElem?_nil, List.set_cons_zero, List.set_cons_succ, List.set_nil, List.length_cons, List.length_nil, List.map_cons, List.map_nil, List.replicate_succ, List.replicate_zero, List.cons_append, List.nil_append, Nat.reduceAdd, Nat.reduceSub, Nat.reduceLeDiff, Nat.zero_add, Nat.sub_zero, Nat.add_zero, if_true, if_false, Bool.false_eq_true, Nat.reduceEqDiff, Bool.not_true, Bool.not_false, decide_true, decide_false, ev_nat]) rfl (m_count_to_eq (h p hp) hd hw after S)
    have e4 : eB 4 [.val (.lst (R.map cntD)), .val (twoD a d), .val (.bl after), .val (rowD p.1), .val (.int p.2)] S = some (.int p.2, S) := by simp only [ev_C, ev_V, ev_B, ev_aN, ev_aC, ev_Tup, ev_Lst, ev_Bin, ev_Un, ev_UnF, ev_cV, ev_cAnd, ev_cOr, ev_cNot, ev_cYes, ev_And, ev_Or, ev_Not, ev_If, ev_Chain, ev_Call, ev_Ix, ev_Sl, ev_oN, ev_oE, ev_aS, ev_Comp, ev_iAny, ev_iRange1, ev_iRange2, ev_iZip, ev_iEnum, ev_sNil, ev_sSeq, ev_sIf, ev_sRet, ev_sRetO, ev_sRetN, ev_sAsg, ev_sSet, ev_sSetO, ev_sPar, ev_sFor, ev_sWhile, ev_sApp, ev_sIxO, ev_sIxC, ev_sFrz, ev_sExp, ev_sPass, ev_runB, ev_forN, ev_compN, ev_put0, ev_put1, ev_wipe0, ev_wipe1, ev_bnm, ev_btup, ev_bL0, ev_bL1, dv_add, dv_sub, dv_neg, dv_lt, dv_le, dv_gt, dv_ge, dv_int, dv_abs, dv_lenL, dv_lenT, dv_tupL, dv_tupT, dv_lofL, dv_lofT, dv_lofS, dv_seqL, dv_seqT, dv_ixL, dv_ixT, dv_ixO, atI_0, atI_1, atI_2, Option.bind_some, Option.bind_none, List.getElem?_cons_zero, List.getElem?_cons_succ, List.getElem?_nil, List.set_cons_zero, List.set_cons_succ, List.set_nil, List.length_cons, List.length_nil, List.map_cons, List.map_nil, List.replicate_succ, List.replicate_zero, List.cons_append, List.nil_append, Nat.reduceAdd, Nat.reduceSub, Nat.reduceLeDiff, Nat.zero_add, Nat.sub_zero, Nat.add_zero, if_true, if_false, Bool.false_eq_true, Nat.reduceEqDiff, Bool.not_true, Bool.not_false, decide_true, decide_false, ev_nat]
    exact bin_s ec e4 (mul_l hs)
  refine un_s (d := .lst (R.map fun p => D.int (cto p.1 a d after * p.2))) (S' := S) (comp_s (ds := R.map cntD) (S' := S) ?_ ?_ ?_) ?_
  · simp only [ev_C, ev_V, ev_B, ev_aN, ev_aC, ev_Tup, ev_Lst, ev_Bin, ev_Un, ev_UnF, ev_cV, ev_cAnd, ev_cOr, ev_cNot, ev_cYes, ev_And, ev_Or, ev_Not, ev_If, ev_Chain, ev_Call, ev_Ix, ev_Sl, ev_oN, ev_oE, ev_aS, ev_Comp, ev_iAny, ev_iRange1, ev_iRange2, ev_iZip, ev_iEnum, ev_sNil, ev_sSeq, ev_sIf, ev_sRet, ev_sRetO, ev_sRetN, ev_sAsg, ev_sSet, ev_sSetO, ev_sPar, ev_sFor, ev_sWhile, ev_sApp, ev_sIxO, ev_sIxC, ev_sFrz, ev_sExp, ev_sPass, ev_runB, ev_forN, ev_compN, ev_put0, ev_put1, ev_wipe0, ev_wipe1, ev_bnm, ev_btup, ev_bL0, ev_bL1, dv_add, dv_sub, dv_neg, dv_lt, dv_le, dv_gt, dv_ge, dv_int, dv_abs, dv_lenL, dv_lenT, dv_tupL, dv_tupT, dv_lofL, dv_lofT, dv_lofS, dv_seqL, dv_seqT, dv_ixL, dv_ixT, dv_ixO, atI_0, atI_1, atI_2, Option.bind_some, Option.bind_none, List.getElem?_cons_zero, List.getElem?_cons_succ, List.getElem?_nil, List.set_cons_zero, List.set_cons_succ, List.set_nil, List.length_cons, List.length_nil, List.map_cons, List.map_nil, List.replicate_succ, List.replicate_zero, List.cons_append, List.nil_append, Nat.reduceAdd, Nat.reduceSub, Nat.reduceLeDiff, Nat.zero_add, Nat.sub_zero, Nat.add_zero, if_true, if_false, Bool.false_eq_true, Nat.reduceEqDiff, Bool.not_true, Bool.not_false, decide_true, decide_false, ev_nat]
  · rw [List.length_map]; exact hl
  · exact hc
  have e : (R.map fun p => D.int (cto p.1 a d after * p.2)) = (R.map fun p => cto p.1 a d after * p.2).map D.int := by rw [List.map_map]; rfl
  show (intsD (R.map fun p => D.int (cto p.1 a d after * p.2))).map _ = _
  rw [e, intsD_map]
  show some (D.int (R.map fun p => cto p.1 a d after * p.2).sum) = _
  congr 2
  rw [← o.count]
  congr 1
  refine List.map_congr_left fun p hp => ?_
  rw [cto_eq (o.ok.pos p hp) hd after, Int.mul_comm]
theorem cnt_row {r : Row} : (r.1 : Int) = cnt (tsR r) fun _ => True := by
  rw [cnt_all fun _ _ => trivial]
  unfold tsR
  rw [List.length_map, List.length_range]
theorem sum_rows {R : List (Row × Int)} {T : List Rat} (o : Once R T) : (R.map fun p => (p.1.1 : Int) * p.2).sum = (T.length : Nat) := by
  have e := o.count fun _ => True
  rw [cnt_all (l := T) fun _ _ => trivial] at e
  rw [← e]
  congr 1
  refine List.map_congr_left fun p _ => ?_
  show (p.1.1 : Int) * p.2 = p.2 * cnt (tsR p.1) fun _ => True
  rw [← cnt_row, Int.mul_comm]
theorem dSum_rows {R : List (Row × Int)} {T : List Rat} (o : Once R T) : dSum (.lst (R.map fun p => D.int ((p.1.1 : Int) * p.2))) = some (.int (T.length : Nat)) := by
  have e : (R.map fun p => D.int ((p.1.1 : Int) * p.2)) = (R.map fun p => (p.1.1 : Int) * p.2).map D.int := by rw [List.map_map]; rfl
  show (intsD _).map _ = _
  rw [e, intsD_map]
  show some (D.int _) = _
  rw [sum_rows o]
theorem W_neg (t : Rat) : ∀ l : List (Row × Int), W (l.map fun p => (p.1, -p.2)) t = -W l t
  | [] => rfl
  | p :: l => by
    rw [List.map_cons, W_cons, W_cons, W_neg t l]
    show -p.2 * oneIf (hasR p.1 t) + _ = _
    rw [Int.neg_mul]; omega
theorem W_less (r : Row) (v : Int) (t : Rat) : ∀ {kvs : List (Row × Int)}, (kvs.map (·.1)).Nodup → (r, v) ∈ kvs → W kvs t = v * oneIf (hasR r t) + W (kvs.filter fun p => !decide (p.1 = r)) t
  | [], _, h => nomatch h
  | p :: kvs, n, h => by
    rw [List.map_cons, List.nodup_cons] at n
    rcases List.mem_cons.mp h with e | h
    · subst e
      have : ((r, v) :: kvs).filter (fun p => !decide (p.1 = r)) = kvs := by
        rw [List.filter_cons_of_neg (by simp)]
        refine List.filter_eq_self.mpr fun q hq => ?_
        have : q.1 ≠ r := fun e => n.1 (by rw [← e]; exact List.mem_map.mpr ⟨q, hq, rfl⟩)
        simp [this]
      rw [this, W_cons]
    · have : p.1 ≠ r := fun e => n.1 (by rw [e]; exact List.mem_map.mpr ⟨_, h, rfl⟩)
      rw [List.filter_cons_of_pos (by simp [this]), W_cons, W_cons, W_less r v t n.2 h]
      omega
section
variable {U : Row → Prop} {b c n : Nat}
def FamT (F : List (Row × Option Row)) (T : List Rat) : Prop := Asc T ∧ ∀ t, t ∈ T ↔ (0 ≤ t ∧ t < 1) ∧ InF F t
theorem m_rows_of_ex (V : Univ U b c n) (F : List (Row × Option Row)) (G : FamOk U F) (hz : ∀ f ∈ F, f.1.1 ≠ 0) (S : List D) : ∃ R T, m_rows_of [.lst (F.map famD)] S = some (.lst (R.map cntD), S) ∧ Once R T ∧ FamT F T ∧ (∀ p ∈ R, U p.1) ∧ R.length ≤ n := by
  obtain ⟨kvs, e, M, w, k⟩ := m_signed_ex V F G S
  have hall := k hz
  have hU : ∀ p ∈ (kvs.filter fun p => !decide (p.1 = (0, 0))).map fun p => (p.1, -p.2), U p.1 ∧ p.1 ≠ (0, 0) := fun p hp => by
    obtain ⟨q, hq, rfl⟩ := List.mem_map.mp hp
    obtain ⟨h1, h2⟩ := List.mem_filter.mp hq
    exact ⟨M.u q h1, by simpa using h2⟩
  have hok : RowsOk ((kvs.filter fun p => !decide (p.1 = (0, 0))).map fun p => (p.1, -p.2)) := ⟨fun p hp => by
    have g := V.gr _ (hU p hp).1
    refine Nat.pos_of_ne_zero fun z => (hU p hp).2 (Prod.ext z (g.z z)), fun p hp => (V.gr _ (hU p hp).1).p.lo, fun p hp => (V.gr _ (hU p hp).1).p.hi⟩
  have hW : ∀ t, W ((kvs.filter fun p => !decide (p.1 = (0, 0))).map fun p => (p.1, -p.2)) t = oneIf (InF F t) := fun t => by
    have := W_less (0, 0) 1 t M.nd hall
    rw [w t, oneIf_t (hasR_all t)] at this
    rw [W_neg]
    omega
  obtain ⟨T, hT, mT⟩ := asc_of (P := fun t => (0 ≤ t ∧ t < 1) ∧ InF F t) (((kvs.filter fun p => !decide (p.1 = (0, 0))).map fun p => (p.1, -p.2)).flatMap fun p => tsR p.1) fun t ht => by
    apply Classical.byContradiction
    intro no
    have w1 := hW t
    rw [oneIf_t ht.2] at w1
    have w0 : ∀ R' : List (Row × Int), (∀ p ∈ R', p ∈ (kvs.filter fun p => !decide (p.1 = (0, 0))).map fun p => (p.1, -p.2)) → W R' t = 0 := by
      intro R' hs
      induction R' with
      | nil => rfl
      | cons p R' ih =>
        rw [W_cons, ih fun q hq => hs q (List.mem_cons_of_mem _ hq)]
        have hp := hs p List.mem_cons_self
        rw [oneIf_f fun z => no (List.mem_flatMap.mpr ⟨p, hp, (mem_tsR (hok.pos p hp) (hok.lo p hp) (hok.hi p hp)).mpr ⟨ht.1, z⟩⟩)]
        omega
    rw [w0 _ fun p hp => hp] at w1
    exact absurd w1 (by decide)
  refine ⟨_, T, ?_, ⟨hok, hT, fun t ht => ((mT t).mp ht).1, fun t t0 t1 => ?_⟩, ⟨hT, mT⟩, fun p hp => (hU p hp).1, ?_⟩
  · unfold m_rows_of g_rows_of
    refine run_rt (ρ := [.val (.lst (F.map famD)), .non, .non]) rfl (ret_s ?_)
    have ei : iItems (eCall 1 m_signed (aC (eV 0) aN)) [.val (.lst (F.map famD)), .non, .non] S = some (kvs.map cntD, S) := by
      unfold iItems
      have ec : eCall 1 m_signed (aC (eV 0) aN) [.val (.lst (F.map famD)), .non, .non] S = some (.dct (rdD kvs), S) := call_s (ds := [.lst (F.map famD)]) (S' := S) (by simp only [ev_C, ev_V, ev_B, ev_aN, ev_aC, ev_Tup, ev_Lst, ev_Bin, ev_Un, ev_UnF, ev_cV, ev_cAnd, ev_cOr, ev_cNot, ev_cYes, ev_And, ev_Or, ev_Not, ev_If, ev_Chain, ev_Call, ev_Ix, ev_Sl, ev_oN, ev_oE, ev_aS, ev_Comp, ev_iAny, ev_iRange1, ev_iRange2, ev_iZip, ev_iEnum, ev_sNil, ev_sSeq, ev_sIf, ev_sRet, ev_sRetO, ev_sRetN, ev_sAsg, ev_sSet, ev_sSetO, ev_sPar, ev_sFor, ev_sWhile, ev_sApp, ev_sIxO, ev_sIxC, ev_sFrz, ev_sExp, ev_sPass, ev_runB, ev_forN, ev_compN, ev_put0, ev_put1, ev_wipe0, ev_wipe1, ev_bnm, ev_btup, ev_bL0, ev_bL1, dv_add, dv_sub, dv_neg, dv_lt, dv_le, dv_gt, dv_ge, dv_int, dv_abs, dv_lenL, dv_lenT, dv_tupL, dv_tupT, dv_lofL, dv_lofT, dv_lofS, dv_seqL, dv_seqT, dv_ixL, dv_ixT, dv_ixO, atI_0, atI_1, atI_2, Option.bind_some, Option.bind_none, List.getElem?_cons_zero, List.getElem?_cons_succ, List.getElem?_nil, List.set_cons_zero, List.set_cons_succ, List.set_nil, List.length_cons, List.length_nil, List.map_cons, List.map_nil, List.replicate_succ, List.replicate_zero, List.cons_append, List.nil_append, Nat.reduceAdd, Nat.reduceSub, Nat.reduceLeDiff, Nat.zero_add, Nat.sub_zero, Nat.add_zero, if_true, if_false, Bool.false_eq_true, Nat.reduceEqDiff, Bool.not_true, Bool.not_false, decide_true, decide_false, ev_nat]) rfl e
      rw [ec, Option.bind_some]
      show some ((rdD kvs).map (fun p => D.tup [p.1, p.2]), S) = _
      unfold rdD
      rw [List.map_map]; rfl
    have hc := compL_filter (p := .tup [(.nm 1), (.nm 2)]) (c := cV (eBin dNe (eB 1) (eC k_ALL))) (f := eTup (aC (eV 1) (aC (eUn dNeg (eB 2)) aN))) (ρ := [.val (.lst (F.map famD)), .non, .non]) (S := S) cntD (fun p => cntD (p.1, -p.2)) (fun p => !decide (p.1 = (0, 0))) kvs fun p hp => by
      refine ⟨[(1, rowD p.1), (2, .int p.2)], by unfold cntD; simp only [ev_C, ev_V, ev_B, ev_aN, ev_aC, ev_Tup, ev_Lst, ev_Bin, ev_Un, ev_UnF, ev_cV, ev_cAnd, ev_cOr, ev_cNot, ev_cYes, ev_And, ev_Or, ev_Not, ev_If, ev_Chain, ev_Call, ev_Ix, ev_Sl, ev_oN, ev_oE, ev_aS, ev_Comp, ev_iAny, ev_iRange1, ev_iRange2, ev_iZip, ev_iEnum, ev_sNil, ev_sSeq, ev_sIf, ev_sRet, ev_sRetO, ev_sRetN, ev_sAsg, ev_sSet, ev_sSetO, ev_sPar, ev_sFor, ev_sWhile, ev_sApp, ev_sIxO, ev_sIxC, ev_sFrz, ev_sExp, ev_sPass, ev_runB, ev_forN, ev_compN, ev_put0, ev_put1, ev_wipe0, ev_wipe1, ev_bnm, ev_btup, ev_bL0, ev_bL1, dv_add, dv_sub, dv_neg, dv_lt, dv_le, dv_gt, dv_ge, dv_int, dv_abs, dv_lenL, dv_lenT, dv_tupL, dv_tupT, dv_lofL, dv_lofT, dv_lofS, dv_seqL, dv_seqT, dv_ixL, dv_ixT, dv_ixO, atI_0, atI_1, atI_2, Option.bind_some, Option.bind_none, List.getElem?_cons_zero, List.getElem?_cons_succ, List.getElem?_nil, List.set_cons_zero, List.set_cons_succ, List.set_nil, List.length_cons, List.length_nil, List.map_cons, List.map_nil, List.replicate_succ, List.replicate_zero, List.cons_append, List.nil_append, Nat.reduceAdd, Nat.reduceSub, Nat.reduceLeDiff, Nat.zero_add, Nat.sub_zero, Nat.add_zero, if_true, if_false, Bool.false_eq_true, Nat.reduceEqDiff, Bool.not_true, Bool.not_false, decide_true, decide_false, ev_nat], ?_, fun _ => ?_⟩
      · rw [ev_put1, ev_put1, ev_put0]
        simp only [List.set_cons_succ, List.set_cons_zero]
        have := dv_neRo (some p.1) (0, 0)
        have e2 : decide (some p.1 = some (0, 0)) = decide (p.1 = (0, 0)) := decide_eq_decide.mpr (by simp)
        rw [e2] at this
        exact cV_s (bin_s (d := rowD p.1) (S' := S) (d2 := k_ALL) (S2 := S) rfl rfl this)
      · rfl
    have el : (kvs.map cntD).length ≤ 16777216 := by
      have := M.len V
      have := V.hn
      rw [List.length_map]; omega
    refine (comp_s (res := (kvs.filter fun p => !decide (p.1 = (0, 0))).map fun p => cntD (p.1, -p.2)) (S2 := S) ei el ?_).trans ?_
    · exact hc
    · rw [List.map_map]; rfl
  · rw [hW t]
    exact oneIf_congr ⟨fun z => (mT t).mpr ⟨⟨t0, t1⟩, z⟩, fun z => ((mT t).mp z).2⟩
  · rw [List.length_map]
    exact Nat.le_trans (List.length_filter_le _ _) (M.len V)
theorem inL_row (r : Row) : ∀ rs : List Row, inL (rowD r) (rs.map rowD) = decide (r ∈ rs)
  | [] => rfl
  | x :: rs => by
    show (eqD (rowD x) (rowD r) || inL (rowD r) (rs.map rowD)) = _
    rw [eqD_row, inL_row r rs]
    by_cases h : x = r
    · subst h; simp
    · have h' : ¬ r = x := fun e => h e.symm
      rw [decide_eq_false h, Bool.false_or]
      exact decide_eq_decide.mpr (by simp [h'])
theorem m_is_endless_eq (F : List (Row × Option Row)) (hl : F.length ≤ 16777216) (S : List D) : m_is_endless [.lst (F.map famD)] S = some (.bl (decide ((0, 0) ∈ F.map (·.1))), S) := by
  unfold m_is_endless g_is_endless
  refine run_rt (ρ := [.val (.lst (F.map famD)), .non, .non]) rfl (ret_s ?_)
  have hc : compL (.tup [(.nm 1), (.nm 2)]) cYes (eV 1) [.val (.lst (F.map famD)), .non, .non] (F.map famD) S = some (F.map fun f => rowD f.1, S) := by
    refine compL_map famD (fun f => rowD f.1) F fun f hf => ?_
    exact ⟨[(1, rowD f.1), (2, roD f.2)], by unfold famD famK; simp only [ev_C, ev_V, ev_B, ev_aN, ev_aC, ev_Tup, ev_Lst, ev_Bin, ev_Un, ev_UnF, ev_cV, ev_cAnd, ev_cOr, ev_cNot, ev_cYes, ev_And, ev_Or, ev_Not, ev_If, ev_Chain, ev_Call, ev_Ix, ev_Sl, ev_oN, ev_oE, ev_aS, ev_Comp, ev_iAny, ev_iRange1, ev_iRange2, ev_iZip, ev_iEnum, ev_sNil, ev_sSeq, ev_sIf, ev_sRet, ev_sRetO, ev_sRetN, ev_sAsg, ev_sSet, ev_sSetO, ev_sPar, ev_sFor, ev_sWhile, ev_sApp, ev_sIxO, ev_sIxC, ev_sFrz, ev_sExp, ev_sPass, ev_runB, ev_forN, ev_compN, ev_put0, ev_put1, ev_wipe0, ev_wipe1, ev_bnm, ev_btup, ev_bL0, ev_bL1, dv_add, dv_sub, dv_neg, dv_lt, dv_le, dv_gt, dv_ge, dv_int, dv_abs, dv_lenL, dv_lenT, dv_tupL, dv_tupT, dv_lofL, dv_lofT, dv_lofS, dv_seqL, dv_seqT, dv_ixL, dv_ixT, dv_ixO, atI_0, atI_1, atI_2, Option.bind_some, Option.bind_none, List.getElem?_cons_zero, List.getElem?_cons_succ, List.getElem?_nil, List.set_cons_zero, List.set_cons_succ, List.set_nil, List.length_cons, List.length_nil, List.map_cons, List.map_nil, List.replicate_succ, List.replicate_zero, List.cons_append, List.nil_append, Nat.reduceAdd, Nat.reduceSub, Nat.reduceLeDiff, Nat.zero_add, Nat.sub_zero, Nat.add_zero, if_true, if_false, Bool.false_eq_true, Nat.reduceEqDiff, Bool.not_true, Bool.not_false, decide_true, decide_false, ev_nat], rfl⟩
  refine bin_s (d := k_ALL) (S' := S) (d2 := .lst (F.map fun f => rowD f.1)) (S2 := S) rfl (comp_s (ds := F.map famD) (S' := S) ?_ ?_ ?_) ?_
  · simp only [ev_C, ev_V, ev_B, ev_aN, ev_aC, ev_Tup, ev_Lst, ev_Bin, ev_Un, ev_UnF, ev_cV, ev_cAnd, ev_cOr, ev_cNot, ev_cYes, ev_And, ev_Or, ev_Not, ev_If, ev_Chain, ev_Call, ev_Ix, ev_Sl, ev_oN, ev_oE, ev_aS, ev_Comp, ev_iAny, ev_iRange1, ev_iRange2, ev_iZip, ev_iEnum, ev_sNil, ev_sSeq, ev_sIf, ev_sRet, ev_sRetO, ev_sRetN, ev_sAsg, ev_sSet, ev_sSetO, ev_sPar, ev_sFor, ev_sWhile, ev_sApp, ev_sIxO, ev_sIxC, ev_sFrz, ev_sExp, ev_sPass, ev_runB, ev_forN, ev_compN, ev_put0, ev_put1, ev_wipe0, ev_wipe1, ev_bnm, ev_btup, ev_bL0, ev_bL1, dv_add, dv_sub, dv_neg, dv_lt, dv_le, dv_gt, dv_ge, dv_int, dv_abs, dv_lenL, dv_lenT, dv_tupL, dv_tupT, dv_lofL, dv_lofT, dv_lofS, dv_seqL, dv_seqT, dv_ixL, dv_ixT, dv_ixO, atI_0, atI_1, atI_2, Option.bind_some, Option.bind_none, List.getElem?_cons_zero, List.getElem?_cons_succ, List.getElem?_nil, List.set_cons_zero, List.set_cons_succ, List.set_nil, List.length_cons, List.length_nil, List.map_cons, List.map_nil, List.replicate_succ, List.replicate_zero, List.cons_append, List.nil_append, Nat.reduceAdd, Nat.reduceSub, Nat.reduceLeDiff, Nat.zero_add, Nat.sub_zero, Nat.add_zero, if_true, if_false, Bool.false_eq_true, Nat.reduceEqDiff, Bool.not_true, Bool.not_false, decide_true, decide_false, ev_nat]
  · rw [List.length_map]; exact hl
  · exact hc
  have e : (F.map fun f => rowD f.1) = (F.map (·.1)).map rowD := by rw [List.map_map]; rfl
  rw [e]
  have ok : okL 60 ((F.map (·.1)).map rowD) = true := okL_of fun d hd => by
    obtain ⟨r, _, rfl⟩ := List.mem_map.mp hd
    exact okD_row r 58
  show (if (okD 60 k_ALL && okL 60 ((F.map (·.1)).map rowD)) = true then some (inL k_ALL ((F.map (·.1)).map rowD)) else none).bind _ = _
  rw [ok]
  have k : inL k_ALL ((F.map (·.1)).map rowD) = decide ((0, 0) ∈ F.map (·.1)) := inL_row ((0, 0) : Row) (F.map fun (f : Row × Option Row) => f.1)
  rw [k]
  rfl
theorem no_all {F : List (Row × Option Row)} (V : Univ U b c n) (G : FamOk U F) (h : (0, 0) ∉ F.map (·.1)) : ∀ f ∈ F, f.1.1 ≠ 0 := fun f hf z => h (by
  have := (V.gr _ (G.row f hf)).z z
  exact List.mem_map.mpr ⟨f, hf, Prod.ext z this⟩)
theorem m_count_all_ex (V : Univ U b c n) (hb : b ≤ 64) (F : List (Row × Option Row)) (G : FamOk U F) (hl : F.length ≤ 16777216) (S : List D) :
    ((0, 0) ∈ F.map (·.1) ∧ m_count_all [.lst (F.map famD)] S = some (.non, S)) ∨ ((0, 0) ∉ F.map (·.1) ∧ ∃ T, FamT F T ∧ m_count_all [.lst (F.map famD)] S = some (.int (T.length : Nat), S)) := by
  have e0 := m_is_endless_eq F hl S
  have ec : cV (eCall 1 m_is_endless (aC (eV 0) aN)) [.val (.lst (F.map famD)), .non, .non] S = some (decide ((0, 0) ∈ F.map (·.1)), S) := cV_s (call_s (ds := [.lst (F.map famD)]) (S' := S) rfl rfl e0)
  by_cases h : (0, 0) ∈ F.map (·.1)
  · refine .inl ⟨h, ?_⟩
    rw [decide_eq_true h] at ec
    unfold m_count_all g_count_all
    refine run_rt (ρ := [.val (.lst (F.map famD)), .non, .non]) rfl ?_
    exact seq_rt ((if_t ec).trans (ret_s rfl))
  · rw [decide_eq_false h] at ec
    obtain ⟨R, T, er, o, hT, hU, hR⟩ := m_rows_of_ex V F G (no_all V G h) S
    refine .inr ⟨h, T, hT, ?_⟩
    unfold m_count_all g_count_all
    refine run_rt (ρ := [.val (.lst (F.map famD)), .non, .non]) rfl ?_
    refine (seq_nx ((if_f ec).trans rfl)).trans (ret_s ?_)
    have hc : compL (.tup [(.nm 1), (.nm 2)]) cYes (eBin dMul (eIx (eB 1) (eC (.int 0))) (eB 2)) [.val (.lst (F.map famD)), .non, .non] (R.map cntD) S = some (R.map fun p => D.int ((p.1.1 : Int) * p.2), S) := by
      refine compL_map cntD (fun p => D.int ((p.1.1 : Int) * p.2)) R fun p hp => ?_
      refine ⟨[(1, rowD p.1), (2, .int p.2)], by unfold cntD; simp only [ev_C, ev_V, ev_B, ev_aN, ev_aC, ev_Tup, ev_Lst, ev_Bin, ev_Un, ev_UnF, ev_cV, ev_cAnd, ev_cOr, ev_cNot, ev_cYes, ev_And, ev_Or, ev_Not, ev_If, ev_Chain, ev_Call, ev_Ix, ev_Sl, ev_oN, ev_oE, ev_aS, ev_Comp, ev_iAny, ev_iRange1, ev_iRange2, ev_iZip, ev_iEnum, ev_sNil, ev_sSeq, ev_sIf, ev_sRet, ev_sRetO, ev_sRetN, ev_sAsg, ev_sSet, ev_sSetO, ev_sPar, ev_sFor, ev_sWhile, ev_sApp, ev_sIxO, ev_sIxC, ev_sFrz, ev_sExp, ev_sPass, ev_runB, ev_forN, ev_compN, ev_put0, ev_put1, ev_wipe0, ev_wipe1, ev_bnm, ev_btup, ev_bL0, ev_bL1, dv_add, dv_sub, dv_neg, dv_lt, dv_le, dv_gt, dv_ge, dv_int, dv_abs, dv_lenL, dv_lenT, dv_tupL, dv_tupT, dv_lofL, dv_lofT, dv_lofS, dv_seqL, dv_seqT, dv_ixL, dv_ixT, dv_ixO, atI_0, atI_1, atI_2, Option.bind_some, Option.bind_none, List.getElem?_cons_zero, List.getElem?_cons_succ, List.getElem?_nil, List.set_cons_zero, List.set_cons_succ, List.set_nil, List.length_cons, List.length_nil, List.map_cons, List.map_nil, List.replicate_succ, List.replicate_zero, List.cons_append, List.nil_append, Nat.reduceAdd, Nat.reduceSub, Nat.reduceLeDiff, Nat.zero_add, Nat.sub_zero, Nat.add_zero, if_true, if_false, Bool.false_eq_true, Nat.reduceEqDiff, Bool.not_true, Bool.not_false, decide_true, decide_false, ev_nat], ?_⟩
      rw [ev_put1, ev_put1, ev_put0]
      simp only [List.set_cons_succ, List.set_cons_zero]
      have hs : small (p.1.1 : Int) = true := smallN (by
        rw [Int.natAbs_natCast]
        exact Nat.lt_of_lt_of_le (V.gr _ (hU p hp)).n (Nat.pow_le_pow_right (by decide) hb))
      exact bin_s (d := .int (p.1.1 : Int)) (S' := S) (d2 := .int p.2) (S2 := S) (ix_s (d := rowD p.1) (S' := S) (d2 := .int 0) (S2 := S) rfl rfl rfl) rfl (mul_l hs)
    refine un_s (d := .lst (R.map fun p => D.int ((p.1.1 : Int) * p.2))) (S' := S) (comp_s (ds := R.map cntD) (S' := S) ?_ ?_ ?_) (dSum_rows o)
    rotate_right
    · exact hc
    · have : eCall 1 m_rows_of (aC (eV 0) aN) [.val (.lst (F.map famD)), .non, .non] S = some (.lst (R.map cntD), S) := call_s (ds := [.lst (F.map famD)]) (S' := S) rfl rfl er
      rw [ev_iAny, this, Option.bind_some]
      rfl
    · have := V.hn
      rw [List.length_map]; omega
end
theorem den_dvd {x : Rat} {M : Nat} {z : Int} (h : x * ((M : Int) : Rat) = (z : Rat)) : x.den ∣ M := by
  have e := num_div_den x
  have dz : ((x.den : Int) : Rat) ≠ 0 := ne_of_pos_rat (int_pos_rat (den_pos x))
  have e2 : ((x.den : Int) : Rat) = (x.den : Rat) := Rat.intCast_natCast _
  have e3 : ((x.num * (M : Int) : Int) : Rat) = ((z * (x.den : Int) : Int) : Rat) := by
    rw [Rat.intCast_mul, Rat.intCast_mul, ← h]
    have v := Rat.div_mul_cancel (a := (x.num : Rat)) dz
    rw [e2, e] at v
    rw [e2]
    grind
  have e4 : x.num * (M : Int) = z * (x.den : Int) := by exact_mod_cast e3
  have d : (x.den : Int) ∣ x.num * (M : Int) := ⟨z, by rw [e4, Int.mul_comm]⟩
  have d2 : x.den ∣ x.num.natAbs * M := by
    have := Int.natAbs_dvd_natAbs.mpr d
    rwa [Int.natAbs_natCast, Int.natAbs_mul, Int.natAbs_natCast] at this
  exact Nat.Coprime.dvd_of_dvd_mul_left x.reduced.symm d2
theorem row_den {r : Row} {x : Rat} (h : hasR r x) : x.den ∣ r.1 * r.2.den := by
  obtain ⟨k, hk⟩ := h
  have e := num_div_den r.2
  have dz : ((r.2.den : Int) : Rat) ≠ 0 := ne_of_pos_rat (int_pos_rat (den_pos r.2))
  have e2 : ((r.2.den : Int) : Rat) = (r.2.den : Rat) := Rat.intCast_natCast _
  refine den_dvd (z := r.2.num + k * (r.2.den : Int)) ?_
  rw [Int.natCast_mul, Rat.intCast_mul, Rat.intCast_add, Rat.intCast_mul]
  have v := Rat.div_mul_cancel (a := (r.2.num : Rat)) dz
  rw [e2, e] at v
  rw [← e2] at v
  have : x * (((r.1 : Int) : Rat) * ((r.2.den : Int) : Rat)) = (x * ((r.1 : Int) : Rat)) * ((r.2.den : Int) : Rat) := by grind
  rw [this, hk]
  grind
theorem Once.some_row {R : List (Row × Int)} {T : List Rat} (o : Once R T) {x : Rat} (h : x ∈ T) : ∃ p ∈ R, hasR p.1 x := by
  apply Classical.byContradiction
  intro no
  have tr := o.mem x h
  have w1 := o.one x tr.1 tr.2
  rw [oneIf_t h] at w1
  have w0 : ∀ R' : List (Row × Int), (∀ p ∈ R', p ∈ R) → W R' x = 0 := by
    intro R' hs
    induction R' with
    | nil => rfl
    | cons p R' ih =>
      rw [W_cons, ih fun q hq => hs q (List.mem_cons_of_mem _ hq), oneIf_f fun z => no ⟨p, hs p List.mem_cons_self, z⟩]
      omega
  rw [w0 R fun p hp => hp] at w1
  exact absurd w1 (by decide)
def btmF (l : Nat) (p : Row × Int) : Nat := Nat.lcm l (p.1.1 * p.1.2.den)
theorem btm_dvd : ∀ (R : List (Row × Int)) (l : Nat), l ∣ R.foldl btmF l ∧ ∀ p ∈ R, p.1.1 * p.1.2.den ∣ R.foldl btmF l
  | [], l => ⟨Nat.dvd_refl _, fun _ h => nomatch h⟩
  | p :: R, l => by
    obtain ⟨h1, h2⟩ := btm_dvd R (btmF l p)
    refine ⟨Nat.dvd_trans (Nat.dvd_lcm_left _ _) h1, fun q hq => ?_⟩
    rcases List.mem_cons.mp hq with rfl | hq
    · exact Nat.dvd_trans (Nat.dvd_lcm_right _ _) h1
    · exact h2 q hq
theorem btm_in {N : Nat} : ∀ (R : List (Row × Int)) (l : Nat), l ∣ N → (∀ p ∈ R, p.1.1 * p.1.2.den ∣ N) → R.foldl btmF l ∣ N
  | [], l, h, _ => h
  | p :: R, l, h, hR => btm_in R (btmF l p) (Nat.lcm_dvd h (hR p List.mem_cons_self)) fun q hq => hR q (List.mem_cons_of_mem _ hq)
def taFor : Sv := (sSet 3 (eBin dMul (eBin dMul (eBin dDiv (eB 3) (eCall 2 m_divisor (aC (eV 3) (aC (eBin dMul (eB 4) (eB 6)) aN)))) (eB 4)) (eB 6)))
def taTest : Et := (cV (eBin dLt (eB 8) (eB 9)))
def taBody : Sv := (sSeq (sSet 10 (eBin dDiv (eBin dAdd (eB 8) (eB 9)) (eC (.int 2)))) (sIf (cV (eBin dGt (eCall 3 m_count_until (aC (eV 2) (aC (eTup (aC (eV 10) (aC (eV 3) aN))) (aC (eC (.bl true)) aN)))) (eB 1))) (sSet 9 (eV 10)) (sSet 8 (eBin dAdd (eB 10) (eC (.int 1))))))
theorem g_time_at_is : g_time_at = (sSeq (sSet 2 (eCall 1 m_rows_of (aC (eV 0) aN))) (sSeq (sIf (cV (eBin dGe (eB 1) (eUn dSum (eComp (.tup [(.nm 11), (.nm 4)]) (iAny (eV 2)) cYes (eBin dMul (eIx (eB 11) (eC (.int 0))) (eB 4)) [11, 4])))) (sRet (eC .non)) sNil) (sSeq (sSet 3 (eC (.int 1))) (sSeq (sFor (.tup [(.tup [(.nm 4), (.tup [(.nm 5), (.nm 6)])]), (.nm 7)]) (iAny (eV 2)) taFor) (sSeq (sPar 8 9 (eC (.int 0)) (eBin dSub (eB 3) (eC (.int 1)))) (sSeq (sWhile (fun ρ => natGap 8 9 ρ + 1) taTest taBody) (sRet (eCall 2 m_part (aC (eV 8) (aC (eV 3) aN)))))))))) := rfl
theorem ta_for {N : Nat} (N0 : 0 < N) (hN : N < 2 ^ 7000) (s0 s1 s2 s8 s9 s10 s11 : Slot) (S : List D) : ∀ (R : List (Row × Int)) (l : Nat) (s4 s5 s6 s7 : Slot), (∀ p ∈ R, SmallR p.1 ∧ p.1.1 * p.1.2.den ∣ N) → l ∣ N →
    ∃ s4' s5' s6' s7', forL (.tup [(.tup [(.nm 4), (.tup [(.nm 5), (.nm 6)])]), (.nm 7)]) taFor (R.map cntD) [s0, s1, s2, .val (.int (l : Nat)), s4, s5, s6, s7, s8, s9, s10, s11] S = some (.nx [s0, s1, s2, .val (.int ((R.foldl btmF l : Nat) : Int)), s4', s5', s6', s7', s8, s9, s10, s11] S)
  | [], l, s4, s5, s6, s7, _, _ => ⟨s4, s5, s6, s7, rfl⟩
  | p :: R, l, s4, s5, s6, s7, h, hl => by
    obtain ⟨sm, dv⟩ := h p List.mem_cons_self
    obtain ⟨s4', s5', s6', s7', e⟩ := ta_for N0 hN s0 s1 s2 s8 s9 s10 s11 S R (btmF l p) (.val (.int (p.1.1 : Int))) (.val (.int p.1.2.num)) (.val (.int (p.1.2.den : Int))) (.val (.int p.2)) (fun q hq => h q (List.mem_cons_of_mem _ hq)) (Nat.lcm_dvd hl dv)
    refine ⟨s4', s5', s6', s7', ?_⟩
    have l0 : 0 < l := Nat.pos_of_ne_zero fun z => by subst z; rw [Nat.zero_dvd] at hl; omega
    have hX : N < 2 ^ 8000 := Nat.lt_of_lt_of_le hN (Nat.pow_le_pow_right (by decide) (by decide))
    have lN : l ≤ N := Nat.le_of_dvd N0 hl
    have gp : 0 < Nat.gcd l (p.1.1 * p.1.2.den) := Nat.gcd_pos_of_pos_left _ l0
    have gl : Nat.gcd l (p.1.1 * p.1.2.den) ≤ N := Nat.le_trans (Nat.le_of_dvd l0 (Nat.gcd_dvd_left _ _)) lN
    have sn : small (p.1.1 : Int) = true := smallN (by rw [Int.natAbs_natCast]; exact sm.b)
    have sd : small (p.1.2.den : Int) = true := smallN (by rw [Int.natAbs_natCast]; exact sm.p.den)
    have m1 : dMul (.int (p.1.1 : Int)) (.int (p.1.2.den : Int)) = some (.int ((p.1.1 * p.1.2.den : Nat) : Int)) := by rw [mul_l sn, Int.natCast_mul]
    have hg := m_divisor_eq (l : Int) ((p.1.1 * p.1.2.den : Nat) : Int) S
    rw [Int.gcd_natCast_natCast] at hg
    have hd : dDiv (.int (l : Int)) (.int ((Nat.gcd l (p.1.1 * p.1.2.den) : Nat) : Int)) = some (.int ((l / Nat.gcd l (p.1.1 * p.1.2.den) : Nat) : Int)) := by rw [dv_div _ _ (by omega) (wide_nat hX gl), Int.natCast_ediv]
    have m2 := mul_r (a := ((l / Nat.gcd l (p.1.1 * p.1.2.den) : Nat) : Int)) sn
    have m3 : dMul (.int (((l / Nat.gcd l (p.1.1 * p.1.2.den) : Nat) : Int) * (p.1.1 : Int))) (.int (p.1.2.den : Int)) = some (.int ((btmF l p : Nat) : Int)) := by
      rw [mul_r sd, ← Int.natCast_mul, ← Int.natCast_mul, Nat.mul_assoc, lcm_div]; rfl
    have eb : binds (.tup [(.tup [(.nm 4), (.tup [(.nm 5), (.nm 6)])]), (.nm 7)]) (cntD p) = some [(4, .int (p.1.1 : Int)), (5, .int p.1.2.num), (6, .int (p.1.2.den : Int)), (7, .int p.2)] := by unfold cntD rowD dR; simp only [ev_C, ev_V, ev_B, ev_aN, ev_aC, ev_Tup, ev_Lst, ev_Bin, ev_Un, ev_UnF, ev_cV, ev_cAnd, ev_cOr, ev_cNot, ev_cYes, ev_And, ev_Or, ev_Not, ev_If, ev_Chain, ev_Call, ev_Ix, ev_Sl, ev_oN, ev_oE, ev_aS, ev_Comp, ev_iAny, ev_iRange1, ev_iRange2, ev_iZip, ev_iEnum, ev_sNil, ev_sSeq, ev_sIf, ev_sRet, ev_sRetO, ev_sRetN, ev_sAsg, ev_sSet, ev_sSetO, ev_sPar, ev_sFor, ev_sWhile, ev_sApp, ev_sIxO, ev_sIxC, ev_sFrz, ev_sExp, ev_sPass, ev_runB, ev_forN, ev_compN, ev_put0, ev_put1, ev_wipe0, ev_wipe1, ev_bnm, ev_btup, ev_bL0, ev_bL1, dv_add, dv_sub, dv_neg, dv_lt, dv_le, dv_gt, dv_ge, dv_int, dv_abs, dv_lenL, dv_lenT, dv_tupL, dv_tupT, dv_lofL, dv_lofT, dv_lofS, dv_seqL, dv_seqT, dv_ixL, dv_ixT, dv_ixO, atI_0, atI_1, atI_2, Option.bind_some, Option.bind_none, List.getElem?_cons_zero, List.getElem?_cons_succ, List.getElem?_nil, List.set_cons_zero, List.set_cons_succ, List.set_nil, List.length_cons, List.length_nil, List.map_cons, List.map_nil, List.replicate_succ, List.replicate_zero, List.cons_append, List.nil_append, Nat.reduceAdd, Nat.reduceSub, Nat.reduceLeDiff, Nat.zero_add, Nat.sub_zero, Nat.add_zero, if_true, if_false, Bool.false_eq_true, Nat.reduceEqDiff, Bool.not_true, Bool.not_false, decide_true, decide_false, ev_nat]
    rw [List.map_cons, ev_forC, eb, Option.bind_some, ev_put1, ev_put1, ev_put1, ev_put1, ev_put0]
    simp only [List.set_cons_succ, List.set_cons_zero]
    have st : taFor [s0, s1, s2, .val (.int (l : Nat)), .val (.int (p.1.1 : Int)), .val (.int p.1.2.num), .val (.int (p.1.2.den : Int)), .val (.int p.2), s8, s9, s10, s11] S = some (.nx [s0, s1, s2, .val (.int ((btmF l p : Nat) : Int)), .val (.int (p.1.1 : Int)), .val (.int p.1.2.num), .val (.int (p.1.2.den : Int)), .val (.int p.2), s8, s9, s10, s11] S) := by
      unfold taFor
      simp only [ev_C, ev_V, ev_B, ev_aN, ev_aC, ev_Tup, ev_Lst, ev_Bin, ev_Un, ev_UnF, ev_cV, ev_cAnd, ev_cOr, ev_cNot, ev_cYes, ev_And, ev_Or, ev_Not, ev_If, ev_Chain, ev_Call, ev_Ix, ev_Sl, ev_oN, ev_oE, ev_aS, ev_Comp, ev_iAny, ev_iRange1, ev_iRange2, ev_iZip, ev_iEnum, ev_sNil, ev_sSeq, ev_sIf, ev_sRet, ev_sRetO, ev_sRetN, ev_sAsg, ev_sSet, ev_sSetO, ev_sPar, ev_sFor, ev_sWhile, ev_sApp, ev_sIxO, ev_sIxC, ev_sFrz, ev_sExp, ev_sPass, ev_runB, ev_forN, ev_compN, ev_put0, ev_put1, ev_wipe0, ev_wipe1, ev_bnm, ev_btup, ev_bL0, ev_bL1, dv_add, dv_sub, dv_neg, dv_lt, dv_le, dv_gt, dv_ge, dv_int, dv_abs, dv_lenL, dv_lenT, dv_tupL, dv_tupT, dv_lofL, dv_lofT, dv_lofS, dv_seqL, dv_seqT, dv_ixL, dv_ixT, dv_ixO, atI_0, atI_1, atI_2, Option.bind_some, Option.bind_none, List.getElem?_cons_zero, List.getElem?_cons_succ, List.getElem?_nil, List.set_cons_zero, List.set_cons_succ, List.set_nil, List.length_cons, List.length_nil, List.map_cons, List.map_nil, List.replicate_succ, List.replicate_zero, List.cons_append, List.nil_append, Nat.reduceAdd, Nat.reduceSub, Nat.reduceLeDiff, Nat.zero_add, Nat.sub_zero, Nat.add_zero, if_true, if_false, Bool.false_eq_true, Nat.reduceEqDiff, Bool.not_true, Bool.not_false, decide_true, decide_false, ev_nat, m1, hg, hd, m2, m3]
    rw [st, Option.bind_some]
    exact e
theorem ta_while {R : List (Row × Int)} {T : List Rat} (o : Once R T) (h : ∀ p ∈ R, SmallR p.1) (hl : R.length ≤ 16777216) {B : Nat} (B0 : 0 < B) (hB : B < 2 ^ 7000) {i : Nat} {x : Rat} (hx : T[i]? = some x) {X : Int} (eX : (X : Rat) / ((B : Int) : Rat) = x)
    (s0 s4 s5 s6 s7 s11 : Slot) (S : List D) : ∀ (k : Nat) (low high : Int) (s10 : Slot), (high - low).toNat < k → 0 ≤ low → low ≤ X → X ≤ high → high < (B : Int) →
    ∃ s10', whileN taTest taBody k [s0, .val (.int (i : Nat)), .val (.lst (R.map cntD)), .val (.int (B : Nat)), s4, s5, s6, s7, .val (.int low), .val (.int high), s10, s11] S = some (.nx [s0, .val (.int (i : Nat)), .val (.lst (R.map cntD)), .val (.int (B : Nat)), s4, s5, s6, s7, .val (.int X), .val (.int X), s10', s11] S)
  | 0, low, high, s10, hk, _, _, _, _ => absurd hk (Nat.not_lt_zero _)
  | k + 1, low, high, s10, hk, h0, h1, h2, h3 => by
    have et : taTest [s0, .val (.int (i : Nat)), .val (.lst (R.map cntD)), .val (.int (B : Nat)), s4, s5, s6, s7, .val (.int low), .val (.int high), s10, s11] S = some (decide (low < high), S) := by
      unfold taTest
      simp only [ev_C, ev_V, ev_B, ev_aN, ev_aC, ev_Tup, ev_Lst, ev_Bin, ev_Un, ev_UnF, ev_cV, ev_cAnd, ev_cOr, ev_cNot, ev_cYes, ev_And, ev_Or, ev_Not, ev_If, ev_Chain, ev_Call, ev_Ix, ev_Sl, ev_oN, ev_oE, ev_aS, ev_Comp, ev_iAny, ev_iRange1, ev_iRange2, ev_iZip, ev_iEnum, ev_sNil, ev_sSeq, ev_sIf, ev_sRet, ev_sRetO, ev_sRetN, ev_sAsg, ev_sSet, ev_sSetO, ev_sPar, ev_sFor, ev_sWhile, ev_sApp, ev_sIxO, ev_sIxC, ev_sFrz, ev_sExp, ev_sPass, ev_runB, ev_forN, ev_compN, ev_put0, ev_put1, ev_wipe0, ev_wipe1, ev_bnm, ev_btup, ev_bL0, ev_bL1, dv_add, dv_sub, dv_neg, dv_lt, dv_le, dv_gt, dv_ge, dv_int, dv_abs, dv_lenL, dv_lenT, dv_tupL, dv_tupT, dv_lofL, dv_lofT, dv_lofS, dv_seqL, dv_seqT, dv_ixL, dv_ixT, dv_ixO, atI_0, atI_1, atI_2, Option.bind_some, Option.bind_none, List.getElem?_cons_zero, List.getElem?_cons_succ, List.getElem?_nil, List.set_cons_zero, List.set_cons_succ, List.set_nil, List.length_cons, List.length_nil, List.map_cons, List.map_nil, List.replicate_succ, List.replicate_zero, List.cons_append, List.nil_append, Nat.reduceAdd, Nat.reduceSub, Nat.reduceLeDiff, Nat.zero_add, Nat.sub_zero, Nat.add_zero, if_true, if_false, Bool.false_eq_true, Nat.reduceEqDiff, Bool.not_true, Bool.not_false, decide_true, decide_false, ev_nat]
    rw [ev_while, et, Option.bind_some]
    by_cases hlt : low < high
    · rw [decide_eq_true hlt, if_pos rfl]
      have hm := dv_div (low + high) 2 (by decide) (by decide)
      have e10 : eBin dDiv (eBin dAdd (eB 8) (eB 9)) (eC (.int 2)) [s0, .val (.int (i : Nat)), .val (.lst (R.map cntD)), .val (.int (B : Nat)), s4, s5, s6, s7, .val (.int low), .val (.int high), s10, s11] S = some (.int ((low + high) / 2), S) := by
        simp only [ev_C, ev_V, ev_B, ev_aN, ev_aC, ev_Tup, ev_Lst, ev_Bin, ev_Un, ev_UnF, ev_cV, ev_cAnd, ev_cOr, ev_cNot, ev_cYes, ev_And, ev_Or, ev_Not, ev_If, ev_Chain, ev_Call, ev_Ix, ev_Sl, ev_oN, ev_oE, ev_aS, ev_Comp, ev_iAny, ev_iRange1, ev_iRange2, ev_iZip, ev_iEnum, ev_sNil, ev_sSeq, ev_sIf, ev_sRet, ev_sRetO, ev_sRetN, ev_sAsg, ev_sSet, ev_sSetO, ev_sPar, ev_sFor, ev_sWhile, ev_sApp, ev_sIxO, ev_sIxC, ev_sFrz, ev_sExp, ev_sPass, ev_runB, ev_forN, ev_compN, ev_put0, ev_put1, ev_wipe0, ev_wipe1, ev_bnm, ev_btup, ev_bL0, ev_bL1, dv_add, dv_sub, dv_neg, dv_lt, dv_le, dv_gt, dv_ge, dv_int, dv_abs, dv_lenL, dv_lenT, dv_tupL, dv_tupT, dv_lofL, dv_lofT, dv_lofS, dv_seqL, dv_seqT, dv_ixL, dv_ixT, dv_ixO, atI_0, atI_1, atI_2, Option.bind_some, Option.bind_none, List.getElem?_cons_zero, List.getElem?_cons_succ, List.getElem?_nil, List.set_cons_zero, List.set_cons_succ, List.set_nil, List.length_cons, List.length_nil, List.map_cons, List.map_nil, List.replicate_succ, List.replicate_zero, List.cons_append, List.nil_append, Nat.reduceAdd, Nat.reduceSub, Nat.reduceLeDiff, Nat.zero_add, Nat.sub_zero, Nat.add_zero, if_true, if_false, Bool.false_eq_true, Nat.reduceEqDiff, Bool.not_true, Bool.not_false, decide_true, decide_false, ev_nat, hm]
      have b1 := Int.le_ediv_of_mul_le (show (0 : Int) < 2 by decide) (show low * 2 ≤ low + high by omega)
      have b2 := Int.ediv_lt_of_lt_mul (show (0 : Int) < 2 by decide) (show low + high < high * 2 by omega)
      generalize (low + high) / 2 = mid at *
      have cu := m_count_until_eq o h hl (a := mid) (d := (B : Int)) (by omega) (by rw [Int.natAbs_natCast]; exact Nat.lt_of_lt_of_le hB (Nat.pow_le_pow_right (by decide) (by decide))) true S
      simp only [if_true] at cu
      have ec : eCall 3 m_count_until (aC (eV 2) (aC (eTup (aC (eV 10) (aC (eV 3) aN))) (aC (eC (.bl true)) aN))) [s0, .val (.int (i : Nat)), .val (.lst (R.map cntD)), .val (.int (B : Nat)), s4, s5, s6, s7, .val (.int low), .val (.int high), .val (.int mid), s11] S = some (.int (cnt T fun t => t ≤ (mid : Rat) / ((B : Int) : Rat)), S) :=
        call_s (ds := [.lst (R.map cntD), twoD mid (B : Int), .bl true]) (S' := S) (by simp only [ev_C, ev_V, ev_B, ev_aN, ev_aC, ev_Tup, ev_Lst, ev_Bin, ev_Un, ev_UnF, ev_cV, ev_cAnd, ev_cOr, ev_cNot, ev_cYes, ev_And, ev_Or, ev_Not, ev_If, ev_Chain, ev_Call, ev_Ix, ev_Sl, ev_oN, ev_oE, ev_aS, ev_Comp, ev_iAny, ev_iRange1, ev_iRange2, ev_iZip, ev_iEnum, ev_sNil, ev_sSeq, ev_sIf, ev_sRet, ev_sRetO, ev_sRetN, ev_sAsg, ev_sSet, ev_sSetO, ev_sPar, ev_sFor, ev_sWhile, ev_sApp, ev_sIxO, ev_sIxC, ev_sFrz, ev_sExp, ev_sPass, ev_runB, ev_forN, ev_compN, ev_put0, ev_put1, ev_wipe0, ev_wipe1, ev_bnm, ev_btup, ev_bL0, ev_bL1, dv_add, dv_sub, dv_neg, dv_lt, dv_le, dv_gt, dv_ge, dv_int, dv_abs, dv_lenL, dv_lenT, dv_tupL, dv_tupT, dv_lofL, dv_lofT, dv_lofS, dv_seqL, dv_seqT, dv_ixL, dv_ixT, dv_ixO, atI_0, atI_1, atI_2, Option.bind_some, Option.bind_none, List.getElem?_cons_zero, List.getElem?_cons_succ, List.getElem?_nil, List.set_cons_zero, List.set_cons_succ, List.set_nil, List.length_cons, List.length_nil, List.map_cons, List.map_nil, List.replicate_succ, List.replicate_zero, List.cons_append, List.nil_append, Nat.reduceAdd, Nat.reduceSub, Nat.reduceLeDiff, Nat.zero_add, Nat.sub_zero, Nat.add_zero, if_true, if_false, Bool.false_eq_true, Nat.reduceEqDiff, Bool.not_true, Bool.not_false, decide_true, decide_false, ev_nat, twoD]) rfl cu
      have key : ((i : Nat) : Int) < cnt T (fun t => t ≤ (mid : Rat) / ((B : Int) : Rat)) ↔ X ≤ mid := by
        rw [asc_at o.asc hx, ← eX]
        have bp : (0 : Rat) < ((B : Int) : Rat) := int_pos_rat (by omega)
        constructor
        · intro w
          have := Rat.mul_le_mul_of_nonneg_right w (Rat.le_of_lt bp)
          rw [Rat.div_mul_cancel (ne_of_pos_rat bp), Rat.div_mul_cancel (ne_of_pos_rat bp), Rat.intCast_le_intCast] at this
          exact this
        · intro w
          rw [Rat.div_def, Rat.div_def]
          exact Rat.mul_le_mul_of_nonneg_right (Rat.intCast_le_intCast.mpr w) (Rat.le_of_lt (Rat.inv_pos.mpr bp))
      have e1 : eB 1 [s0, .val (.int (i : Nat)), .val (.lst (R.map cntD)), .val (.int (B : Nat)), s4, s5, s6, s7, .val (.int low), .val (.int high), .val (.int mid), s11] S = some (.int ((i : Nat) : Int), S) := by simp only [ev_C, ev_V, ev_B, ev_aN, ev_aC, ev_Tup, ev_Lst, ev_Bin, ev_Un, ev_UnF, ev_cV, ev_cAnd, ev_cOr, ev_cNot, ev_cYes, ev_And, ev_Or, ev_Not, ev_If, ev_Chain, ev_Call, ev_Ix, ev_Sl, ev_oN, ev_oE, ev_aS, ev_Comp, ev_iAny, ev_iRange1, ev_iRange2, ev_iZip, ev_iEnum, ev_sNil, ev_sSeq, ev_sIf, ev_sRet, ev_sRetO, ev_sRetN, ev_sAsg, ev_sSet, ev_sSetO, ev_sPar, ev_sFor, ev_sWhile, ev_sApp, ev_sIxO, ev_sIxC, ev_sFrz, ev_sExp, ev_sPass, ev_runB, ev_forN, ev_compN, ev_put0, ev_put1, ev_wipe0, ev_wipe1, ev_bnm, ev_btup, ev_bL0, ev_bL1, dv_add, dv_sub, dv_neg, dv_lt, dv_le, dv_gt, dv_ge, dv_int, dv_abs, dv_lenL, dv_lenT, dv_tupL, dv_tupT, dv_lofL, dv_lofT, dv_lofS, dv_seqL, dv_seqT, dv_ixL, dv_ixT, dv_ixO, atI_0, atI_1, atI_2, Option.bind_some, Option.bind_none, List.getElem?_cons_zero, List.getElem?_cons_succ, List.getElem?_nil, List.set_cons_zero, List.set_cons_succ, List.set_nil, List.length_cons, List.length_nil, List.map_cons, List.map_nil, List.replicate_succ, List.replicate_zero, List.cons_append, List.nil_append, Nat.reduceAdd, Nat.reduceSub, Nat.reduceLeDiff, Nat.zero_add, Nat.sub_zero, Nat.add_zero, if_true, if_false, Bool.false_eq_true, Nat.reduceEqDiff, Bool.not_true, Bool.not_false, decide_true, decide_false, ev_nat]
      have et2 : cV (eBin dGt (eCall 3 m_count_until (aC (eV 2) (aC (eTup (aC (eV 10) (aC (eV 3) aN))) (aC (eC (.bl true)) aN)))) (eB 1)) [s0, .val (.int (i : Nat)), .val (.lst (R.map cntD)), .val (.int (B : Nat)), s4, s5, s6, s7, .val (.int low), .val (.int high), .val (.int mid), s11] S = some (decide (X ≤ mid), S) := by
        refine cV_s (bin_s ec e1 ?_)
        rw [dv_gt]
        congr 2
        exact decide_eq_decide.mpr key
      by_cases hX : X ≤ mid
      · obtain ⟨s10', q⟩ := ta_while o h hl B0 hB hx eX s0 s4 s5 s6 s7 s11 S k low mid (.val (.int mid)) (by omega) h0 h1 hX (by omega)
        refine ⟨s10', ?_⟩
        rw [decide_eq_true hX] at et2
        have st : taBody [s0, .val (.int (i : Nat)), .val (.lst (R.map cntD)), .val (.int (B : Nat)), s4, s5, s6, s7, .val (.int low), .val (.int high), s10, s11] S = some (.nx [s0, .val (.int (i : Nat)), .val (.lst (R.map cntD)), .val (.int (B : Nat)), s4, s5, s6, s7, .val (.int low), .val (.int mid), .val (.int mid), s11] S) := by
          unfold taBody
          refine (seq_nx (set_s e10)).trans ?_
          simp only [List.set_cons_succ, List.set_cons_zero]
          exact (if_t et2).trans rfl
        rw [st, Option.bind_some]
        exact q
      · obtain ⟨s10', q⟩ := ta_while o h hl B0 hB hx eX s0 s4 s5 s6 s7 s11 S k (mid + 1) high (.val (.int mid)) (by omega) (by omega) (by omega) h2 h3
        refine ⟨s10', ?_⟩
        rw [decide_eq_false hX] at et2
        have st : taBody [s0, .val (.int (i : Nat)), .val (.lst (R.map cntD)), .val (.int (B : Nat)), s4, s5, s6, s7, .val (.int low), .val (.int high), s10, s11] S = some (.nx [s0, .val (.int (i : Nat)), .val (.lst (R.map cntD)), .val (.int (B : Nat)), s4, s5, s6, s7, .val (.int (mid + 1)), .val (.int high), .val (.int mid), s11] S) := by
          unfold taBody
          refine (seq_nx (set_s e10)).trans ?_
          simp only [List.set_cons_succ, List.set_cons_zero]
          exact (if_f et2).trans rfl
        rw [st, Option.bind_some]
        exact q
    · rw [decide_eq_false hlt, if_neg Bool.false_ne_true]
      have a : low = X := by omega
      have b : high = X := by omega
      subst a
      subst b
      exact ⟨s10, rfl⟩
def oR : Option Rat → D
  | none => .non
  | some x => dR x
section
variable {U : Row → Prop} {b c n : Nat}
theorem m_time_at_rows {R : List (Row × Int)} {T : List Rat} (o : Once R T) (h : ∀ p ∈ R, SmallR p.1) (hl : R.length ≤ 16777216) {N : Nat} (N0 : 0 < N) (hN : N < 2 ^ 7000) (hd : ∀ p ∈ R, p.1.1 * p.1.2.den ∣ N) (F : D) (S : List D) (hF : m_rows_of [F] S = some (.lst (R.map cntD), S)) (i : Nat) :
    m_time_at [F, .int (i : Nat)] S = some (oR T[i]?, S) := by
  unfold m_time_at
  rw [g_time_at_is]
  refine run_rt (ρ := [.val F, .val (.int (i : Nat)), .non, .non, .non, .non, .non, .non, .non, .non, .non, .non]) rfl ?_
  have er : eCall 1 m_rows_of (aC (eV 0) aN) [.val F, .val (.int (i : Nat)), .non, .non, .non, .non, .non, .non, .non, .non, .non, .non] S = some (.lst (R.map cntD), S) := call_s (ds := [F]) (S' := S) (by simp only [ev_C, ev_V, ev_B, ev_aN, ev_aC, ev_Tup, ev_Lst, ev_Bin, ev_Un, ev_UnF, ev_cV, ev_cAnd, ev_cOr, ev_cNot, ev_cYes, ev_And, ev_Or, ev_Not, ev_If, ev_Chain, ev_Call, ev_Ix, ev_Sl, ev_oN, ev_oE, ev_aS, ev_Comp, ev_iAny, ev_iRange1, ev_iRange2, ev_iZip, ev_iEnum, ev_sNil, ev_sSeq, ev_sIf, ev_sRet, ev_sRetO, ev_sRetN, ev_sAsg, ev_sSet, ev_sSetO, ev_sPar, ev_sFor, ev_sWhile, ev_sApp, ev_sIxO, ev_sIxC, ev_sFrz, ev_sExp, ev_sPass, ev_runB, ev_forN, ev_compN, ev_put0, ev_put1, ev_wipe0, ev_wipe1, ev_bnm, ev_btup, ev_bL0, ev_bL1, dv_add, dv_sub, dv_neg, dv_lt, dv_le, dv_gt, dv_ge, dv_int, dv_abs, dv_lenL, dv_lenT, dv_tupL, dv_tupT, dv_lofL, dv_lofT, dv_lofS, dv_seqL, dv_seqT, dv_ixL, dv_ixT, dv_ixO, atI_0, atI_1, atI_2, Option.bind_some, Option.bind_none, List.getElem?_cons_zero, List.getElem?_cons_succ, List.getElem?_nil, List.set_cons_zero, List.set_cons_succ, List.set_nil, List.length_cons, List.length_nil, List.map_cons, List.map_nil, List.replicate_succ, List.replicate_zero, List.cons_append, List.nil_append, Nat.reduceAdd, Nat.reduceSub, Nat.reduceLeDiff, Nat.zero_add, Nat.sub_zero, Nat.add_zero, if_true, if_false, Bool.false_eq_true, Nat.reduceEqDiff, Bool.not_true, Bool.not_false, decide_true, decide_false, ev_nat]) rfl hF
  refine (seq_nx (set_s er)).trans ?_
  simp only [List.set_cons_succ, List.set_cons_zero]
  have es : eUn dSum (eComp (.tup [(.nm 11), (.nm 4)]) (iAny (eV 2)) cYes (eBin dMul (eIx (eB 11) (eC (.int 0))) (eB 4)) [11, 4]) [.val F, .val (.int (i : Nat)), .val (.lst (R.map cntD)), .non, .non, .non, .non, .non, .non, .non, .non, .non] S = some (.int (T.length : Nat), S) := by
    have hc : compL (.tup [(.nm 11), (.nm 4)]) cYes (eBin dMul (eIx (eB 11) (eC (.int 0))) (eB 4)) [.val F, .val (.int (i : Nat)), .val (.lst (R.map cntD)), .non, .non, .non, .non, .non, .non, .non, .non, .non] (R.map cntD) S = some (R.map fun p => D.int ((p.1.1 : Int) * p.2), S) := by
      refine compL_map cntD (fun p => D.int ((p.1.1 : Int) * p.2)) R fun p hp => ?_
      refine ⟨[(11, rowD p.1), (4, .int p.2)], by unfold cntD; simp only [ev_C, ev_V, ev_B, ev_aN, ev_aC, ev_Tup, ev_Lst, ev_Bin, ev_Un, ev_UnF, ev_cV, ev_cAnd, ev_cOr, ev_cNot, ev_cYes, ev_And, ev_Or, ev_Not, ev_If, ev_Chain, ev_Call, ev_Ix, ev_Sl, ev_oN, ev_oE, ev_aS, ev_Comp, ev_iAny, ev_iRange1, ev_iRange2, ev_iZip, ev_iEnum, ev_sNil, ev_sSeq, ev_sIf, ev_sRet, ev_sRetO, ev_sRetN, ev_sAsg, ev_sSet, ev_sSetO, ev_sPar, ev_sFor, ev_sWhile, ev_sApp, ev_sIxO, ev_sIxC, ev_sFrz, ev_sExp, ev_sPass, ev_runB, ev_forN, ev_compN, ev_put0, ev_put1, ev_wipe0, ev_wipe1, ev_bnm, ev_btup, ev_bL0, ev_bL1, dv_add, dv_sub, dv_neg, dv_lt, dv_le, dv_gt, dv_ge, dv_int, dv_abs, dv_lenL, dv_lenT, dv_tupL, dv_tupT, dv_lofL, dv_lofT, dv_lofS, dv_seqL, dv_seqT, dv_ixL, dv_ixT, dv_ixO, atI_0, atI_1, atI_2, Option.bind_some, Option.bind_none, List.getElem?_cons_zero, List.getElem?_cons_succ, List.getElem?_nil, List.set_cons_zero, List.set_cons_succ, List.set_nil, List.length_cons, List.length_nil, List.map_cons, List.map_nil, List.replicate_succ, List.replicate_zero, List.cons_append, List.nil_append, Nat.reduceAdd, Nat.reduceSub, Nat.reduceLeDiff, Nat.zero_add, Nat.sub_zero, Nat.add_zero, if_true, if_false, Bool.false_eq_true, Nat.reduceEqDiff, Bool.not_true, Bool.not_false, decide_true, decide_false, ev_nat], ?_⟩
      rw [ev_put1, ev_put1, ev_put0]
      simp only [List.set_cons_succ, List.set_cons_zero]
      have hs : small (p.1.1 : Int) = true := smallN (by rw [Int.natAbs_natCast]; exact (h p hp).b)
      exact bin_s (d := .int (p.1.1 : Int)) (S' := S) (d2 := .int p.2) (S2 := S) (ix_s (d := rowD p.1) (S' := S) (d2 := .int 0) (S2 := S) rfl rfl rfl) rfl (mul_l hs)
    refine un_s (d := .lst (R.map fun p => D.int ((p.1.1 : Int) * p.2))) (S' := S) (comp_s (ds := R.map cntD) (S' := S) ?_ ?_ ?_) (dSum_rows o)
    · simp only [ev_C, ev_V, ev_B, ev_aN, ev_aC, ev_Tup, ev_Lst, ev_Bin, ev_Un, ev_UnF, ev_cV, ev_cAnd, ev_cOr, ev_cNot, ev_cYes, ev_And, ev_Or, ev_Not, ev_If, ev_Chain, ev_Call, ev_Ix, ev_Sl, ev_oN, ev_oE, ev_aS, ev_Comp, ev_iAny, ev_iRange1, ev_iRange2, ev_iZip, ev_iEnum, ev_sNil, ev_sSeq, ev_sIf, ev_sRet, ev_sRetO, ev_sRetN, ev_sAsg, ev_sSet, ev_sSetO, ev_sPar, ev_sFor, ev_sWhile, ev_sApp, ev_sIxO, ev_sIxC, ev_sFrz, ev_sExp, ev_sPass, ev_runB, ev_forN, ev_compN, ev_put0, ev_put1, ev_wipe0, ev_wipe1, ev_bnm, ev_btup, ev_bL0, ev_bL1, dv_add, dv_sub, dv_neg, dv_lt, dv_le, dv_gt, dv_ge, dv_int, dv_abs, dv_lenL, dv_lenT, dv_tupL, dv_tupT, dv_lofL, dv_lofT, dv_lofS, dv_seqL, dv_seqT, dv_ixL, dv_ixT, dv_ixO, atI_0, atI_1, atI_2, Option.bind_some, Option.bind_none, List.getElem?_cons_zero, List.getElem?_cons_succ, List.getElem?_nil, List.set_cons_zero, List.set_cons_succ, List.set_nil, List.length_cons, List.length_nil, List.map_cons, List.map_nil, List.replicate_succ, List.replicate_zero, List.cons_append, List.nil_append, Nat.reduceAdd, Nat.reduceSub, Nat.reduceLeDiff, Nat.zero_add, Nat.sub_zero, Nat.add_zero, if_true, if_false, Bool.false_eq_true, Nat.reduceEqDiff, Bool.not_true, Bool.not_false, decide_true, decide_false, ev_nat]
    · rw [List.length_map]; exact hl
    · exact hc
  have et : cV (eBin dGe (eB 1) (eUn dSum (eComp (.tup [(.nm 11), (.nm 4)]) (iAny (eV 2)) cYes (eBin dMul (eIx (eB 11) (eC (.int 0))) (eB 4)) [11, 4]))) [.val F, .val (.int (i : Nat)), .val (.lst (R.map cntD)), .non, .non, .non, .non, .non, .non, .non, .non, .non] S = some (decide (((T.length : Nat) : Int) ≤ ((i : Nat) : Int)), S) :=
    cV_s (bin_s (d := .int (i : Nat)) (S' := S) (by simp only [ev_C, ev_V, ev_B, ev_aN, ev_aC, ev_Tup, ev_Lst, ev_Bin, ev_Un, ev_UnF, ev_cV, ev_cAnd, ev_cOr, ev_cNot, ev_cYes, ev_And, ev_Or, ev_Not, ev_If, ev_Chain, ev_Call, ev_Ix, ev_Sl, ev_oN, ev_oE, ev_aS, ev_Comp, ev_iAny, ev_iRange1, ev_iRange2, ev_iZip, ev_iEnum, ev_sNil, ev_sSeq, ev_sIf, ev_sRet, ev_sRetO, ev_sRetN, ev_sAsg, ev_sSet, ev_sSetO, ev_sPar, ev_sFor, ev_sWhile, ev_sApp, ev_sIxO, ev_sIxC, ev_sFrz, ev_sExp, ev_sPass, ev_runB, ev_forN, ev_compN, ev_put0, ev_put1, ev_wipe0, ev_wipe1, ev_bnm, ev_btup, ev_bL0, ev_bL1, dv_add, dv_sub, dv_neg, dv_lt, dv_le, dv_gt, dv_ge, dv_int, dv_abs, dv_lenL, dv_lenT, dv_tupL, dv_tupT, dv_lofL, dv_lofT, dv_lofS, dv_seqL, dv_seqT, dv_ixL, dv_ixT, dv_ixO, atI_0, atI_1, atI_2, Option.bind_some, Option.bind_none, List.getElem?_cons_zero, List.getElem?_cons_succ, List.getElem?_nil, List.set_cons_zero, List.set_cons_succ, List.set_nil, List.length_cons, List.length_nil, List.map_cons, List.map_nil, List.replicate_succ, List.replicate_zero, List.cons_append, List.nil_append, Nat.reduceAdd, Nat.reduceSub, Nat.reduceLeDiff, Nat.zero_add, Nat.sub_zero, Nat.add_zero, if_true, if_false, Bool.false_eq_true, Nat.reduceEqDiff, Bool.not_true, Bool.not_false, decide_true, decide_false, ev_nat]) es (dv_ge _ _))
  by_cases hi : T.length ≤ i
  · rw [decide_eq_true (by omega)] at et
    have : T[i]? = none := List.getElem?_eq_none hi
    rw [this]
    exact seq_rt ((if_t et).trans (ret_s rfl))
  · rw [decide_eq_false (by omega)] at et
    obtain ⟨x, hx⟩ : ∃ x, T[i]? = some x := ⟨T[i]'(by omega), List.getElem?_eq_getElem (by omega)⟩
    rw [hx]
    refine (seq_nx ((if_f et).trans rfl)).trans ?_
    refine (seq_nx (ρ' := [.val F, .val (.int (i : Nat)), .val (.lst (R.map cntD)), .val (.int ((1 : Nat) : Int)), .non, .non, .non, .non, .non, .non, .non, .non]) (S' := S) rfl).trans ?_
    obtain ⟨s4, s5, s6, s7, ef⟩ := ta_for N0 hN (.val F) (.val (.int (i : Nat))) (.val (.lst (R.map cntD))) .non .non .non .non S R 1 .non .non .non .non (fun p hp => ⟨h p hp, hd p hp⟩) (Nat.one_dvd _)
    refine (seq_nx (for_s (ds := R.map cntD) (S' := S) (by simp only [ev_C, ev_V, ev_B, ev_aN, ev_aC, ev_Tup, ev_Lst, ev_Bin, ev_Un, ev_UnF, ev_cV, ev_cAnd, ev_cOr, ev_cNot, ev_cYes, ev_And, ev_Or, ev_Not, ev_If, ev_Chain, ev_Call, ev_Ix, ev_Sl, ev_oN, ev_oE, ev_aS, ev_Comp, ev_iAny, ev_iRange1, ev_iRange2, ev_iZip, ev_iEnum, ev_sNil, ev_sSeq, ev_sIf, ev_sRet, ev_sRetO, ev_sRetN, ev_sAsg, ev_sSet, ev_sSetO, ev_sPar, ev_sFor, ev_sWhile, ev_sApp, ev_sIxO, ev_sIxC, ev_sFrz, ev_sExp, ev_sPass, ev_runB, ev_forN, ev_compN, ev_put0, ev_put1, ev_wipe0, ev_wipe1, ev_bnm, ev_btup, ev_bL0, ev_bL1, dv_add, dv_sub, dv_neg, dv_lt, dv_le, dv_gt, dv_ge, dv_int, dv_abs, dv_lenL, dv_lenT, dv_tupL, dv_tupT, dv_lofL, dv_lofT, dv_lofS, dv_seqL, dv_seqT, dv_ixL, dv_ixT, dv_ixO, atI_0, atI_1, atI_2, Option.bind_some, Option.bind_none, List.getElem?_cons_zero, List.getElem?_cons_succ, List.getElem?_nil, List.set_cons_zero, List.set_cons_succ, List.set_nil, List.length_cons, List.length_nil, List.map_cons, List.map_nil, List.replicate_succ, List.replicate_zero, List.cons_append, List.nil_append, Nat.reduceAdd, Nat.reduceSub, Nat.reduceLeDiff, Nat.zero_add, Nat.sub_zero, Nat.add_zero, if_true, if_false, Bool.false_eq_true, Nat.reduceEqDiff, Bool.not_true, Bool.not_false, decide_true, decide_false, ev_nat]) ef)).trans ?_
    have bN := btm_in (N := N) R 1 (Nat.one_dvd _) hd
    have bR := (btm_dvd R 1).2
    generalize R.foldl btmF 1 = B at *
    have B0 : 0 < B := Nat.pos_of_ne_zero fun z => by subst z; rw [Nat.zero_dvd] at bN; omega
    have hB : B < 2 ^ 7000 := Nat.lt_of_le_of_lt (Nat.le_of_dvd N0 bN) hN
    refine (seq_nx (ρ' := [.val F, .val (.int (i : Nat)), .val (.lst (R.map cntD)), .val (.int (B : Nat)), s4, s5, s6, s7, .val (.int 0), .val (.int ((B : Int) - 1)), .non, .non]) (S' := S) ?_).trans ?_
    · refine (par_s (d := .int 0) (S' := S) (d2 := .int ((B : Int) - 1)) (S2 := S) (by simp only [ev_C, ev_V, ev_B, ev_aN, ev_aC, ev_Tup, ev_Lst, ev_Bin, ev_Un, ev_UnF, ev_cV, ev_cAnd, ev_cOr, ev_cNot, ev_cYes, ev_And, ev_Or, ev_Not, ev_If, ev_Chain, ev_Call, ev_Ix, ev_Sl, ev_oN, ev_oE, ev_aS, ev_Comp, ev_iAny, ev_iRange1, ev_iRange2, ev_iZip, ev_iEnum, ev_sNil, ev_sSeq, ev_sIf, ev_sRet, ev_sRetO, ev_sRetN, ev_sAsg, ev_sSet, ev_sSetO, ev_sPar, ev_sFor, ev_sWhile, ev_sApp, ev_sIxO, ev_sIxC, ev_sFrz, ev_sExp, ev_sPass, ev_runB, ev_forN, ev_compN, ev_put0, ev_put1, ev_wipe0, ev_wipe1, ev_bnm, ev_btup, ev_bL0, ev_bL1, dv_add, dv_sub, dv_neg, dv_lt, dv_le, dv_gt, dv_ge, dv_int, dv_abs, dv_lenL, dv_lenT, dv_tupL, dv_tupT, dv_lofL, dv_lofT, dv_lofS, dv_seqL, dv_seqT, dv_ixL, dv_ixT, dv_ixO, atI_0, atI_1, atI_2, Option.bind_some, Option.bind_none, List.getElem?_cons_zero, List.getElem?_cons_succ, List.getElem?_nil, List.set_cons_zero, List.set_cons_succ, List.set_nil, List.length_cons, List.length_nil, List.map_cons, List.map_nil, List.replicate_succ, List.replicate_zero, List.cons_append, List.nil_append, Nat.reduceAdd, Nat.reduceSub, Nat.reduceLeDiff, Nat.zero_add, Nat.sub_zero, Nat.add_zero, if_true, if_false, Bool.false_eq_true, Nat.reduceEqDiff, Bool.not_true, Bool.not_false, decide_true, decide_false, ev_nat]) (by simp only [ev_C, ev_V, ev_B, ev_aN, ev_aC, ev_Tup, ev_Lst, ev_Bin, ev_Un, ev_UnF, ev_cV, ev_cAnd, ev_cOr, ev_cNot, ev_cYes, ev_And, ev_Or, ev_Not, ev_If, ev_Chain, ev_Call, ev_Ix, ev_Sl, ev_oN, ev_oE, ev_aS, ev_Comp, ev_iAny, ev_iRange1, ev_iRange2, ev_iZip, ev_iEnum, ev_sNil, ev_sSeq, ev_sIf, ev_sRet, ev_sRetO, ev_sRetN, ev_sAsg, ev_sSet, ev_sSetO, ev_sPar, ev_sFor, ev_sWhile, ev_sApp, ev_sIxO, ev_sIxC, ev_sFrz, ev_sExp, ev_sPass, ev_runB, ev_forN, ev_compN, ev_put0, ev_put1, ev_wipe0, ev_wipe1, ev_bnm, ev_btup, ev_bL0, ev_bL1, dv_add, dv_sub, dv_neg, dv_lt, dv_le, dv_gt, dv_ge, dv_int, dv_abs, dv_lenL, dv_lenT, dv_tupL, dv_tupT, dv_lofL, dv_lofT, dv_lofS, dv_seqL, dv_seqT, dv_ixL, dv_ixT, dv_ixO, atI_0, atI_1, atI_2, Option.bind_some, Option.bind_none, List.getElem?_cons_zero, List.getElem?_cons_succ, List.getElem?_nil, List.set_cons_zero, List.set_cons_succ, List.set_nil, List.length_cons, List.length_nil, List.map_cons, List.map_nil, List.replicate_succ, List.replicate_zero, List.cons_append, List.nil_append, Nat.reduceAdd, Nat.reduceSub, Nat.reduceLeDiff, Nat.zero_add, Nat.sub_zero, Nat.add_zero, if_true, if_false, Bool.false_eq_true, Nat.reduceEqDiff, Bool.not_true, Bool.not_false, decide_true, decide_false, ev_nat])).trans ?_
      simp only [List.set_cons_succ, List.set_cons_zero]
    have xT : x ∈ T := List.mem_of_getElem? hx
    obtain ⟨p, hp, hr⟩ := o.some_row xT
    have xd : x.den ∣ B := Nat.dvd_trans (row_den hr) (bR p hp)
    have eX := numOver_eq B0 xd
    have tr := o.mem x xT
    have eX' : ((numOver B x : Int) : Rat) / ((B : Int) : Rat) = x := by rw [Rat.intCast_natCast]; exact eX
    have bp : (0 : Rat) < ((B : Int) : Rat) := int_pos_rat (by omega)
    have x0 : 0 ≤ numOver B x := by
      have := tr.1
      rw [← eX'] at this
      have := Rat.mul_nonneg this (Rat.le_of_lt bp)
      rw [Rat.div_mul_cancel (ne_of_pos_rat bp)] at this
      exact_mod_cast this
    have x1 : numOver B x < (B : Int) := by
      have := tr.2
      rw [← eX', Rat.div_lt_iff bp, Rat.one_mul, Rat.intCast_lt_intCast] at this
      exact this
    obtain ⟨s10, ew⟩ := ta_while o h hl B0 hB hx eX' (.val F) s4 s5 s6 s7 .non S (((B : Int) - 1 - 0).toNat + 1) 0 ((B : Int) - 1) .non (by omega) (by omega) x0 (by omega) (by omega)
    refine (seq_nx (ρ' := [.val F, .val (.int (i : Nat)), .val (.lst (R.map cntD)), .val (.int (B : Nat)), s4, s5, s6, s7, .val (.int (numOver B x)), .val (.int (numOver B x)), s10, .non]) (S' := S) ?_).trans ?_
    · rw [ev_sWhile]
      exact ew
    refine ret_s (call_s (ds := [.int (numOver B x), .int (B : Nat)]) (S' := S) (by simp only [ev_C, ev_V, ev_B, ev_aN, ev_aC, ev_Tup, ev_Lst, ev_Bin, ev_Un, ev_UnF, ev_cV, ev_cAnd, ev_cOr, ev_cNot, ev_cYes, ev_And, ev_Or, ev_Not, ev_If, ev_Chain, ev_Call, ev_Ix, ev_Sl, ev_oN, ev_oE, ev_aS, ev_Comp, ev_iAny, ev_iRange1, ev_iRange2, ev_iZip, ev_iEnum, ev_sNil, ev_sSeq, ev_sIf, ev_sRet, ev_sRetO, ev_sRetN, ev_sAsg, ev_sSet, ev_sSetO, ev_sPar, ev_sFor, ev_sWhile, ev_sApp, ev_sIxO, ev_sIxC, ev_sFrz, ev_sExp, ev_sPass, ev_runB, ev_forN, ev_compN, ev_put0, ev_put1, ev_wipe0, ev_wipe1, ev_bnm, ev_btup, ev_bL0, ev_bL1, dv_add, dv_sub, dv_neg, dv_lt, dv_le, dv_gt, dv_ge, dv_int, dv_abs, dv_lenL, dv_lenT, dv_tupL, dv_tupT, dv_lofL, dv_lofT, dv_lofS, dv_seqL, dv_seqT, dv_ixL, dv_ixT, dv_ixO, atI_0, atI_1, atI_2, Option.bind_some, Option.bind_none, List.getElem?_cons_zero, List.getElem?_cons_succ, List.getElem?_nil, List.set_cons_zero, List.set_cons_succ, List.set_nil, List.length_cons, List.length_nil, List.map_cons, List.map_nil, List.replicate_succ, List.replicate_zero, List.cons_append, List.nil_append, Nat.reduceAdd, Nat.reduceSub, Nat.reduceLeDiff, Nat.zero_add, Nat.sub_zero, Nat.add_zero, if_true, if_false, Bool.false_eq_true, Nat.reduceEqDiff, Bool.not_true, Bool.not_false, decide_true, decide_false, ev_nat]) rfl ?_)
    have wB : wide (B : Int) = true := wide_nat (X := B) (Nat.lt_of_lt_of_le hB (Nat.pow_le_pow_right (by decide) (by decide))) (Nat.le_refl _)
    have ep := m_part_eq (numOver B x) (B : Int) S (by omega) wB
    rw [eX', fr_self tr.1 tr.2] at ep
    exact ep
end
def hM : Nat := 18446744073709551616
def hA (acc h : Nat) : Nat := (acc + h * 14029467366897019727) % hM
def hR (a : Nat) : Nat := a * 2 ^ 31 % hM + a / 2 ^ 33
def hF (acc h : Nat) : Nat := hR (hA acc h) * 11400714785074694791 % hM
theorem mul_inj {p q a b : Nat} (h1 : p * q % hM = 1) (ha : a < hM) (hb : b < hM) (h : a * p % hM = b * p % hM) : a = b := by
  have e : ∀ x : Nat, x < hM → x * p % hM * q % hM = x := fun x hx => by
    rw [Nat.mul_mod, Nat.mod_mod, ← Nat.mul_mod, Nat.mul_assoc, Nat.mul_mod, h1, Nat.mul_one, Nat.mod_mod, Nat.mod_eq_of_lt hx]
  rw [← e a ha, ← e b hb, h]
theorem hR_is (a : Nat) : hR a = (a % 8589934592) * 2147483648 + a / 8589934592 := by
  have e : hM = 8589934592 * 2147483648 := rfl
  have e31 : (2 : Nat) ^ 31 = 2147483648 := rfl
  have e33 : (2 : Nat) ^ 33 = 8589934592 := rfl
  unfold hR
  rw [e31, e33, e, Nat.mul_mod_mul_right]
theorem hR_lt {a : Nat} (h : a < hM) : hR a < hM := by
  rw [hR_is]
  have q1 : a / 8589934592 < 2147483648 := Nat.div_lt_of_lt_mul (by unfold hM at h; omega)
  have := Nat.mod_lt a (show 8589934592 > 0 by decide)
  unfold hM
  omega
theorem hR_inj {a b : Nat} (ha : a < hM) (hb : b < hM) (h : hR a = hR b) : a = b := by
  rw [hR_is, hR_is] at h
  have q1 : a / 8589934592 < 2147483648 := Nat.div_lt_of_lt_mul (by unfold hM at ha; omega)
  have q2 : b / 8589934592 < 2147483648 := Nat.div_lt_of_lt_mul (by unfold hM at hb; omega)
  have e1 := Nat.div_add_mod a 8589934592
  have e2 := Nat.div_add_mod b 8589934592
  generalize a / 8589934592 = x at *
  generalize b / 8589934592 = y at *
  generalize a % 8589934592 = u at *
  generalize b % 8589934592 = v at *
  omega
theorem hA_lt (acc h : Nat) : hA acc h < hM := Nat.mod_lt _ (by decide)
theorem hF_lt (acc h : Nat) : hF acc h < hM := Nat.mod_lt _ (by decide)
theorem add_inj {c x y : Nat} (h : (c + x) % hM = (c + y) % hM) : x % hM = y % hM := by
  unfold hM at *
  omega
theorem hF_inj {acc h h' : Nat} (a : h < hM) (b : h' < hM) (e : hF acc h = hF acc h') : h = h' := by
  have e1 := mul_inj (q := 614540362697595703) (by decide) (hR_lt (hA_lt _ _)) (hR_lt (hA_lt _ _)) e
  have e2 := hR_inj (hA_lt _ _) (hA_lt _ _) e1
  exact mul_inj (q := 839798700976720815) (by decide) a b (add_inj e2)
theorem hF_acc {acc acc' h : Nat} (a : acc < hM) (b : acc' < hM) (e : hF acc h = hF acc' h) : acc = acc' := by
  have e1 := mul_inj (q := 614540362697595703) (by decide) (hR_lt (hA_lt _ _)) (hR_lt (hA_lt _ _)) e
  have e2 := hR_inj (hA_lt _ _) (hA_lt _ _) e1
  have e3 : (h * 14029467366897019727 + acc) % hM = (h * 14029467366897019727 + acc') % hM := by rw [Nat.add_comm _ acc, Nat.add_comm _ acc']; exact e2
  have e4 := add_inj e3
  rwa [Nat.mod_eq_of_lt a, Nat.mod_eq_of_lt b] at e4
def hFin (acc : Nat) : Int := if acc == hM - 1 then 1546275796 else if acc < 2 ^ 63 then acc else (acc : Int) - hM
def hC : Nat := 2 ^^^ (2870177450012600261 ^^^ 3527539)
theorem hC_is : hC = 2 ^^^ (2870177450012600261 ^^^ 3527539) := rfl
theorem hM_is : (2 : Nat) ^ 64 = hM := rfl
def stp0 (m : Nat) (acc : Nat) (h : Int) : Nat :=
  let acc := (acc + (h % (m : Int)).toNat * 14029467366897019727) % m
  let acc := (acc * 2 ^ 31) % m + acc / 2 ^ 33
  (acc * 11400714785074694791) % m
def fin0 (m : Nat) (c : Nat) (acc : Nat) : Int :=
  let acc := (acc + c) % m
  if acc == m - 1 then 1546275796 else if acc < 2 ^ 63 then acc else (acc : Int) - m
theorem th2a (hs : List Int) : PySem.Builtin.Tuple.tupleHashOf hs = fin0 (2 ^ 64) (hs.length ^^^ (2870177450012600261 ^^^ 3527539)) (hs.foldl (stp0 (2 ^ 64)) 2870177450012600261) := rfl
theorem stp0_is (acc : Nat) (h : Int) : stp0 hM acc h = hF acc (h % (hM : Int)).toNat := rfl
theorem fin0_is (c acc : Nat) : fin0 hM c acc = hFin ((acc + c) % hM) := rfl
theorem th2 (a b : Int) : PySem.Builtin.Tuple.tupleHashOf [a, b] = hFin ((hF (hF 2870177450012600261 (a % (hM : Int)).toNat) (b % (hM : Int)).toNat + hC) % hM) := by
  have l2 : [a, b].length = 2 := rfl
  rw [th2a, hM_is, fin0_is, l2, List.foldl_cons, List.foldl_cons, List.foldl_nil, stp0_is, stp0_is, hC_is]
theorem hInt {n : Nat} (h : n < 1152921504606846976) : PySem.hashInt (n : Int) = n := by
  have r : PySem.rawHash (n : Int) = n := by
    unfold PySem.rawHash
    have e : ((n : Int).natAbs : Int) % ((2 ^ 61 - 1 : Nat) : Int) = (n : Int) := by
      have e61 : (2 ^ 61 - 1 : Nat) = 2305843009213693951 := rfl
      rw [e61, Int.natAbs_natCast]
      omega
    rw [e]
    dsimp only
    rw [if_neg (show ¬ (n : Int) < 0 by omega), if_neg (by rw [beq_iff_eq]; omega)]
  unfold PySem.hashInt
  rw [r, if_neg (by rw [beq_iff_eq]; omega)]
theorem hInner : hashN (keyD (dR 0)) = -1950498447580522560 := by decide +kernel
theorem redFin (acc : Nat) (h : acc < hM) : PySem.reduceHash (hFin acc) = hFin acc := by
  have lo : -(2 ^ 63 : Int) ≤ hFin acc ∧ hFin acc < 2 ^ 63 ∧ hFin acc ≠ -1 := by
    unfold hFin
    by_cases e : acc = hM - 1
    · rw [if_pos (by simpa using e)]; decide
    · rw [if_neg (by simpa using e)]
      have e63 : (2 : Nat) ^ 63 = 9223372036854775808 := rfl
      have c : (hM : Int) = 18446744073709551616 := rfl
      rw [e63, c]
      unfold hM at *
      split <;> omega
  unfold PySem.reduceHash
  rw [if_pos (by rw [decide_eq_true lo.1, decide_eq_true lo.2.1]; rfl), if_neg (by rw [beq_iff_eq]; exact lo.2.2)]
def hRow (n : Nat) : Nat := (hF (hF 2870177450012600261 n) 16496245626129029056 + hC) % hM
theorem hash_row0 {n : Nat} (h : n < 1152921504606846976) : hashN (keyD (rowD (n, 0))) = hFin (hRow n) := by
  have e : keyD (rowD (n, 0)) = .tup [.num (n : Int), keyD (dR 0)] := rfl
  have e1 : hashN (PySem.NestedKey.tup [.num (n : Int), keyD (dR 0)]) = PySem.reduceHash (PySem.Builtin.Tuple.tupleHashOf [PySem.hashInt (n : Int), hashN (keyD (dR 0))]) := by
    simp only [hashN, hashNs]
  rw [e, e1, hInt h, hInner, th2, redFin _ (Nat.mod_lt _ (by decide))]
  have a : ((n : Int) % (hM : Int)).toNat = n := by unfold hM; omega
  have b : ((-1950498447580522560 : Int) % (hM : Int)).toNat = 16496245626129029056 := by decide
  rw [a, b]
  rfl
theorem hRow_inj {n n' : Nat} (a : n < 1152921504606846976) (b : n' < 1152921504606846976) (e : hRow n = hRow n') : n = n' := by
  unfold hRow at e
  rw [Nat.add_comm _ hC, Nat.add_comm _ hC] at e
  have e1 := add_inj e
  rw [Nat.mod_eq_of_lt (hF_lt _ _), Nat.mod_eq_of_lt (hF_lt _ _)] at e1
  exact hF_inj (by unfold hM; omega) (by unfold hM; omega) (hF_acc (hF_lt _ _) (hF_lt _ _) e1)
theorem hRow_top {n : Nat} (a : n < 1152921504606846976) : hRow n ≠ hM - 1 := fun e => by
  have k : (hF (hF 2870177450012600261 11835533625421207906) 16496245626129029056 + hC) % hM = hM - 1 := by decide
  unfold hRow at e
  rw [← k, Nat.add_comm _ hC, Nat.add_comm _ hC] at e
  have e1 := add_inj e
  rw [Nat.mod_eq_of_lt (hF_lt _ _), Nat.mod_eq_of_lt (hF_lt _ _)] at e1
  have := hF_inj (h := n) (h' := 11835533625421207906) (by unfold hM; omega) (by decide) (hF_acc (hF_lt _ _) (hF_lt _ _) e1)
  omega
theorem hFin_inj {x y : Nat} (hx : x < hM) (hy : y < hM) (nx : x ≠ hM - 1) (ny : y ≠ hM - 1) (e : hFin x = hFin y) : x = y := by
  unfold hFin at e
  have nx' : ¬ (x == hM - 1) = true := fun z => nx (by simpa using z)
  have ny' : ¬ (y == hM - 1) = true := fun z => ny (by simpa using z)
  rw [if_neg nx', if_neg ny'] at e
  have c : (hM : Int) = 18446744073709551616 := rfl
  have e63 : (2 : Nat) ^ 63 = 9223372036854775808 := rfl
  rw [c, e63] at e
  unfold hM at hx hy
  by_cases h1 : x < 9223372036854775808
  · by_cases h2 : y < 9223372036854775808
    · rw [if_pos h1, if_pos h2] at e; omega
    · rw [if_pos h1, if_neg h2] at e; omega
  · by_cases h2 : y < 9223372036854775808
    · rw [if_neg h1, if_pos h2] at e; omega
    · rw [if_neg h1, if_neg h2] at e; omega
theorem hash0_inj {n n' : Nat} (a : n < 1152921504606846976) (b : n' < 1152921504606846976) (e : hashN (keyD (rowD (n, 0))) = hashN (keyD (rowD (n', 0)))) : n = n' := by
  rw [hash_row0 a, hash_row0 b] at e
  exact hRow_inj a b (hFin_inj (Nat.mod_lt _ (by decide)) (Nat.mod_lt _ (by decide)) (hRow_top a) (hRow_top b) e)
def U0 (G : List Nat) (r : Row) : Prop := r.2 = 0 ∧ r.1 ∈ G
theorem has0 (n : Int) : has n 0 0 := Eqv.of_eq (by grind)
theorem univ0 {G : List Nat} {k : Nat} (hz : 0 ∈ G) (hg : ∀ a ∈ G, ∀ b ∈ G, Nat.gcd a b ∈ G) (hl : ∀ a ∈ G, a < 2 ^ k) (hk : k ≤ 60) (hG : G.length ≤ 1000000) : Univ (U0 G) k 1 G.length where
  hb := by omega
  hc := by decide
  hn := hG
  gr := fun r h => ⟨hl _ h.2, by rw [h.1]; exact P.zero, fun _ => h.1⟩
  all := ⟨rfl, hz⟩
  mt := fun r1 r2 r h1 h2 g e w => by
    refine ⟨?_, by rw [e]; exact hg _ h1.2 _ h2.2⟩
    have h0 : hasR r 0 := (w 0).mpr ⟨by unfold hasR; rw [h1.1]; exact has0 _, by unfold hasR; rw [h2.1]; exact has0 _⟩
    have z : Eqv (0 * ((r.1 : Int) : Rat)) r.2 := h0
    have e0 : (0 : Rat) * ((r.1 : Int) : Rat) = 0 := by grind
    rw [e0] at z
    exact (eqv_eq z (by decide) (by decide) g.p.lo g.p.hi).symm
  few := ⟨G.map fun n => ((n, 0) : Row), by rw [List.length_map]; exact Nat.le_refl _, fun r h => List.mem_map.mpr ⟨r.1, h.2, by rw [← h.1]⟩⟩
  hash := fun r1 r2 h1 h2 e => by
    obtain ⟨n1, p1⟩ := r1
    obtain ⟨n2, p2⟩ := r2
    obtain ⟨z1, g1⟩ := h1
    obtain ⟨z2, g2⟩ := h2
    have z1 : p1 = 0 := z1
    have z2 : p2 = 0 := z2
    subst z1 z2
    have bk : (2 : Nat) ^ k ≤ 2 ^ 60 := Nat.pow_le_pow_right (by decide) hk
    have e60 : (2 : Nat) ^ 60 = 1152921504606846976 := rfl
    have l1 := hl _ g1
    have l2 := hl _ g2
    have l1 : n1 < 2 ^ k := l1
    have l2 : n2 < 2 ^ k := l2
    have := hash0_inj (n := n1) (n' := n2) (by omega) (by omega) e
    rw [this]
def fmD (F : List (Row × Option Row)) : List (D × D) := F.map fun f => (famD f, .bl true)
theorem keyD_fam {r r' : Row} {o o' : Option Row} (h : keyD (famK r o) = keyD (famK r' o')) : (r, o) = (r', o') := by
  unfold famK at h
  simp only [keyD, keyL] at h
  injection h with h
  injection h with h1 h
  injection h with h2 _
  have a := keyD_row h1
  subst a
  cases o with
  | none =>
    cases o' with
    | none => rfl
    | some q => simp [roD, rowD, keyD] at h2
  | some q =>
    cases o' with
    | none => simp [roD, rowD, keyD] at h2
    | some q' =>
      have h2 : keyD (rowD q) = keyD (rowD q') := h2
      rw [keyD_row h2]
open Classical in
noncomputable def famF (kf : Match → Option Row) (F : List (Row × Option Row)) (x : Match) : List (Row × Option Row) := if kf x = some x.1 ∨ (x.1, kf x) ∈ F then F else F ++ [(x.1, kf x)]
theorem hasD_fm (F : List (Row × Option Row)) (r : Row) (o : Option Row) : hasD (fmD F) (famK r o) = true ↔ (r, o) ∈ F := by
  unfold hasD fmD
  rw [List.any_map, List.any_eq_true]
  constructor
  · rintro ⟨f, hf, e⟩
    have e : keyD (famK f.1 f.2) = keyD (famK r o) := of_decide_eq_true e
    rw [← keyD_fam e]
    exact hf
  · intro h
    exact ⟨(r, o), h, decide_eq_true rfl⟩
theorem famS_fm (kf : Match → Option Row) (F : List (Row × Option Row)) (x : Match) : famS kf (fmD F) x = fmD (famF kf F x) := by
  unfold famS famF
  by_cases c : kf x = some x.1
  · rw [if_pos c, if_pos (.inl c)]
  · rw [if_neg c]
    by_cases m : (x.1, kf x) ∈ F
    · rw [if_pos (.inr m)]
      unfold stD
      rw [if_pos ((hasD_fm F x.1 (kf x)).mpr m)]
      unfold fmD
      rw [List.map_map]
      refine List.map_congr_left fun f _ => ?_
      show (if keyD (famD f) = keyD (famK x.1 (kf x)) then (famD f, D.bl true) else (famD f, .bl true)) = _
      split <;> rfl
    · rw [if_neg (fun z => z.elim c m)]
      unfold stD
      rw [if_neg (fun z => m ((hasD_fm F x.1 (kf x)).mp z))]
      unfold fmD
      rw [List.map_append]; rfl
theorem fam_foldF (kf : Match → Option Row) : ∀ (ms : List Match) (F : List (Row × Option Row)), ms.foldl (famS kf) (fmD F) = fmD (ms.foldl (famF kf) F)
  | [], _ => rfl
  | x :: ms, F => by rw [List.foldl_cons, List.foldl_cons, famS_fm, fam_foldF kf ms]
theorem famF_mem (kf : Match → Option Row) : ∀ (ms : List Match) (F : List (Row × Option Row)) (f : Row × Option Row), f ∈ ms.foldl (famF kf) F ↔ f ∈ F ∨ ∃ x ∈ ms, kf x ≠ some x.1 ∧ f = (x.1, kf x)
  | [], F, f => by simp
  | x :: ms, F, f => by
    rw [List.foldl_cons, famF_mem kf ms]
    have e : f ∈ famF kf F x ↔ f ∈ F ∨ (kf x ≠ some x.1 ∧ f = (x.1, kf x)) := by
      unfold famF
      split
      · rename_i h
        refine ⟨.inl, fun w => w.elim id fun ⟨n, e⟩ => ?_⟩
        rw [e]
        exact h.resolve_left n
      · rename_i h
        rw [List.mem_append, List.mem_singleton]
        exact ⟨fun w => w.imp id fun e => ⟨fun z => h (.inl z), e⟩, fun w => w.imp id fun z => z.2⟩
    rw [e]
    simp only [List.mem_cons, exists_eq_or_imp, or_assoc]
theorem famF_len (kf : Match → Option Row) : ∀ (ms : List Match) (F : List (Row × Option Row)), (ms.foldl (famF kf) F).length ≤ F.length + ms.length
  | [], F => Nat.le_refl _
  | x :: ms, F => by
    have ih := famF_len kf ms (famF kf F x)
    have : (famF kf F x).length ≤ F.length + 1 := by
      unfold famF
      split
      · omega
      · rw [List.length_append]; exact Nat.le_refl _
    rw [List.foldl_cons, List.length_cons]
    omega
theorem fam_loopS (kf : Match → Option Row) (s0 : Slot) (S : List D) : ∀ (ms : List Match) (acc : List (D × D)) (s2 s3 : Slot), (∀ x ∈ ms, m_kept [matD x] S = some (roD (kf x), S)) → acc.length + ms.length ≤ 10000 →
    ∃ (s2' s3' : Slot), forL (.nm 2) famIn (ms.map matD) [s0, .own (.dct acc), s2, s3] S = some (.nx [s0, .own (.dct (ms.foldl (famS kf) acc)), s2', s3'] S)
  | [], acc, s2, s3, _, _ => ⟨s2, s3, rfl⟩
  | x :: ms, acc, s2, s3, h, hl => by
    rw [List.length_cons] at hl
    have ek := h x List.mem_cons_self
    have al := stD_len acc (famK x.1 (kf x)) (.bl true)
    obtain ⟨s2', s3', e⟩ := fam_loopS kf s0 S ms (famS kf acc x) (.val (matD x)) (.val (roD (kf x))) (fun y hy => h y (List.mem_cons_of_mem _ hy)) (by unfold famS; split <;> omega)
    refine ⟨s2', s3', ?_⟩
    have z0 : ixD S (matD x) (.int 0) = some (rowD x.1) := rfl
    have tst : cV (eBin dNe (eB 3) (eIx (eB 2) (eC (.int 0)))) [s0, .own (.dct acc), .val (matD x), .val (roD (kf x))] S = some (!decide (kf x = some x.1), S) :=
      cV_s (bin_s (d := roD (kf x)) (S' := S) (d2 := rowD x.1) (S2 := S) rfl (ix_s (d := matD x) (S' := S) (d2 := .int 0) (S2 := S) rfl rfl z0) (dv_neRo _ _))
    have step : famIn [s0, .own (.dct acc), .val (matD x), s3] S = some (.nx [s0, .own (.dct (famS kf acc x)), .val (matD x), .val (roD (kf x))] S) := by
      unfold famIn
      refine (seq_nx (set_s (d := roD (kf x)) (S' := S) (call_s (ds := [matD x]) (S' := S) rfl rfl ek))).trans ?_
      simp only [List.set_cons_succ, List.set_cons_zero]
      unfold famS
      by_cases c : kf x = some x.1
      · rw [decide_eq_true c] at tst
        rw [if_pos c]
        exact (if_f tst).trans rfl
      · rw [decide_eq_false c] at tst
        rw [if_neg c]
        refine (if_t tst).trans ?_
        have et : eTup (aC (eIx (eB 2) (eC (.int 0))) (aC (eV 3) aN)) [s0, .own (.dct acc), .val (matD x), .val (roD (kf x))] S = some (famK x.1 (kf x), S) :=
          tup_s (ds := [rowD x.1, roD (kf x)]) (aC_s (S' := S) (ix_s (d := matD x) (S' := S) (d2 := .int 0) (S2 := S) rfl rfl z0) rfl) (by show 2 ≤ 16777216; decide)
        unfold sDPut
        have ec : (eC (.bl true) : Ev) [s0, .own (.dct acc), .val (matD x), .val (roD (kf x))] S = some (.bl true, S) := rfl
        rw [ec, Option.bind_some, et, Option.bind_some]
        have hc : (isTupD (famK x.1 (kf x)) && kyD 7 (famK x.1 (kf x)) && decide (acc.length < 16777216)) = true := by
          rw [famK_ok, decide_eq_true (by omega)]
          rfl
        show (if (isTupD (famK x.1 (kf x)) && kyD 7 (famK x.1 (kf x)) && decide (acc.length < 16777216)) = true then _ else none) = _
        rw [if_pos hc]
        rfl
    rw [List.map_cons, ev_forC, ev_bnm, Option.bind_some, ev_put1, ev_put0]
    simp only [List.set_cons_succ, List.set_cons_zero]
    rw [step, Option.bind_some]
    exact e
structure FamM (ms : List Match) (F : List (Row × Option Row)) : Prop where
  len : F.length ≤ 10000
  of : ∀ f ∈ F, ∃ x ∈ ms, f.1 = x.1 ∧ f.2 ≠ some x.1 ∧ Says f.2 185 16 (fun t => hasR x.1 t ∧ has (1 + x.2.1) x.2.2 t)
  all : ∀ x ∈ ms, ∃ o, Says o 185 16 (fun t => hasR x.1 t ∧ has (1 + x.2.1) x.2.2 t) ∧ (o = some x.1 ∨ (x.1, o) ∈ F)
theorem m_families_F {hands : List Int} {looks : PySem.Str} {m : Nat} (c : ClkW hands looks m) (S : List D) : ∃ (ms : List Match) (F : List (Row × Option Row)),
    MS hands hands (cds looks) (cds looks) m ms ∧ m_families [clkD hands looks (m : Int)] S = some (.lst (F.map famD), S) ∧ FamM ms F := by
  obtain ⟨ms, e1, hms, hl⟩ := m_matches_ex hands hands looks looks m m c.bd c.bd c.len4 rfl c.gcd c.m0 c.m6 c.lk c.lk c.ok c.ok S
  obtain ⟨kf, hkf⟩ := Classical.axiomOfChoice (r := fun (x : Match) (o : Option (Nat × Rat)) => x ∈ ms → m_kept [matD x] S = some (roD o, S) ∧ Says o 185 16 (fun t => hasR x.1 t ∧ has (1 + x.2.1) x.2.2 t)) (fun x => by
    by_cases h : x ∈ ms
    · obtain ⟨o, q⟩ := m_kept_ex x (hms.good x h) S
      exact ⟨o, fun _ => q⟩
    · exact ⟨none, fun z => absurd z h⟩)
  have ml : ms.length ≤ 1800 := Nat.le_trans hl (Nat.mul_le_mul c.ex c.m6)
  obtain ⟨s2, s3, e2⟩ := fam_loopS kf (.val (clkD hands looks (m : Int))) S ms (fmD []) .non .non (fun x hx => (hkf x hx).1) (by show 0 + _ ≤ _; omega)
  rw [fam_foldF] at e2
  have fl := famF_len kf ms []
  have fm := famF_mem kf ms []
  generalize ms.foldl (famF kf) [] = F at e2 fl fm
  refine ⟨ms, F, hms, ?_, ⟨by rw [List.length_nil] at fl; omega, fun f hf => ?_, fun x hx => ⟨kf x, (hkf x hx).2, ?_⟩⟩⟩
  · unfold m_families
    show runB _ 4 (sSeq (sSetO 1 eDct0) (sSeq (sFor (.nm 2) (iAny (eCall 2 m_matches (aC (eV 0) (aC (eV 0) aN)))) famIn) (sRet (eUnF lOfK (eB 1))))) _ S = _
    refine run_rt (ρ := [.val (clkD hands looks (m : Int)), .non, .non, .non]) rfl ?_
    refine (seq_nx (setO_s (d := .dct []) (S' := S) rfl (by show 1 < 4; decide))).trans ?_
    simp only [List.set_cons_succ, List.set_cons_zero]
    refine (seq_nx (for_s (ds := ms.map matD) (S' := S) ?_ e2)).trans ?_
    · simp only [ev_C, ev_V, ev_B, ev_aN, ev_aC, ev_Tup, ev_Lst, ev_Bin, ev_Un, ev_UnF, ev_cV, ev_cAnd, ev_cOr, ev_cNot, ev_cYes, ev_And, ev_Or, ev_Not, ev_If, ev_Chain, ev_Call, ev_Ix, ev_Sl, ev_oN, ev_oE, ev_aS, ev_Comp, ev_iAny, ev_iRange1, ev_iRange2, ev_iZip, ev_iEnum, ev_sNil, ev_sSeq, ev_sIf, ev_sRet, ev_sRetO, ev_sRetN, ev_sAsg, ev_sSet, ev_sSetO, ev_sPar, ev_sFor, ev_sWhile, ev_sApp, ev_sIxO, ev_sIxC, ev_sFrz, ev_sExp, ev_sPass, ev_runB, ev_forN, ev_compN, ev_put0, ev_put1, ev_wipe0, ev_wipe1, ev_bnm, ev_btup, ev_bL0, ev_bL1, dv_add, dv_sub, dv_neg, dv_lt, dv_le, dv_gt, dv_ge, dv_int, dv_abs, dv_lenL, dv_lenT, dv_tupL, dv_tupT, dv_lofL, dv_lofT, dv_lofS, dv_seqL, dv_seqT, dv_ixL, dv_ixT, dv_ixO, atI_0, atI_1, atI_2, Option.bind_some, Option.bind_none, List.getElem?_cons_zero, List.getElem?_cons_succ, List.getElem?_nil, List.set_cons_zero, List.set_cons_succ, List.set_nil, List.length_cons, List.length_nil, List.map_cons, List.map_nil, List.replicate_succ, List.replicate_zero, List.cons_append, List.nil_append, Nat.reduceAdd, Nat.reduceSub, Nat.reduceLeDiff, Nat.zero_add, Nat.sub_zero, Nat.add_zero, if_true, if_false, Bool.false_eq_true, Nat.reduceEqDiff, Bool.not_true, Bool.not_false, decide_true, decide_false, ev_nat, e1]
    · refine ret_s (unF_s (d := .dct (fmD F)) (S' := S) rfl ?_)
      show some ((fmD F).map (·.1)) = _
      unfold fmD
      rw [List.map_map]; rfl
  · rcases (fm f).mp hf with z | ⟨x, hx, n, e⟩
    · nomatch z
    · subst e
      exact ⟨x, hx, rfl, n, (hkf x hx).2⟩
  · by_cases n : kf x = some x.1
    · exact .inl n
    · exact .inr ((fm _).mpr (.inr ⟨x, hx, n, rfl⟩))
def Unclear (hands : List Int) (looks : PySem.Str) (m : Nat) (t : Rat) : Prop := ∃ u, (0 ≤ u ∧ u < 1) ∧ u ≠ t ∧ Look hands looks m t u
theorem kept_msat (x : Match) (t : Rat) : (hasR x.1 t ∧ has (1 + x.2.1) x.2.2 t) ↔ msat x t t := by
  unfold msat has
  refine and_congr Iff.rfl ?_
  have ec : (((1 + x.2.1 : Int)) : Rat) = 1 + (x.2.1 : Rat) := by rw [Rat.intCast_add]; rfl
  rw [ec]
  constructor
  · rintro ⟨n, w⟩
    exact ⟨n, by grind⟩
  · rintro ⟨n, w⟩
    exact ⟨n, by grind⟩
theorem look_eqs {hands : List Int} {looks : PySem.Str} {m : Nat} {t u : Rat} : Look hands looks m t u ↔ ∃ e, IsEx (cds looks) (cds looks) e ∧ ∃ s, s < m ∧ Eqs hands hands e (K.fr (stp m s)) t u := by
  unfold Look Shows
  exact exists_congr fun e => and_congr Iff.rfl (exists_congr fun s => and_congr Iff.rfl eqs_seen.symm)
theorem inF_unclear {hands : List Int} {looks : PySem.Str} {m : Nat} {ms : List Match} {F : List (Row × Option Row)} (hms : MS hands hands (cds looks) (cds looks) m ms) (hF : FamM ms F) {t : Rat} (t0 : 0 ≤ t) (t1 : t < 1) : InF F t ↔ Unclear hands looks m t := by
  constructor
  · rintro ⟨f, hf, h1, h2⟩
    obtain ⟨x, hx, ex, _, sy⟩ := hF.of f hf
    rw [ex] at h1
    have nk : ¬ msat x t t := fun z => by
      have := (kept_msat x t).mpr z
      cases ho : f.2 with
      | none => exact sy.no ho t this
      | some q => exact h2 ⟨q, ho, ((sy.yes q ho).2 t).mpr this⟩
    have ms1 : msat x t (K.fr (x.2.2 - t * (x.2.1 : Rat))) := ⟨h1, fr_eqv _⟩
    obtain ⟨e, s, he, hs, q⟩ := hms.of x hx
    refine ⟨K.fr (x.2.2 - t * (x.2.1 : Rat)), ⟨fr_nonneg _, fr_lt _⟩, fun z => nk (by rw [z] at ms1; exact ms1), look_eqs.mpr ⟨e, he, s, hs, (q t _).mp ms1⟩⟩
  · rintro ⟨u, ⟨u0, u1⟩, ne, lk⟩
    obtain ⟨e, he, s, hs, q⟩ := look_eqs.mp lk
    rcases hms.all e s he hs with ⟨x, hx, w⟩ | w
    · have xu := (w t u).mpr q
      have nk : ¬ (hasR x.1 t ∧ has (1 + x.2.1) x.2.2 t) := fun z => by
        have z := (kept_msat x t).mp z
        exact ne (eqv_eq (xu.2.trans z.2.symm) u0 u1 t0 t1)
      obtain ⟨o, sy, ho⟩ := hF.all x hx
      rcases ho with ho | ho
      · exact absurd (((sy.yes _ ho).2 t).mp xu.1) nk
      · exact ⟨_, ho, xu.1, fun ⟨r, er, hr⟩ => nk (((sy.yes r er).2 t).mp hr)⟩
    · exact absurd q (w t u)
theorem famOk_of {ms : List Match} {F : List (Row × Option Row)} (hF : FamM ms F) {U : Row → Prop} (h1 : ∀ x ∈ ms, U x.1) (h2 : ∀ x ∈ ms, ∀ o, Says o 185 16 (fun t => hasR x.1 t ∧ has (1 + x.2.1) x.2.2 t) → ∀ r, o = some r → U r) : FamOk U F :=
  ⟨fun f hf => by obtain ⟨x, hx, e, _⟩ := hF.of f hf; rw [e]; exact h1 x hx, fun f hf r er => by
    obtain ⟨x, hx, e, _, sy⟩ := hF.of f hf
    exact ⟨h2 x hx f.2 sy r er, fun t h => by rw [e]; exact (((sy.yes r er).2 t).mp h).1⟩⟩
theorem bez (m n : Nat) : ∃ x y : Int, x * m + y * n = ((Nat.gcd m n : Nat) : Int) := by
  induction m, n using Nat.gcd.induction with
  | H0 n => exact ⟨0, 1, by rw [Nat.gcd_zero_left]; omega⟩
  | H1 m n h ih =>
    obtain ⟨x, y, e⟩ := ih
    rw [← Nat.gcd_rec] at e
    have d := Nat.div_add_mod n m
    refine ⟨y - x * ((n / m : Nat) : Int), x, ?_⟩
    rw [← e]
    have d2 : (n : Int) = (m : Int) * ((n / m : Nat) : Int) + ((n % m : Nat) : Int) := by exact_mod_cast d.symm
    rw [Int.sub_mul]
    conv => lhs; rhs; rw [d2]
    rw [Int.mul_add, Int.mul_assoc, Int.mul_comm ((n / m : Nat) : Int) (m : Int)]
    omega
theorem bezI {p q : Int} (h : Nat.gcd p.natAbs q.natAbs = 1) : ∃ x y : Int, x * p + y * q = 1 := by
  obtain ⟨x, y, e⟩ := bez p.natAbs q.natAbs
  rw [h] at e
  have s : ∀ z : Int, ∃ w : Int, w * z = (z.natAbs : Int) := fun z => by
    by_cases hz : 0 ≤ z
    · exact ⟨1, by omega⟩
    · exact ⟨-1, by omega⟩
  obtain ⟨w1, e1⟩ := s p
  obtain ⟨w2, e2⟩ := s q
  refine ⟨x * w1, y * w2, ?_⟩
  rw [Int.mul_assoc, Int.mul_assoc, e1, e2, e]
  rfl
theorem two_row {a b p q : Int} (h : Nat.gcd p.natAbs q.natAbs = 1) (t : Rat) : (∃ u, Eqv (u * (p : Rat)) (t * (a : Rat)) ∧ Eqv (u * (q : Rat)) (t * (b : Rat))) ↔ has (a * q - b * p) 0 t := by
  have ec : t * ((a * q - b * p : Int) : Rat) = t * (a : Rat) * (q : Rat) - t * (b : Rat) * (p : Rat) := by
    rw [Rat.intCast_sub, Rat.intCast_mul, Rat.intCast_mul]; grind
  unfold has
  rw [ec]
  constructor
  · rintro ⟨u, h1, h2⟩
    have w := ((h1.mul q).symm).sub ((h2.mul p).symm)
    exact w.trans (Eqv.of_eq (by grind))
  · intro w
    obtain ⟨x, y, e⟩ := bezI h
    have e' : (x : Rat) * (p : Rat) + (y : Rat) * (q : Rat) = 1 := by
      have : ((x * p + y * q : Int) : Rat) = ((1 : Int) : Rat) := by rw [e]
      rw [Rat.intCast_add, Rat.intCast_mul, Rat.intCast_mul] at this
      exact this
    have w1 := w.mul y
    have w2 := w.mul x
    have z1 : (0 : Rat) * (y : Rat) = 0 := by grind
    have z2 : (0 : Rat) * (x : Rat) = 0 := by grind
    rw [z1] at w1
    rw [z2] at w2
    refine ⟨t * ((a : Rat) * (x : Rat) + (b : Rat) * (y : Rat)), ?_, ?_⟩
    · have q1 := (Eqv.refl (t * (a : Rat))).sub w1
      refine (Eqv.of_eq ?_).trans (q1.trans (Eqv.of_eq (by grind)))
      have : t * (a : Rat) = t * (a : Rat) * ((x : Rat) * (p : Rat) + (y : Rat) * (q : Rat)) := by rw [e']; grind
      grind
    · have q1 := (Eqv.refl (t * (b : Rat))).add w2
      refine (Eqv.of_eq ?_).trans (q1.trans (Eqv.of_eq (by grind)))
      have : t * (b : Rat) = t * (b : Rat) * ((x : Rat) * (p : Rat) + (y : Rat) * (q : Rat)) := by rw [e']; grind
      grind
theorem has_abs {n : Int} {t : Rat} : has n 0 t ↔ has (n.natAbs : Int) 0 t := by
  by_cases h : 0 ≤ n
  · have : ((n.natAbs : Nat) : Int) = n := by omega
    rw [this]
  · have : ((n.natAbs : Nat) : Int) = -n := by omega
    rw [this]
    have e : (-0 : Rat) = 0 := by decide +kernel
    have := has_neg (n := n) (p := 0) (t := t)
    rw [e] at this
    exact this.symm
theorem tsR_inj {r r' : Row} (h1 : 0 < r.1) (h2 : 0 < r'.1) (e : tsR r = tsR r') : r.1 = r'.1 ∧ r.2 = r'.2 := by
  have l := congrArg List.length e
  unfold tsR at l
  rw [List.length_map, List.length_map, List.length_range, List.length_range] at l
  refine ⟨l, ?_⟩
  have g := congrArg (fun l => l[0]?) e
  unfold tsR at g
  simp only [List.getElem?_map, List.getElem?_range h1, List.getElem?_range h2, Option.map_some, Option.some.injEq] at g
  rw [← l] at g
  have np : (0 : Rat) < ((r.1 : Int) : Rat) := int_pos_rat (by omega)
  have v1 := Rat.div_mul_cancel (a := r.2 + (((0 : Nat) : Int) : Rat)) (ne_of_pos_rat np)
  have v2 := Rat.div_mul_cancel (a := r'.2 + (((0 : Nat) : Int) : Rat)) (ne_of_pos_rat np)
  rw [g, v2] at v1
  grind
theorem row_uniq {b c b' c' : Nat} {r r' : Row} (g : GR b c r) (g' : GR b' c' r') (h : ∀ t, hasR r t ↔ hasR r' t) : r = r' := by
  by_cases z : r.1 = 0
  · have e : r = (0, 0) := Prod.ext z (g.z z)
    rw [e] at h ⊢
    exact (all_row g' fun t => (h t).mp (hasR_all t)).symm
  · by_cases z' : r'.1 = 0
    · have e : r' = (0, 0) := Prod.ext z' (g'.z z')
      rw [e] at h ⊢
      exact all_row g fun t => (h t).mpr (hasR_all t)
    · have p := Nat.pos_of_ne_zero z
      have p' := Nat.pos_of_ne_zero z'
      have e : tsR r = tsR r' := asc_uniq (asc_tsR p) (asc_tsR p') fun t => by
        rw [mem_tsR p g.p.lo g.p.hi, mem_tsR p' g'.p.lo g'.p.hi]
        exact and_congr Iff.rfl (h t)
      obtain ⟨q1, q2⟩ := tsR_inj p p' e
      exact Prod.ext q1 q2
theorem says_is {o : Option Row} {b c b' c' : Nat} {φ : Rat → Prop} (s : Says o b c φ) {r : Row} (g : GR b' c' r) (h : ∀ t, φ t ↔ hasR r t) {t0 : Rat} (w : hasR r t0) : o = some r := by
  cases ho : o with
  | none => exact absurd ((h t0).mpr w) (s.no ho t0)
  | some q =>
    obtain ⟨g1, e⟩ := s.yes q ho
    rw [row_uniq g1 g fun t => (e t).trans (h t)]
theorem gr0 {n k : Nat} (h : n < 2 ^ k) : GR k 1 ((n, 0) : Row) := ⟨h, P.zero, fun _ => rfl⟩
theorem hasR0 (n : Nat) (t : Rat) : hasR (n, 0) t ↔ has (n : Int) 0 t := Iff.rfl
theorem ex_same {x : Nat} {e : List Nat} : IsEx [x, x] [x, x] e ↔ e = [0, 1] ∨ e = [1, 0] := by
  constructor
  · intro h
    have hl := isEx_len h
    have hk := isEx_lt h
    have hn := h.1
    match e, hl, hk, hn with
    | [i, j], _, hk, hn =>
      have a := hk i (by simp)
      have b := hk j (by simp)
      have a : i < 2 := a
      have b : j < 2 := b
      have ne : i ≠ j := by simpa using hn
      have : (i = 0 ∧ j = 1) ∨ (i = 1 ∧ j = 0) := by omega
      rcases this with ⟨rfl, rfl⟩ | ⟨rfl, rfl⟩
      · exact .inl rfl
      · exact .inr rfl
  · rintro (rfl | rfl)
    · exact ⟨by simp, rfl⟩
    · exact ⟨by simp, rfl⟩
theorem ex_diff {x y : Nat} (ne : x ≠ y) {e : List Nat} : IsEx [x, y] [x, y] e ↔ e = [0, 1] := by
  constructor
  · intro h
    have hl := isEx_len h
    have hk := isEx_lt h
    have hn := h.1
    have hm := h.2
    match e, hl, hk, hn, hm with
    | [i, j], _, hk, hn, hm =>
      have a := hk i (by simp)
      have b := hk j (by simp)
      have a : i < 2 := a
      have b : j < 2 := b
      have nn : i ≠ j := by simpa using hn
      have : (i = 0 ∧ j = 1) ∨ (i = 1 ∧ j = 0) := by omega
      rcases this with ⟨rfl, rfl⟩ | ⟨rfl, rfl⟩
      · rfl
      · simp at hm
        exact absurd hm.1.symm ne
  · rintro rfl
    exact ⟨by simp, rfl⟩
theorem fr_stp10 : K.fr (stp 1 0) = 0 := by decide +kernel
theorem eqs_two {a b : Int} {h2 : List Int} {i j : Nat} {t u : Rat} : Eqs [a, b] h2 [i, j] (K.fr (stp 1 0)) t u ↔ Eqv (u * ((h2.getD i 0 : Int) : Rat)) (t * (a : Rat)) ∧ Eqv (u * ((h2.getD j 0 : Int) : Rat)) (t * (b : Rat)) := by
  have one : ∀ (p c : Int), Eqv (u * (p : Rat) + t * ((-c : Int) : Rat)) 0 ↔ Eqv (u * (p : Rat)) (t * (c : Rat)) := fun p c => by
    have e : u * (p : Rat) + t * ((-c : Int) : Rat) = u * (p : Rat) - t * (c : Rat) := by rw [Rat.intCast_neg]; grind
    rw [e]
    constructor
    · intro w
      have := w.add (Eqv.refl (t * (c : Rat)))
      exact (Eqv.of_eq (by grind)).trans (this.trans (Eqv.of_eq (by grind)))
    · intro w
      have := w.sub (Eqv.refl (t * (c : Rat)))
      exact this.trans (Eqv.of_eq (by grind))
  rw [fr_stp10]
  unfold Eqs eqsOf
  simp only [List.zip_cons_cons, List.zip_nil_right, List.map_cons, List.map_nil, List.mem_cons, List.not_mem_nil, or_false, forall_eq_or_imp, forall_eq]
  unfold Eq3.sat
  exact and_congr (one _ a) (one _ b)
theorem eqv_two {a b : Int} (g : Nat.gcd a.natAbs b.natAbs = 1) {t u : Rat} : (Eqv (u * (a : Rat)) (t * (a : Rat)) ∧ Eqv (u * (b : Rat)) (t * (b : Rat))) ↔ Eqv u t := by
  constructor
  · rintro ⟨h1, h2⟩
    obtain ⟨x, y, e⟩ := bezI g
    have e' : (x : Rat) * (a : Rat) + (y : Rat) * (b : Rat) = 1 := by
      have : ((x * a + y * b : Int) : Rat) = ((1 : Int) : Rat) := by rw [e]
      rw [Rat.intCast_add, Rat.intCast_mul, Rat.intCast_mul] at this
      exact this
    have w := (h1.mul x).add (h2.mul y)
    refine (Eqv.of_eq ?_).trans (w.trans (Eqv.of_eq ?_))
    · have : u = u * ((x : Rat) * (a : Rat) + (y : Rat) * (b : Rat)) := by rw [e']; grind
      grind
    · have : t = t * ((x : Rat) * (a : Rat) + (y : Rat) * (b : Rat)) := by rw [e']; grind
      grind
  · intro w
    exact ⟨w.mul a, w.mul b⟩
def nT (a b : Int) : Nat := (a * a - b * b).natAbs
def kT (a b : Int) : Nat := (a - b).natAbs
structure Two (a b : Int) : Prop where
  g : Nat.gcd a.natAbs b.natAbs = 1
  ba : a.natAbs ≤ 1000000
  bb : b.natAbs ≤ 1000000
structure Lk2 (z : PySem.Str) (x y : Nat) : Prop where
  c : cds z = [x, y]
  ok : okS (cds z)
  ex : (exs (cds z) (cds z)).length ≤ 300
theorem Two.clk {a b : Int} (w : Two a b) {z : PySem.Str} {x y : Nat} (h : Lk2 z x y) : ClkW [a, b] z 1 := ⟨by show 2 ≤ 4; decide, fun c hc => by
  rcases List.mem_cons.mp hc with rfl | hc
  · exact w.ba
  · rw [List.mem_singleton.mp hc]; exact w.bb, by rw [gcdL_cons, gcdL_cons]; show Nat.gcd a.natAbs (Nat.gcd b.natAbs 0) = 1; rw [Nat.gcd_zero_right]; exact w.g, by rw [h.c]; rfl, h.ok, by decide, by decide, h.ex⟩
theorem kT_dvd (a b : Int) : kT a b ∣ nT a b := by
  unfold kT nT
  have : a * a - b * b = (a - b) * (a + b) := by rw [Int.sub_mul, Int.mul_add, Int.mul_add, Int.mul_comm b a]; omega
  rw [this, Int.natAbs_mul]
  exact Nat.dvd_mul_right _ _
theorem nT_lt {a b : Int} (w : Two a b) : nT a b < 2 ^ 42 := by
  have h1 : (a * a).natAbs ≤ 1000000 * 1000000 := by rw [Int.natAbs_mul]; exact Nat.mul_le_mul w.ba w.ba
  have h2 : (b * b).natAbs ≤ 1000000 * 1000000 := by rw [Int.natAbs_mul]; exact Nat.mul_le_mul w.bb w.bb
  have e : (2 : Nat) ^ 42 = 4398046511104 := rfl
  unfold nT
  omega
theorem kT_lt {a b : Int} (w : Two a b) : kT a b < 2 ^ 42 := by
  have e : (2 : Nat) ^ 42 = 4398046511104 := rfl
  have := w.ba
  have := w.bb
  unfold kT
  omega
theorem hasR_ex (x : Match) (t : Rat) : hasR x.1 t ↔ ∃ u, msat x t u := ⟨fun h => ⟨_, h, Eqv.refl _⟩, fun ⟨_, h⟩ => h.1⟩
def SwapM (a b : Int) (x : Match) : Prop := x.1 = (nT a b, 0) ∧ ∀ t, msat x t t ↔ hasR (kT a b, 0) t
def SelfM (x : Match) : Prop := x.1 = (0, 0) ∧ ∀ t, msat x t t
section
variable {a b : Int} {ms : List Match}
theorem self_of (w : Two a b) {x : Match} (gm : GM x) (q : ∀ t u, msat x t u ↔ Eqs [a, b] [a, b] [0, 1] (K.fr (stp 1 0)) t u) : SelfM x := by
  have q' : ∀ t u, msat x t u ↔ Eqv u t := fun t u => (q t u).trans (eqs_two.trans (eqv_two w.g))
  exact ⟨all_row gm.r fun t => (hasR_ex x t).mpr ⟨t, (q' t t).mpr (Eqv.refl t)⟩, fun t => (q' t t).mpr (Eqv.refl t)⟩
theorem swap_of (w : Two a b) {x : Match} (gm : GM x) (q : ∀ t u, msat x t u ↔ Eqs [a, b] [a, b] [1, 0] (K.fr (stp 1 0)) t u) : SwapM a b x := by
  have q' : ∀ t u, msat x t u ↔ Eqv (u * (b : Rat)) (t * (a : Rat)) ∧ Eqv (u * (a : Rat)) (t * (b : Rat)) := fun t u => (q t u).trans eqs_two
  refine ⟨row_uniq gm.r (gr0 (nT_lt w)) fun t => ?_, fun t => ?_⟩
  · rw [hasR_ex]
    refine (exists_congr fun u => q' t u).trans ((two_row (by rw [Nat.gcd_comm]; exact w.g) t).trans ?_)
    exact has_abs
  · rw [q']
    have e : has (a - b) 0 t ↔ hasR (kT a b, 0) t := has_abs
    rw [← e]
    unfold has
    have ec : t * ((a - b : Int) : Rat) = t * (a : Rat) - t * (b : Rat) := by rw [Rat.intCast_sub]; grind
    rw [ec]
    constructor
    · rintro ⟨h, _⟩
      have := (h.symm).sub (Eqv.refl (t * (b : Rat)))
      exact this.trans (Eqv.of_eq (by grind))
    · intro h
      have h1 := h.add (Eqv.refl (t * (b : Rat)))
      have h2 : Eqv (t * (a : Rat)) (t * (b : Rat)) := (Eqv.of_eq (by grind)).trans (h1.trans (Eqv.of_eq (by grind)))
      exact ⟨h2.symm, h2⟩
theorem two_ms (w : Two a b) {x : Nat} (h : MS [a, b] [a, b] [x, x] [x, x] 1 ms) : (∀ y ∈ ms, SelfM y ∨ SwapM a b y) ∧ ∃ y ∈ ms, SwapM a b y := by
  refine ⟨fun y hy => ?_, ?_⟩
  · obtain ⟨e, s, he, hs, q⟩ := h.of y hy
    have s0 : s = 0 := by omega
    subst s0
    rcases ex_same.mp he with rfl | rfl
    · exact .inl (self_of w (h.good y hy) q)
    · exact .inr (swap_of w (h.good y hy) q)
  · rcases h.all [1, 0] 0 (ex_same.mpr (.inr rfl)) (by decide) with ⟨y, hy, q⟩ | q
    · exact ⟨y, hy, swap_of w (h.good y hy) q⟩
    · refine absurd ?_ (q 0 0)
      rw [eqs_two]
      have e : ∀ z : Int, (0 : Rat) * (z : Rat) = 0 := fun z => by grind
      rw [e, e, e, e]
      exact ⟨Eqv.refl 0, Eqv.refl 0⟩
theorem one_ms (w : Two a b) {x y : Nat} (ne : x ≠ y) (h : MS [a, b] [a, b] [x, y] [x, y] 1 ms) : ∀ z ∈ ms, SelfM z := fun z hz => by
  obtain ⟨e, s, he, hs, q⟩ := h.of z hz
  have s0 : s = 0 := by omega
  subst s0
  have he := (ex_diff ne).mp he
  subst he
  exact self_of w (h.good z hz) q
theorem self_kept {x : Match} (h : SelfM x) {o : Option Row} (s : Says o 185 16 (fun t => hasR x.1 t ∧ has (1 + x.2.1) x.2.2 t)) : o = some x.1 := by
  rw [h.1]
  refine says_is s (gr0 (n := 0) (k := 1) (by decide)) (fun t => ?_) (t0 := 0) (hasR_all 0)
  exact (kept_msat x t).trans ⟨fun _ => hasR_all t, fun _ => h.2 t⟩
theorem hasR00 (n : Nat) : hasR (n, 0) 0 := has0 _
theorem swap_kept (w : Two a b) {x : Match} (h : SwapM a b x) {o : Option Row} (s : Says o 185 16 (fun t => hasR x.1 t ∧ has (1 + x.2.1) x.2.2 t)) : o = some (kT a b, 0) :=
  says_is s (gr0 (kT_lt w)) (fun t => (kept_msat x t).trans (h.2 t)) (t0 := 0) (hasR00 _)
def GT (a b : Int) : List Nat := [0, nT a b, kT a b]
theorem GT_gcd (a b : Int) : ∀ c ∈ GT a b, ∀ d ∈ GT a b, Nat.gcd c d ∈ GT a b := by
  have h := kT_dvd a b
  have g1 : Nat.gcd (nT a b) (kT a b) = kT a b := Nat.gcd_eq_right h
  have g2 : Nat.gcd (kT a b) (nT a b) = kT a b := Nat.gcd_eq_left h
  unfold GT
  intro c hc d hd
  simp only [List.mem_cons, List.not_mem_nil, or_false] at hc hd ⊢
  rcases hc with rfl | rfl | rfl <;> rcases hd with rfl | rfl | rfl <;> simp [g1, g2]
theorem univ_two (w : Two a b) : Univ (U0 (GT a b)) 42 1 3 := univ0 (G := GT a b) (by simp [GT]) (GT_gcd a b) (fun c hc => by
  have := nT_lt w
  have := kT_lt w
  have : (0 : Nat) < 2 ^ 42 := by decide
  unfold GT at hc
  simp only [List.mem_cons, List.not_mem_nil, or_false] at hc
  rcases hc with rfl | rfl | rfl <;> assumption) (by decide) (by show 3 ≤ 1000000; decide)
theorem two_famOk (w : Two a b) {x : Nat} {F : List (Row × Option Row)} (h : MS [a, b] [a, b] [x, x] [x, x] 1 ms) (hF : FamM ms F) : FamOk (U0 (GT a b)) F := by
  obtain ⟨k1, _⟩ := two_ms w h
  refine famOk_of hF (fun y hy => ?_) (fun y hy o s r e => ?_)
  · rcases k1 y hy with q | q
    · rw [q.1]; exact ⟨rfl, by simp [GT]⟩
    · rw [q.1]; exact ⟨rfl, by simp [GT]⟩
  · rcases k1 y hy with q | q
    · have := self_kept q s
      rw [e, q.1] at this
      cases this
      exact ⟨rfl, by simp [GT]⟩
    · have := swap_kept w q s
      rw [e] at this
      cases this
      exact ⟨rfl, by simp [GT]⟩
theorem two_inF (w : Two a b) {x : Nat} {F : List (Row × Option Row)} (h : MS [a, b] [a, b] [x, x] [x, x] 1 ms) (hF : FamM ms F) (t : Rat) : InF F t ↔ hasR (nT a b, 0) t ∧ ¬ hasR (kT a b, 0) t := by
  obtain ⟨k1, y0, hy0, k0⟩ := two_ms w h
  constructor
  · rintro ⟨f, hf, h1, h2⟩
    obtain ⟨y, hy, e, ne, s⟩ := hF.of f hf
    rcases k1 y hy with q | q
    · exact absurd (self_kept q s) ne
    · rw [e, q.1] at h1
      exact ⟨h1, fun z => h2 ⟨_, swap_kept w q s, z⟩⟩
  · rintro ⟨h1, h2⟩
    obtain ⟨o, s, ho⟩ := hF.all y0 hy0
    have eo := swap_kept w k0 s
    subst eo
    rcases ho with ho | ho
    · rw [k0.1] at ho
      have : kT a b = nT a b := congrArg Prod.fst (Option.some.inj ho)
      rw [this] at h2
      exact absurd h1 h2
    · exact ⟨_, ho, by rw [k0.1]; exact h1, fun ⟨r, er, hr⟩ => by cases er; exact h2 hr⟩
theorem two_all (w : Two a b) {x : Nat} {F : List (Row × Option Row)} (h : MS [a, b] [a, b] [x, x] [x, x] 1 ms) (hF : FamM ms F) : (0, 0) ∈ F.map (·.1) ↔ nT a b = 0 ∧ kT a b ≠ 0 := by
  obtain ⟨k1, y0, hy0, k0⟩ := two_ms w h
  rw [List.mem_map]
  constructor
  · rintro ⟨f, hf, e0⟩
    obtain ⟨y, hy, e, ne, s⟩ := hF.of f hf
    rcases k1 y hy with q | q
    · exact absurd (self_kept q s) ne
    · rw [e, q.1] at e0
      have z : nT a b = 0 := congrArg Prod.fst e0
      refine ⟨z, fun k => ne ?_⟩
      rw [swap_kept w q s, q.1, z, k]
  · rintro ⟨z, k⟩
    obtain ⟨o, s, ho⟩ := hF.all y0 hy0
    have eo := swap_kept w k0 s
    subst eo
    rcases ho with ho | ho
    · rw [k0.1] at ho
      have : kT a b = nT a b := congrArg Prod.fst (Option.some.inj ho)
      omega
    · exact ⟨_, ho, by rw [k0.1, z]⟩
end
theorem cnt_split (l : List Rat) (Q : Rat → Prop) : cnt l Q + cnt l (fun t => ¬ Q t) = (l.length : Nat) := by
  induction l with
  | nil => rfl
  | cons x l ih =>
    rw [cnt_cons, cnt_cons, List.length_cons]
    by_cases h : Q x
    · rw [oneIf_t h, oneIf_f (fun z => z h)]; omega
    · rw [oneIf_f h, oneIf_t h]; omega
theorem row_in {k n : Nat} (h : k ∣ n) (t : Rat) (w : hasR (k, 0) t) : hasR (n, 0) t := by
  obtain ⟨c, rfl⟩ := h
  have w : Eqv (t * ((k : Int) : Rat)) 0 := w
  have := w.mul (c : Int)
  have z : (0 : Rat) * ((c : Int) : Rat) = 0 := by grind
  rw [z] at this
  show Eqv (t * (((k * c : Nat) : Int) : Rat)) 0
  rw [Int.natCast_mul, Rat.intCast_mul]
  exact (Eqv.of_eq (by grind)).trans this
theorem two_len {n k : Nat} (hn : n ≠ 0) (h : k ∣ n) {T : List Rat} (hT : Asc T) (m : ∀ t, t ∈ T ↔ (0 ≤ t ∧ t < 1) ∧ hasR (n, 0) t ∧ ¬ hasR (k, 0) t) : ((T.length : Nat) : Int) = (n : Int) - (k : Int) := by
  have n0 := Nat.pos_of_ne_zero hn
  have k0 : 0 < k := Nat.pos_of_ne_zero fun z => by subst z; rw [Nat.zero_dvd] at h; omega
  have mn : ∀ t, t ∈ tsR (n, 0) ↔ (0 ≤ t ∧ t < 1) ∧ hasR (n, 0) t := fun t => mem_tsR (r := (n, 0)) n0 (show (0 : Rat) ≤ 0 by decide) (show (0 : Rat) < 1 by decide)
  have mk : ∀ t, t ∈ tsR (k, 0) ↔ (0 ≤ t ∧ t < 1) ∧ hasR (k, 0) t := fun t => mem_tsR (r := (k, 0)) k0 (show (0 : Rat) ≤ 0 by decide) (show (0 : Rat) < 1 by decide)
  have s := cnt_split (tsR (n, 0)) fun t => hasR (k, 0) t
  have e1 : cnt (tsR (n, 0)) (fun t => hasR (k, 0) t) = cnt (tsR (k, 0)) fun _ => True := cnt_same (asc_nodup (asc_tsR n0)) (asc_nodup (asc_tsR k0)) fun t => by
    rw [mn, mk]
    exact ⟨fun z => ⟨⟨z.1.1, z.2⟩, trivial⟩, fun z => ⟨⟨z.1.1, row_in h t z.1.2⟩, z.1.2⟩⟩
  have e2 : cnt (tsR (n, 0)) (fun t => ¬ hasR (k, 0) t) = cnt T fun _ => True := cnt_same (asc_nodup (asc_tsR n0)) (asc_nodup hT) fun t => by
    rw [mn, m]
    exact ⟨fun z => ⟨⟨z.1.1, z.1.2, z.2⟩, trivial⟩, fun z => ⟨⟨z.1.1, z.1.2.1⟩, z.1.2.2⟩⟩
  have e3 : ((tsR (n, 0)).length : Nat) = n := by unfold tsR; rw [List.length_map, List.length_range]
  rw [e1, e2, ← cnt_row (r := (k, 0)), cnt_all (fun _ _ => trivial), e3] at s
  have s : (k : Int) + ((T.length : Nat) : Int) = (n : Int) := s
  omega
theorem two_sym {n k : Nat} {T : List Rat} (hT : Asc T) (m : ∀ t, t ∈ T ↔ (0 ≤ t ∧ t < 1) ∧ hasR (n, 0) t ∧ ¬ hasR (k, 0) t) {x y : Rat} (hx : T[0]? = some x) (hy : T[T.length - 1]? = some y) : x + y = 1 := by
  have neg : ∀ (j : Nat) (t : Rat), hasR (j, 0) (1 - t) ↔ hasR (j, 0) t := fun j t => by
    show Eqv ((1 - t) * ((j : Int) : Rat)) 0 ↔ Eqv (t * ((j : Int) : Rat)) 0
    have e : (1 - t) * ((j : Int) : Rat) = ((j : Int) : Rat) - t * ((j : Int) : Rat) := by grind
    rw [e]
    constructor
    · intro w
      have := (Eqv.int (j : Int)).sub w
      exact (Eqv.of_eq (by grind)).trans (this.trans (Eqv.of_eq (by grind)))
    · intro w
      have := (Eqv.int (j : Int)).sub w
      exact this.trans (Eqv.of_eq (by grind))
  have pos : ∀ t ∈ T, 0 < t := fun t ht => by
    have := (m t).mp ht
    rcases Rat.le_iff_lt_or_eq.mp this.1.1 with w | w
    · exact w
    · rw [← w] at this
      exact absurd (hasR00 k) this.2.2
  have a2 : Asc (T.map fun t => 1 - t).reverse := by
    unfold Asc
    rw [List.pairwise_reverse, List.pairwise_map]
    exact hT.imp fun w => by grind
  have e : (T.map fun t => 1 - t).reverse = T := asc_uniq a2 hT fun t => by
    rw [List.mem_reverse, List.mem_map]
    constructor
    · rintro ⟨u, hu, rfl⟩
      have p := pos u hu
      have q := (m u).mp hu
      exact (m _).mpr ⟨⟨by grind, by grind⟩, (neg n u).mpr q.2.1, fun z => q.2.2 ((neg k u).mp z)⟩
    · intro ht
      have p := pos t ht
      have q := (m t).mp ht
      exact ⟨1 - t, (m _).mpr ⟨⟨by grind, by grind⟩, (neg n t).mpr q.2.1, fun z => q.2.2 ((neg k t).mp z)⟩, by grind⟩
  have l0 : 0 < T.length := by
    rcases Nat.eq_zero_or_pos T.length with z | z
    · have : T = [] := List.eq_nil_of_length_eq_zero z
      rw [this] at hx
      cases hx
    · exact z
  have g : (T.map fun t => 1 - t).reverse[0]? = some (1 - y) := by
    rw [List.getElem?_reverse (by rw [List.length_map]; exact l0), List.length_map, List.getElem?_map]
    have : T.length - 1 - 0 = T.length - 1 := by omega
    rw [this, hy]
    rfl
  rw [e, hx] at g
  have := Option.some.inj g
  grind
end K
namespace K
open DL
open L2 (atI ixN)
def dueD (a b : Int) : D := if a + b = 0 then .non else .int (((a - b).natAbs : Int) * (((a + b).natAbs : Int) - 1))
theorem nT_is (a b : Int) : nT a b = (a - b).natAbs * (a + b).natAbs := by
  unfold nT
  have : a * a - b * b = (a - b) * (a + b) := by rw [Int.sub_mul, Int.mul_add, Int.mul_add, Int.mul_comm b a]; omega
  rw [this, Int.natAbs_mul]
theorem two_nz {a b : Int} (w : Two a b) (h : a + b ≠ 0) : nT a b ≠ 0 ∨ (nT a b = 0 ∧ kT a b = 0) := by
  rw [nT_is]
  unfold kT
  by_cases z : (a - b).natAbs = 0
  · exact .inr ⟨by rw [z, Nat.zero_mul], z⟩
  · exact .inl (Nat.mul_ne_zero z (by omega))
theorem due_eq {a b : Int} (h : a + b ≠ 0) : dueD a b = .int ((nT a b : Int) - (kT a b : Int)) := by
  unfold dueD
  rw [if_neg h, nT_is, Int.natCast_mul]
  unfold kT
  rw [Int.mul_sub, Int.mul_one]
structure UT (a b : Int) (T : List Rat) : Prop where
  asc : Asc T
  mem : ∀ t, t ∈ T ↔ (0 ≤ t ∧ t < 1) ∧ hasR (nT a b, 0) t ∧ ¬ hasR (kT a b, 0) t
theorem ut_len {a b : Int} (w : Two a b) (h : a + b ≠ 0) {T : List Rat} (u : UT a b T) : ((T.length : Nat) : Int) = (nT a b : Int) - (kT a b : Int) := by
  rcases two_nz w h with z | ⟨z1, z2⟩
  · exact two_len z (kT_dvd a b) u.asc u.mem
  · have : T = [] := by
      apply List.eq_nil_iff_forall_not_mem.mpr
      intro t ht
      have q := (u.mem t).mp ht
      rw [z1, z2] at q
      exact q.2.2 q.2.1
    rw [this, z1, z2]; rfl
theorem ut_of {a b : Int} (w : Two a b) {x : Nat} {ms : List Match} {F : List (Row × Option Row)} (h : MS [a, b] [a, b] [x, x] [x, x] 1 ms) (hF : FamM ms F) {T : List Rat} (hT : FamT F T) : UT a b T :=
  ⟨hT.1, fun t => (hT.2 t).trans (and_congr Iff.rfl (two_inF w h hF t))⟩
theorem cu_two {a b : Int} (w : Two a b) {z : PySem.Str} {x : Nat} (h : Lk2 z x x) (S : List D) : m_count_unclear [clkD [a, b] z ((1 : Nat) : Int)] S = some (dueD a b, S) := by
  obtain ⟨ms, F, hms, e1, hF⟩ := m_families_F (w.clk h) S
  rw [h.c] at hms
  have G := two_famOk w hms hF
  have ca := m_count_all_ex (univ_two w) (by decide) F G (Nat.le_trans hF.len (by decide)) S
  have e2 : m_count_all [.lst (F.map famD)] S = some (dueD a b, S) := by
    rcases ca with ⟨h1, e⟩ | ⟨h1, T, hT, e⟩
    · obtain ⟨n0, k0⟩ := (two_all w hms hF).mp h1
      have z0 : a + b = 0 := by
        apply Classical.byContradiction
        intro nz
        rcases two_nz w nz with q | q
        · exact q n0
        · exact k0 q.2
      have : dueD a b = .non := if_pos z0
      rw [this]; exact e
    · have nz : a + b ≠ 0 := fun z0 => h1 ((two_all w hms hF).mpr ⟨by rw [nT_is, z0]; exact Nat.mul_zero _, fun k => by
        unfold kT at k
        have g := w.g
        have a0 : a = 0 := by omega
        have b0 : b = 0 := by omega
        rw [a0, b0] at g
        exact absurd g (by decide)⟩)
      rw [due_eq nz, e, ut_len w nz (ut_of w hms hF hT)]
  unfold m_count_unclear g_count_unclear
  refine run_rt (ρ := [.val (clkD [a, b] z ((1 : Nat) : Int))]) rfl (ret_s ?_)
  exact call_s (ds := [.lst (F.map famD)]) (S' := S) (aC_s (S' := S) (call_s (ds := [clkD [a, b] z ((1 : Nat) : Int)]) (S' := S) rfl rfl e1) rfl) rfl e2
theorem ut_ex {a b : Int} (w : Two a b) {z : PySem.Str} {x : Nat} (h : Lk2 z x x) (nz : a + b ≠ 0) : ∃ T, UT a b T ∧ ∀ (i : Nat) (S : List D), m_unclear_at [clkD [a, b] z ((1 : Nat) : Int), .int (i : Nat)] S = some (oR T[i]?, S) := by
  have one : ∀ S : List D, ∃ T, UT a b T ∧ ∀ (i : Nat), m_unclear_at [clkD [a, b] z ((1 : Nat) : Int), .int (i : Nat)] S = some (oR T[i]?, S) := fun S => by
    obtain ⟨ms, F, hms, e1, hF⟩ := m_families_F (w.clk h) S
    rw [h.c] at hms
    have G := two_famOk w hms hF
    have na : (0, 0) ∉ F.map (·.1) := fun q => by
      obtain ⟨n0, k0⟩ := (two_all w hms hF).mp q
      rcases two_nz w nz with q | q
      · exact q n0
      · exact k0 q.2
    obtain ⟨R, T, er, o, hT, hU, hR⟩ := m_rows_of_ex (univ_two w) F G (no_all (univ_two w) G na) S
    refine ⟨T, ut_of w hms hF hT, fun i => ?_⟩
    have hS : ∀ p ∈ R, SmallR p.1 := fun p hp => ⟨o.ok.pos p hp, Nat.lt_of_lt_of_le ((univ_two w).gr _ (hU p hp)).n (by decide), ((univ_two w).gr _ (hU p hp)).p.mono (by decide)⟩
    have hl : R.length ≤ 16777216 := by omega
    have et : m_time_at [.lst (F.map famD), .int (i : Nat)] S = some (oR T[i]?, S) := by
      by_cases n0 : nT a b = 0
      · have k0 : kT a b = 0 := by
          rcases two_nz w nz with q | q
          · exact absurd n0 q
          · exact q.2
        have hR0 : R = [] := List.eq_nil_iff_forall_not_mem.mpr fun p hp => by
          have := o.ok.pos p hp
          have q := (hU p hp).2
          unfold GT at q
          rw [n0, k0] at q
          simp at q
          omega
        exact m_time_at_rows o hS hl (N := 1) (by decide) (by decide) (fun p hp => by rw [hR0] at hp; cases hp) _ S er i
      · refine m_time_at_rows o hS hl (N := nT a b) (Nat.pos_of_ne_zero n0) (Nat.lt_of_lt_of_le (nT_lt w) (Nat.pow_le_pow_right (by decide) (by decide))) (fun p hp => ?_) _ S er i
        have q := hU p hp
        have hd : p.1.2.den = 1 := by rw [q.1]; rfl
        rw [hd, Nat.mul_one]
        have := o.ok.pos p hp
        have q := q.2
        unfold GT at q
        simp only [List.mem_cons, List.not_mem_nil, or_false] at q
        rcases q with q | q | q
        · omega
        · rw [q]; exact Nat.dvd_refl _
        · rw [q]; exact kT_dvd a b
    unfold m_unclear_at g_unclear_at
    refine run_rt (ρ := [.val (clkD [a, b] z ((1 : Nat) : Int)), .val (.int (i : Nat)), .non]) rfl ?_
    refine (seq_nx (set_s (d := .lst (F.map famD)) (S' := S) (call_s (ds := [clkD [a, b] z ((1 : Nat) : Int)]) (S' := S) rfl rfl e1))).trans ?_
    simp only [List.set_cons_succ, List.set_cons_zero]
    have ee := m_is_endless_eq F (Nat.le_trans hF.len (by decide)) S
    rw [decide_eq_false na] at ee
    refine ret_s ((eif_f (cV_s (call_s (ds := [.lst (F.map famD)]) (S' := S) rfl rfl ee))).trans ?_)
    exact call_s (ds := [.lst (F.map famD), .int (i : Nat)]) (S' := S) rfl rfl et
  obtain ⟨T, u, _⟩ := one []
  refine ⟨T, u, fun i S => ?_⟩
  obtain ⟨T', u', e⟩ := one S
  have : T' = T := asc_uniq u'.asc u.asc fun t => (u'.mem t).trans (u.mem t).symm
  rw [← this]
  exact e i
theorem clear_two {a b : Int} (w : Two a b) {z : PySem.Str} {x : Nat} (h : Lk2 z x x) (S : List D) : m_is_clear [clkD [a, b] z ((1 : Nat) : Int)] S = some (.bl (decide (nT a b = kT a b)), S) := by
  obtain ⟨ms, kf, bb, hms, hs, e, hb⟩ := m_is_clear_ex (w.clk h) S
  rw [h.c] at hms
  obtain ⟨k1, y0, hy0, k0⟩ := two_ms w hms
  have : bb = decide (nT a b = kT a b) := by
    rw [Bool.eq_iff_iff, hb, decide_eq_true_iff]
    constructor
    · intro q
      have := q y0 hy0
      rw [swap_kept w k0 (hs y0 hy0), k0.1] at this
      exact (congrArg Prod.fst (Option.some.inj this)).symm
    · intro q y hy
      rcases k1 y hy with r | r
      · exact self_kept r (hs y hy)
      · rw [swap_kept w r (hs y hy), r.1, q]
  rw [← this]
  exact e
theorem clear_diff {a b : Int} (w : Two a b) {z : PySem.Str} {x y : Nat} (ne : x ≠ y) (h : Lk2 z x y) (S : List D) : m_is_clear [clkD [a, b] z ((1 : Nat) : Int)] S = some (.bl true, S) := by
  obtain ⟨ms, kf, bb, hms, hs, e, hb⟩ := m_is_clear_ex (w.clk h) S
  rw [h.c] at hms
  have : bb = true := hb.mpr fun y hy => self_kept (one_ms w ne hms y hy) (hs y hy)
  rw [← this]
  exact e
theorem okS_all {z : PySem.Str} (h : ((cds z).all fun c => PySem.PyData.strOk (sgn c)) = true) : okS (cds z) := fun c hc => List.all_eq_true.mp h c hc
theorem lk_aa : Lk2 "aa" 97 97 := ⟨by decide +kernel, okS_all (by decide +kernel), by decide +kernel⟩
theorem lk_bb : Lk2 "bb" 98 98 := ⟨by decide +kernel, okS_all (by decide +kernel), by decide +kernel⟩
theorem lk_ab : Lk2 "ab" 97 98 := ⟨by decide +kernel, okS_all (by decide +kernel), by decide +kernel⟩
def lb1 : Sv := (sSet 3 (eIx (eLst (aC (eC (.int 9)) (aC (eBin dPow (eC (.int 10)) (eC (.int 3))) (aC (eBin dPow (eC (.int 10)) (eC (.int 6))) aN)))) (eCall 2 m_law_draw (aC (eV 1) (aC (eC (.int 3)) aN)))))
def lb2 : Sv := (sPar 4 5 (eBin dAdd (eC (.int 1)) (eCall 2 m_law_draw (aC (eV 1) (aC (eV 3) aN)))) (eBin dAdd (eC (.int 1)) (eCall 2 m_law_draw (aC (eV 1) (aC (eV 3) aN)))))
def lb3 : Sv := (sSet 6 (eCall 2 m_law_gcd (aC (eV 4) (aC (eV 5) aN))))
def lb4 : Sv := (sPar 4 5 (eBin dDiv (eB 4) (eB 6)) (eBin dMul (eBin dDiv (eB 5) (eB 6)) (eIx (eLst (aC (eC (.int 1)) (aC (eC (.int 1)) (aC (eUn dNeg (eC (.int 1))) aN)))) (eCall 2 m_law_draw (aC (eV 1) (aC (eC (.int 3)) aN))))))
def lb5 : Sv := (sSet 7 (eTup (aC (eTup (aC (eV 4) (aC (eV 5) aN))) (aC (eC (.str "aa")) (aC (eC (.int 1)) aN)))))
def lb6 : Sv := (sSet 8 (eIf (cV (eBin dEq (eBin dAdd (eB 4) (eB 5)) (eC (.int 0)))) (eC .non) (eBin dMul (eUn dAbs (eBin dSub (eB 4) (eB 5))) (eBin dSub (eUn dAbs (eBin dAdd (eB 4) (eB 5))) (eC (.int 1))))))
def lb7 : Sv := (sIf (cOr (cNot (cV (eCall 2 (m_law_like 8) (aC (eCall 1 m_count_unclear (aC (eV 7) aN)) (aC (eV 8) aN))))) (cV (eBin dNe (eCall 1 m_count_unclear (aC (eTup (aC (eTup (aC (eUn dNeg (eB 5)) (aC (eUn dNeg (eB 4)) aN))) (aC (eC (.str "bb")) (aC (eC (.int 1)) aN)))) aN)) (eB 8)))) (sRet (eC (.bl false))) sNil)
def lb8 : Sv := (sIf (cOr (cNot (cV (eCall 2 (m_law_like 8) (aC (eCall 1 m_is_clear (aC (eV 7) aN)) (aC (eBin dEq (eB 8) (eC (.int 0))) aN))))) (cV (eBin dNotB (eCall 1 m_is_clear (aC (eTup (aC (eTup (aC (eV 4) (aC (eV 5) aN))) (aC (eC (.str "ab")) (aC (eC (.int 1)) aN)))) aN)) (eC (.bl true))))) (sRet (eC (.bl false))) sNil)
def lb9 : Sv := (sIf (cAnd (cV (eBin dNotN (eB 8) (eC .non))) (cV (eBin dGt (eB 8) (eC (.int 0))))) (sSeq (sPar 9 10 (eCall 2 m_unclear_at (aC (eV 7) (aC (eC (.int 0)) aN))) (eCall 2 m_unclear_at (aC (eV 7) (aC (eBin dSub (eB 8) (eC (.int 1))) aN)))) (sIf (cOr (cV (eBin dNe (eCall 2 m_law_sum (aC (eV 9) (aC (eV 10) aN))) (eTup (aC (eC (.int 0)) (aC (eC (.int 1)) aN))))) (cV (eBin dNotN (eCall 2 m_unclear_at (aC (eV 7) (aC (eV 8) aN))) (eC .non)))) (sRet (eC (.bl false))) sNil)) sNil)
def lawBody : Sv := (sSeq lb1 (sSeq lb2 (sSeq lb3 (sSeq lb4 (sSeq lb5 (sSeq lb6 (sSeq lb7 (sSeq lb8 lb9))))))))
def lt1 : Sv := (sRet (eBin dEq (eCall 1 m_count_unclear (aC (eTup (aC (eTup (aC (eBin dPow (eC (.int 10)) (eC (.int 6))) (aC (eUn dNeg (eC (.int 7))) aN))) (aC (eC (.str "aa")) (aC (eC (.int 1)) aN)))) aN)) (eC (.int 999998999944))))
def lawTail : Sv := lt1
theorem g_law_is : g_law = (sCell 1 (eLst (aC (eUnF lOf (eB 0)) (aC (eC (.int 0)) (aC (eC (.int 0)) aN)))) (sSeq (sFor (.nm 2) (iRange1 (aC (eC (.int 20)) aN)) lawBody) lawTail)) := rfl
theorem dueD_flat (a b : Int) : lkD 7 (dueD a b) = true := by
  unfold dueD
  split <;> rfl
theorem due_swap (a b : Int) : dueD (-b) (-a) = dueD a b := by
  unfold dueD
  have e : -b + -a = -(a + b) := by omega
  have e2 : -b - -a = a - b := by omega
  rw [e, e2, Int.natAbs_neg]
  by_cases h : a + b = 0
  · rw [if_pos h, if_pos (by omega)]
  · rw [if_neg h, if_neg (by omega)]
theorem dv_eqD0 (a b : Int) (w : Two a b) : dEq (dueD a b) (.int 0) = some (.bl (decide (nT a b = kT a b))) := by
  by_cases h : a + b = 0
  · have e : dueD a b = .non := if_pos h
    rw [e]
    have hn : nT a b = 0 := by rw [nT_is, h]; exact Nat.mul_zero _
    have hk : kT a b ≠ 0 := fun k => by
      unfold kT at k
      have g := w.g
      have a0 : a = 0 := by omega
      have b0 : b = 0 := by omega
      rw [a0, b0] at g
      exact absurd g (by decide)
    rw [decide_eq_false (by omega)]
    rfl
  · rw [due_eq h, dv_eqI]
    congr 2
    exact decide_eq_decide.mpr (by omega)
theorem dv_neDue (a b : Int) : dNe (dueD a b) (dueD a b) = some (.bl false) := by
  unfold dueD
  split
  · rfl
  · rw [dv_neI, decide_eq_true rfl]; rfl
theorem pick3 (r : Int) (h0 : 0 ≤ r) (h1 : r < 3) (x y z : Int) (S : List D) : ∃ v, (v = x ∨ v = y ∨ v = z) ∧ ixD S (.lst [.int x, .int y, .int z]) (.int r) = some (.int v) := by
  have : r = 0 ∨ r = 1 ∨ r = 2 := by omega
  rcases this with rfl | rfl | rfl
  · exact ⟨x, .inl rfl, rfl⟩
  · exact ⟨y, .inr (.inl rfl), rfl⟩
  · exact ⟨z, .inr (.inr rfl), rfl⟩
theorem two_of {p q : Int} (hp : 0 < p) (hq : 0 < q) (bp : p ≤ 1000000) (bq : q ≤ 1000000) {s : Int} (hs : s = 1 ∨ s = -1) : Two (p / (Int.gcd p q : Int)) (q / (Int.gcd p q : Int) * s) := by
  have g0 : 0 < Int.gcd p q := Int.gcd_pos_of_ne_zero_left _ (by omega)
  have e1 : Nat.gcd (p / (Int.gcd p q : Int)).natAbs (q / (Int.gcd p q : Int)).natAbs = 1 := by
    have d1 : (Int.gcd p q : Int) ∣ p := Int.gcd_dvd_left ..
    have d2 : (Int.gcd p q : Int) ∣ q := Int.gcd_dvd_right ..
    rw [Int.natAbs_ediv_of_dvd d1, Int.natAbs_ediv_of_dvd d2, Int.natAbs_natCast]
    exact Nat.coprime_div_gcd_div_gcd (Int.gcd_pos_of_ne_zero_left _ (by omega) : 0 < Int.gcd p q)
  have l1 : (p / (Int.gcd p q : Int)).natAbs ≤ 1000000 := by
    have h1 := Int.ediv_le_self (a := p) (Int.gcd p q : Int) (by omega)
    have h2 := Int.ediv_nonneg (show 0 ≤ p by omega) (show (0 : Int) ≤ (Int.gcd p q : Int) by omega)
    omega
  have l2 : (q / (Int.gcd p q : Int)).natAbs ≤ 1000000 := by
    have h1 := Int.ediv_le_self (a := q) (Int.gcd p q : Int) (by omega)
    have h2 := Int.ediv_nonneg (show 0 ≤ q by omega) (show (0 : Int) ≤ (Int.gcd p q : Int) by omega)
    omega
  have l3 : (q / (Int.gcd p q : Int) * s).natAbs = (q / (Int.gcd p q : Int)).natAbs := by
    rcases hs with rfl | rfl
    · rw [Int.mul_one]
    · rw [Int.mul_neg, Int.mul_one, Int.natAbs_neg]
  exact ⟨by rw [l3]; exact e1, l1, by rw [l3]; exact l2⟩
theorem Two.swap {a b : Int} (w : Two a b) : Two (-b) (-a) := ⟨by rw [Int.natAbs_neg, Int.natAbs_neg, Nat.gcd_comm]; exact w.g, by rw [Int.natAbs_neg]; exact w.bb, by rw [Int.natAbs_neg]; exact w.ba⟩
theorem P_time {n : Nat} {x : Rat} {r : Row} (hn : r.1 * r.2.den < 2 ^ n) (h0 : 0 < r.1 * r.2.den) (x0 : 0 ≤ x) (x1 : x < 1) (h : hasR r x) : P n x := ⟨x0, x1, Nat.lt_of_le_of_lt (Nat.le_of_dvd h0 (row_den h)) hn⟩
theorem lb7_s {a b : Int} (w : Two a b) (s0 s1 s2 s3 s6 s9 s10 : Slot) (S : List D) : lb7 [s0, s1, s2, s3, .val (.int a), .val (.int b), s6, .val (clkD [a, b] "aa" ((1 : Nat) : Int)), .val (dueD a b), s9, s10] S = some (.nx [s0, s1, s2, s3, .val (.int a), .val (.int b), s6, .val (clkD [a, b] "aa" ((1 : Nat) : Int)), .val (dueD a b), s9, s10] S) := by
  have c1 : eCall 1 m_count_unclear (aC (eV 7) aN) [s0, s1, s2, s3, .val (.int a), .val (.int b), s6, .val (clkD [a, b] "aa" ((1 : Nat) : Int)), .val (dueD a b), s9, s10] S = some (dueD a b, S) := call_s (ds := [clkD [a, b] "aa" ((1 : Nat) : Int)]) (S' := S) rfl rfl (cu_two w lk_aa S)
  have c2 : cV (eCall 2 (m_law_like 8) (aC (eCall 1 m_count_unclear (aC (eV 7) aN)) (aC (eV 8) aN))) [s0, s1, s2, s3, .val (.int a), .val (.int b), s6, .val (clkD [a, b] "aa" ((1 : Nat) : Int)), .val (dueD a b), s9, s10] S = some (true, S) :=
    cV_s (call_s (ds := [dueD a b, dueD a b]) (S' := S) (aC_s c1 rfl) rfl (like_refl 7 _ S (dueD_flat a b)))
  have c3 : eCall 1 m_count_unclear (aC (eTup (aC (eTup (aC (eUn dNeg (eB 5)) (aC (eUn dNeg (eB 4)) aN))) (aC (eC (.str "bb")) (aC (eC (.int 1)) aN)))) aN) [s0, s1, s2, s3, .val (.int a), .val (.int b), s6, .val (clkD [a, b] "aa" ((1 : Nat) : Int)), .val (dueD a b), s9, s10] S = some (dueD a b, S) :=
    call_s (ds := [clkD [-b, -a] "bb" ((1 : Nat) : Int)]) (S' := S) rfl rfl (by rw [← due_swap a b]; exact cu_two w.swap lk_bb S)
  have c4 : cV (eBin dNe (eCall 1 m_count_unclear (aC (eTup (aC (eTup (aC (eUn dNeg (eB 5)) (aC (eUn dNeg (eB 4)) aN))) (aC (eC (.str "bb")) (aC (eC (.int 1)) aN)))) aN)) (eB 8)) [s0, s1, s2, s3, .val (.int a), .val (.int b), s6, .val (clkD [a, b] "aa" ((1 : Nat) : Int)), .val (dueD a b), s9, s10] S = some (false, S) :=
    cV_s (bin_s c3 (d2 := dueD a b) (S2 := S) rfl (dv_neDue a b))
  unfold lb7
  refine (if_f (S' := S) ?_).trans rfl
  rw [ev_cOr, cNot_s c2, Option.bind_some]
  exact c4
theorem lb8_s {a b : Int} (w : Two a b) (s0 s1 s2 s3 s6 s9 s10 : Slot) (S : List D) : lb8 [s0, s1, s2, s3, .val (.int a), .val (.int b), s6, .val (clkD [a, b] "aa" ((1 : Nat) : Int)), .val (dueD a b), s9, s10] S = some (.nx [s0, s1, s2, s3, .val (.int a), .val (.int b), s6, .val (clkD [a, b] "aa" ((1 : Nat) : Int)), .val (dueD a b), s9, s10] S) := by
  have c1 : eCall 1 m_is_clear (aC (eV 7) aN) [s0, s1, s2, s3, .val (.int a), .val (.int b), s6, .val (clkD [a, b] "aa" ((1 : Nat) : Int)), .val (dueD a b), s9, s10] S = some (.bl (decide (nT a b = kT a b)), S) := call_s (ds := [clkD [a, b] "aa" ((1 : Nat) : Int)]) (S' := S) rfl rfl (clear_two w lk_aa S)
  have c0 : eBin dEq (eB 8) (eC (.int 0)) [s0, s1, s2, s3, .val (.int a), .val (.int b), s6, .val (clkD [a, b] "aa" ((1 : Nat) : Int)), .val (dueD a b), s9, s10] S = some (.bl (decide (nT a b = kT a b)), S) := bin_s (d := dueD a b) (S' := S) (d2 := .int 0) (S2 := S) rfl rfl (dv_eqD0 a b w)
  have c2 : cV (eCall 2 (m_law_like 8) (aC (eCall 1 m_is_clear (aC (eV 7) aN)) (aC (eBin dEq (eB 8) (eC (.int 0))) aN))) [s0, s1, s2, s3, .val (.int a), .val (.int b), s6, .val (clkD [a, b] "aa" ((1 : Nat) : Int)), .val (dueD a b), s9, s10] S = some (true, S) :=
    cV_s (call_s (ds := [.bl (decide (nT a b = kT a b)), .bl (decide (nT a b = kT a b))]) (S' := S) (aC_s c1 (aC_s c0 rfl)) rfl (like_refl 7 _ S rfl))
  have c3 : eCall 1 m_is_clear (aC (eTup (aC (eTup (aC (eV 4) (aC (eV 5) aN))) (aC (eC (.str "ab")) (aC (eC (.int 1)) aN)))) aN) [s0, s1, s2, s3, .val (.int a), .val (.int b), s6, .val (clkD [a, b] "aa" ((1 : Nat) : Int)), .val (dueD a b), s9, s10] S = some (.bl true, S) :=
    call_s (ds := [clkD [a, b] "ab" ((1 : Nat) : Int)]) (S' := S) rfl rfl (clear_diff w (by decide) lk_ab S)
  have c4 : cV (eBin dNotB (eCall 1 m_is_clear (aC (eTup (aC (eTup (aC (eV 4) (aC (eV 5) aN))) (aC (eC (.str "ab")) (aC (eC (.int 1)) aN)))) aN)) (eC (.bl true))) [s0, s1, s2, s3, .val (.int a), .val (.int b), s6, .val (clkD [a, b] "aa" ((1 : Nat) : Int)), .val (dueD a b), s9, s10] S = some (false, S) :=
    cV_s (bin_s c3 (d2 := .bl true) (S2 := S) rfl rfl)
  unfold lb8
  refine (if_f (S' := S) ?_).trans rfl
  rw [ev_cOr, cNot_s c2, Option.bind_some]
  exact c4
theorem dv_notN (d : D) : dNotN d .non = some (.bl (!isNonD d)) := by cases d <;> rfl
theorem lb9_s {a b : Int} (w : Two a b) (s0 s1 s2 s3 s6 s9 s10 : Slot) (S : List D) : ∃ s9' s10', lb9 [s0, s1, s2, s3, .val (.int a), .val (.int b), s6, .val (clkD [a, b] "aa" ((1 : Nat) : Int)), .val (dueD a b), s9, s10] S = some (.nx [s0, s1, s2, s3, .val (.int a), .val (.int b), s6, .val (clkD [a, b] "aa" ((1 : Nat) : Int)), .val (dueD a b), s9', s10'] S) := by
  have c1 : cV (eBin dNotN (eB 8) (eC .non)) [s0, s1, s2, s3, .val (.int a), .val (.int b), s6, .val (clkD [a, b] "aa" ((1 : Nat) : Int)), .val (dueD a b), s9, s10] S = some (!isNonD (dueD a b), S) := cV_s (bin_s (d := dueD a b) (S' := S) (d2 := .non) (S2 := S) rfl rfl (dv_notN _))
  by_cases nz : a + b = 0
  · refine ⟨s9, s10, ?_⟩
    have e : dueD a b = .non := if_pos nz
    rw [e] at c1 ⊢
    unfold lb9
    refine (if_f (S' := S) ?_).trans rfl
    rw [ev_cAnd, c1]
    rfl
  · have eD := due_eq nz
    obtain ⟨T, u, ua⟩ := ut_ex w lk_aa nz
    have tl := ut_len w nz u
    have nn : isNonD (dueD a b) = false := by rw [eD]; rfl
    have c2 : cV (eBin dGt (eB 8) (eC (.int 0))) [s0, s1, s2, s3, .val (.int a), .val (.int b), s6, .val (clkD [a, b] "aa" ((1 : Nat) : Int)), .val (dueD a b), s9, s10] S = some (decide (0 < (T.length : Int)), S) := by
      refine cV_s (bin_s (d := dueD a b) (S' := S) (d2 := .int 0) (S2 := S) rfl rfl ?_)
      rw [eD, ← tl]; rfl
    by_cases l0 : 0 < T.length
    · obtain ⟨x, hx⟩ : ∃ x, T[0]? = some x := ⟨T[0], List.getElem?_eq_getElem l0⟩
      obtain ⟨y, hy⟩ : ∃ y, T[T.length - 1]? = some y := ⟨T[T.length - 1]'(by omega), List.getElem?_eq_getElem (by omega)⟩
      have u0 := ua 0 S
      have u1 := ua (T.length - 1) S
      have u2 := ua T.length S
      rw [hx] at u0
      rw [hy] at u1
      rw [List.getElem?_eq_none (Nat.le_refl _)] at u2
      have e1 : ((T.length - 1 : Nat) : Int) = (T.length : Int) - 1 := by omega
      rw [e1] at u1
      have sum1 := two_sym u.asc u.mem hx hy
      have px : ∀ v : Rat, v ∈ T → P 42 v := fun v hv => by
        have q := (u.mem v).mp hv
        have n0 : nT a b ≠ 0 := fun z => by rw [z] at tl; omega
        have d1 : ((nT a b, 0) : Row).2.den = 1 := rfl
        exact P_time (r := (nT a b, 0)) (by rw [d1, Nat.mul_one]; exact nT_lt w) (by rw [d1, Nat.mul_one]; exact Nat.pos_of_ne_zero n0) q.1.1 q.1.2 q.2.1
      have es := m_law_sumP (px x (List.mem_of_getElem? hx)) (px y (List.mem_of_getElem? hy)) (by decide) S
      have f1 : K.fr (x + y) = 0 := by rw [sum1]; decide +kernel
      rw [f1] at es
      refine ⟨.val (dR x), .val (dR y), ?_⟩
      unfold lb9
      refine (if_t (S' := S) ?_).trans ?_
      · rw [ev_cAnd, c1, Option.bind_some, nn]
        refine Eq.trans c2 ?_
        rw [decide_eq_true (by omega)]
      · have p1 : eCall 2 m_unclear_at (aC (eV 7) (aC (eC (.int 0)) aN)) [s0, s1, s2, s3, .val (.int a), .val (.int b), s6, .val (clkD [a, b] "aa" ((1 : Nat) : Int)), .val (dueD a b), s9, s10] S = some (dR x, S) := call_s (ds := [clkD [a, b] "aa" ((1 : Nat) : Int), .int ((0 : Nat) : Int)]) (S' := S) rfl rfl u0
        have p2 : eCall 2 m_unclear_at (aC (eV 7) (aC (eBin dSub (eB 8) (eC (.int 1))) aN)) [s0, s1, s2, s3, .val (.int a), .val (.int b), s6, .val (clkD [a, b] "aa" ((1 : Nat) : Int)), .val (dueD a b), s9, s10] S = some (dR y, S) := by
          have q : eBin dSub (eB 8) (eC (.int 1)) [s0, s1, s2, s3, .val (.int a), .val (.int b), s6, .val (clkD [a, b] "aa" ((1 : Nat) : Int)), .val (dueD a b), s9, s10] S = some (.int ((T.length : Int) - 1), S) := by
            rw [eD, ← tl]; rfl
          exact call_s (ds := [clkD [a, b] "aa" ((1 : Nat) : Int), .int ((T.length : Int) - 1)]) (S' := S) (aC_s (d := clkD [a, b] "aa" ((1 : Nat) : Int)) (S' := S) rfl (aC_s q rfl)) rfl u1
        refine (seq_nx (par_s p1 p2)).trans ?_
        simp only [List.set_cons_succ, List.set_cons_zero]
        refine (if_f (S' := S) ?_).trans rfl
        have q1 : cV (eBin dNe (eCall 2 m_law_sum (aC (eV 9) (aC (eV 10) aN))) (eTup (aC (eC (.int 0)) (aC (eC (.int 1)) aN)))) [s0, s1, s2, s3, .val (.int a), .val (.int b), s6, .val (clkD [a, b] "aa" ((1 : Nat) : Int)), .val (dueD a b), .val (dR x), .val (dR y)] S = some (false, S) :=
          cV_s (bin_s (d := dR 0) (S' := S) (d2 := .tup [.int 0, .int 1]) (S2 := S) (call_s (ds := [dR x, dR y]) (S' := S) rfl rfl es) rfl rfl)
        have q2 : cV (eBin dNotN (eCall 2 m_unclear_at (aC (eV 7) (aC (eV 8) aN))) (eC .non)) [s0, s1, s2, s3, .val (.int a), .val (.int b), s6, .val (clkD [a, b] "aa" ((1 : Nat) : Int)), .val (dueD a b), .val (dR x), .val (dR y)] S = some (false, S) := by
          refine cV_s (bin_s (d := .non) (S' := S) (d2 := .non) (S2 := S) (call_s (ds := [clkD [a, b] "aa" ((1 : Nat) : Int), .int (T.length : Int)]) (S' := S) ?_ rfl u2) rfl rfl)
          rw [eD, ← tl]; rfl
        rw [ev_cOr, q1, Option.bind_some]
        exact q2
    · refine ⟨s9, s10, ?_⟩
      unfold lb9
      refine (if_f (S' := S) ?_).trans rfl
      rw [ev_cAnd, c1, Option.bind_some, nn]
      refine Eq.trans c2 ?_
      rw [decide_eq_false (by omega)]
theorem law_body (t : Tape) (s0 x2 x3 x4 x5 x6 x7 x8 x9 x10 : Slot) : ∃ x3' x4' x5' x6' x7' x8' x9' x10' t', lawBody [s0, .val (.obj 0), x2, x3, x4, x5, x6, x7, x8, x9, x10] (tp t) = some (.nx [s0, .val (.obj 0), x2, x3', x4', x5', x6', x7', x8', x9', x10'] (tp t')) := by
  obtain ⟨r1, t1, a0, a1, e1⟩ := drawE_ex t (ρ := [s0, .val (.obj 0), x2, x3, x4, x5, x6, x7, x8, x9, x10]) (i := 1) (k := eC (.int 3)) rfl rfl (by decide) (wide_sm (by decide))
  obtain ⟨most, hm, em⟩ := pick3 r1 a0 a1 9 1000 1000000 (tp t1)
  have m0 : 0 < most := by rcases hm with rfl | rfl | rfl <;> decide
  have m1 : most ≤ 1000000 := by rcases hm with rfl | rfl | rfl <;> decide
  have wm : wide most = true := wide_sm (by omega)
  obtain ⟨r2, t2, b0, b1, e2⟩ := drawE_ex t1 (ρ := [s0, .val (.obj 0), x2, .val (.int most), x4, x5, x6, x7, x8, x9, x10]) (i := 1) (k := eV 3) rfl rfl m0 wm
  obtain ⟨r3, t3, c0, c1, e3⟩ := drawE_ex t2 (ρ := [s0, .val (.obj 0), x2, .val (.int most), x4, x5, x6, x7, x8, x9, x10]) (i := 1) (k := eV 3) rfl rfl m0 wm
  have gp : (0 : Int) < (Int.gcd (1 + r2) (1 + r3) : Int) := by have := Int.gcd_pos_of_ne_zero_left (1 + r3) (show 1 + r2 ≠ 0 by omega); omega
  have gl : (Int.gcd (1 + r2) (1 + r3) : Int) ≤ 1 + r2 := Int.le_of_dvd (by omega) (Int.gcd_dvd_left ..)
  have gw : wide (Int.gcd (1 + r2) (1 + r3) : Int) = true := wide_sm (by omega)
  obtain ⟨r4, t4, d0, d1, e4⟩ := drawE_ex t3 (ρ := [s0, .val (.obj 0), x2, .val (.int most), .val (.int (1 + r2)), .val (.int (1 + r3)), .val (.int (Int.gcd (1 + r2) (1 + r3))), x7, x8, x9, x10]) (i := 1) (k := eC (.int 3)) rfl rfl (by decide) (wide_sm (by decide))
  obtain ⟨s, hs, es⟩ := pick3 r4 d0 d1 1 1 (-1) (tp t4)
  have hs : s = 1 ∨ s = -1 := by rcases hs with h | h | h <;> simp [h]
  have w := two_of (p := 1 + r2) (q := 1 + r3) (by omega) (by omega) (by omega) (by omega) hs
  have q1 := dv_div (1 + r2) _ gp gw
  have q2 := dv_div (1 + r3) _ gp gw
  have q3 : dMul (.int ((1 + r3) / (Int.gcd (1 + r2) (1 + r3) : Int))) (.int s) = some (.int ((1 + r3) / (Int.gcd (1 + r2) (1 + r3) : Int) * s)) := mul_r (by rcases hs with rfl | rfl <;> decide)
  have hg := m_law_gcd_eq (1 + r2) (1 + r3) (tp t3)
  have f1 : lb1 [s0, .val (.obj 0), x2, x3, x4, x5, x6, x7, x8, x9, x10] (tp t) = some (.nx [s0, .val (.obj 0), x2, .val (.int most), x4, x5, x6, x7, x8, x9, x10] (tp t1)) :=
    set_s (d := .int most) (S' := tp t1) (ix_s (d := .lst [.int 9, .int 1000, .int 1000000]) (S' := tp t) (by rfl) e1 em)
  have f2 : lb2 [s0, .val (.obj 0), x2, .val (.int most), x4, x5, x6, x7, x8, x9, x10] (tp t1) = some (.nx [s0, .val (.obj 0), x2, .val (.int most), .val (.int (1 + r2)), .val (.int (1 + r3)), x6, x7, x8, x9, x10] (tp t3)) :=
    par_s (d := .int (1 + r2)) (S' := tp t2) (d2 := .int (1 + r3)) (S2 := tp t3) (bin_s (d := .int 1) (S' := tp t1) rfl e2 rfl) (bin_s (d := .int 1) (S' := tp t2) rfl e3 rfl)
  have f3 : lb3 [s0, .val (.obj 0), x2, .val (.int most), .val (.int (1 + r2)), .val (.int (1 + r3)), x6, x7, x8, x9, x10] (tp t3) = some (.nx [s0, .val (.obj 0), x2, .val (.int most), .val (.int (1 + r2)), .val (.int (1 + r3)), .val (.int (Int.gcd (1 + r2) (1 + r3))), x7, x8, x9, x10] (tp t3)) :=
    set_s (d := .int (Int.gcd (1 + r2) (1 + r3))) (S' := tp t3) (call_s (ds := [.int (1 + r2), .int (1 + r3)]) (S' := tp t3) rfl rfl hg)
  generalize ((Int.gcd (1 + r2) (1 + r3) : Nat) : Int) = g at *
  have f4 : lb4 [s0, .val (.obj 0), x2, .val (.int most), .val (.int (1 + r2)), .val (.int (1 + r3)), .val (.int g), x7, x8, x9, x10] (tp t3) = some (.nx [s0, .val (.obj 0), x2, .val (.int most), .val (.int ((1 + r2) / g)), .val (.int ((1 + r3) / g * s)), .val (.int g), x7, x8, x9, x10] (tp t4)) :=
    par_s (d := .int ((1 + r2) / g)) (S' := tp t3) (d2 := .int ((1 + r3) / g * s)) (S2 := tp t4) (bin_s (d := .int (1 + r2)) (S' := tp t3) (d2 := .int g) (S2 := tp t3) rfl rfl q1)
      (bin_s (d := .int ((1 + r3) / g)) (S' := tp t3) (bin_s (d := .int (1 + r3)) (S' := tp t3) (d2 := .int g) (S2 := tp t3) rfl rfl q2) (ix_s (d := .lst [.int 1, .int 1, .int (-1)]) (S' := tp t3) (by rfl) e4 es) q3)
  generalize (1 + r2) / g = a at *
  generalize (1 + r3) / g * s = b at *
  have f5 : lb5 [s0, .val (.obj 0), x2, .val (.int most), .val (.int a), .val (.int b), .val (.int g), x7, x8, x9, x10] (tp t4) = some (.nx [s0, .val (.obj 0), x2, .val (.int most), .val (.int a), .val (.int b), .val (.int g), .val (clkD [a, b] "aa" ((1 : Nat) : Int)), x8, x9, x10] (tp t4)) := rfl
  have f6 : lb6 [s0, .val (.obj 0), x2, .val (.int most), .val (.int a), .val (.int b), .val (.int g), .val (clkD [a, b] "aa" ((1 : Nat) : Int)), x8, x9, x10] (tp t4) = some (.nx [s0, .val (.obj 0), x2, .val (.int most), .val (.int a), .val (.int b), .val (.int g), .val (clkD [a, b] "aa" ((1 : Nat) : Int)), .val (dueD a b), x9, x10] (tp t4)) := by
    refine set_s (d := dueD a b) (S' := tp t4) ?_
    have ab := dv_abs (a - b)
    have ab2 := dv_abs (a + b)
    have sm : small ((a - b).natAbs : Int) = true := smallN (by have := w.ba; have := w.bb; have : (2 : Nat) ^ 64 = 18446744073709551616 := rfl; omega)
    have mm := mul_l (b := ((a + b).natAbs : Int) - 1) sm
    unfold dueD
    by_cases z : a + b = 0
    · simp only [ev_C, ev_V, ev_B, ev_aN, ev_aC, ev_Tup, ev_Lst, ev_Bin, ev_Un, ev_UnF, ev_cV, ev_cAnd, ev_cOr, ev_cNot, ev_cYes, ev_And, ev_Or, ev_Not, ev_If, ev_Chain, ev_Call, ev_Ix, ev_Sl, ev_oN, ev_oE, ev_aS, ev_Comp, ev_iAny, ev_iRange1, ev_iRange2, ev_iZip, ev_iEnum, ev_sNil, ev_sSeq, ev_sIf, ev_sRet, ev_sRetO, ev_sRetN, ev_sAsg, ev_sSet, ev_sSetO, ev_sPar, ev_sFor, ev_sWhile, ev_sApp, ev_sIxO, ev_sIxC, ev_sFrz, ev_sExp, ev_sPass, ev_runB, ev_forN, ev_compN, ev_put0, ev_put1, ev_wipe0, ev_wipe1, ev_bnm, ev_btup, ev_bL0, ev_bL1, dv_add, dv_sub, dv_neg, dv_lt, dv_le, dv_gt, dv_ge, dv_int, dv_abs, dv_lenL, dv_lenT, dv_tupL, dv_tupT, dv_lofL, dv_lofT, dv_lofS, dv_seqL, dv_seqT, dv_ixL, dv_ixT, dv_ixO, atI_0, atI_1, atI_2, Option.bind_some, Option.bind_none, List.getElem?_cons_zero, List.getElem?_cons_succ, List.getElem?_nil, List.set_cons_zero, List.set_cons_succ, List.set_nil, List.length_cons, List.length_nil, List.map_cons, List.map_nil, List.replicate_succ, List.replicate_zero, List.cons_append, List.nil_append, Nat.reduceAdd, Nat.reduceSub, Nat.reduceLeDiff, Nat.zero_add, Nat.sub_zero, Nat.add_zero, if_true, if_false, Bool.false_eq_true, Nat.reduceEqDiff, Bool.not_true, Bool.not_false, decide_true, decide_false, ev_nat, dv_eqI, z]
    · simp only [ev_C, ev_V, ev_B, ev_aN, ev_aC, ev_Tup, ev_Lst, ev_Bin, ev_Un, ev_UnF, ev_cV, ev_cAnd, ev_cOr, ev_cNot, ev_cYes, ev_And, ev_Or, ev_Not, ev_If, ev_Chain, ev_Call, ev_Ix, ev_Sl, ev_oN, ev_oE, ev_aS, ev_Comp, ev_iAny, ev_iRange1, ev_iRange2, ev_iZip, ev_iEnum, ev_sNil, ev_sSeq, ev_sIf, ev_sRet, ev_sRetO, ev_sRetN, ev_sAsg, ev_sSet, ev_sSetO, ev_sPar, ev_sFor, ev_sWhile, ev_sApp, ev_sIxO, ev_sIxC, ev_sFrz, ev_sExp, ev_sPass, ev_runB, ev_forN, ev_compN, ev_put0, ev_put1, ev_wipe0, ev_wipe1, ev_bnm, ev_btup, ev_bL0, ev_bL1, dv_add, dv_sub, dv_neg, dv_lt, dv_le, dv_gt, dv_ge, dv_int, dv_abs, dv_lenL, dv_lenT, dv_tupL, dv_tupT, dv_lofL, dv_lofT, dv_lofS, dv_seqL, dv_seqT, dv_ixL, dv_ixT, dv_ixO, atI_0, atI_1, atI_2, Option.bind_some, Option.bind_none, List.getElem?_cons_zero, List.getElem?_cons_succ, List.getElem?_nil, List.set_cons_zero, List.set_cons_succ, List.set_nil, List.length_cons, List.length_nil, List.map_cons, List.map_nil, List.replicate_succ, List.replicate_zero, List.cons_append, List.nil_append, Nat.reduceAdd, Nat.reduceSub, Nat.reduceLeDiff, Nat.zero_add, Nat.sub_zero, Nat.add_zero, if_true, if_false, Bool.false_eq_true, Nat.reduceEqDiff, Bool.not_true, Bool.not_false, decide_true, decide_false, ev_nat, dv_eqI, decide_eq_false z, if_neg z, ab, ab2, mm]
  obtain ⟨s9', s10', f9⟩ := lb9_s w s0 (.val (.obj 0)) x2 (.val (.int most)) (.val (.int g)) x9 x10 (tp t4)
  refine ⟨.val (.int most), .val (.int a), .val (.int b), .val (.int g), .val (clkD [a, b] "aa" ((1 : Nat) : Int)), .val (dueD a b), s9', s10', t4, ?_⟩
  unfold lawBody
  refine (seq_nx f1).trans ((seq_nx f2).trans ((seq_nx f3).trans ((seq_nx f4).trans ((seq_nx f5).trans ((seq_nx f6).trans ?_)))))
  exact (seq_nx (lb7_s w _ _ _ _ _ _ _ _)).trans ((seq_nx (lb8_s w _ _ _ _ _ _ _ _)).trans f9)
theorem law_tail (ρ : List Slot) (S : List D) : lawTail ρ S = some (.rt (.bl true) S) := by
  have w : Two 1000000 (-7) := ⟨by decide, by decide, by decide⟩
  have e := cu_two w lk_aa S
  have ed : dueD 1000000 (-7) = .int 999998999944 := rfl
  rw [ed] at e
  unfold lawTail lt1
  refine ret_s (bin_s (d := .int 999998999944) (S' := S) (d2 := .int 999998999944) (S2 := S) (call_s (ds := [clkD [1000000, -7] "aa" ((1 : Nat) : Int)]) (S' := S) (by rfl) rfl e) rfl (by rw [dv_eqI, decide_eq_true rfl]))
theorem THE (ns : List Int) (h : ns.length ≤ 63) : m_law [.scr ns] [] = some (.bl true, []) := by
  unfold m_law
  rw [g_law_is]
  refine run_rt (ρ := [.val (.scr ns), .non, .non, .non, .non, .non, .non, .non, .non, .non, .non]) rfl ?_
  have q := forL_inv (p := .nm 2) (g := lawBody) (fun _ ρ S => ∃ x2 x3 x4 x5 x6 x7 x8 x9 x10 t, ρ = [.val (.scr ns), .val (.obj 0), x2, x3, x4, x5, x6, x7, x8, x9, x10] ∧ S = tp t) (rangeD 0 20) [.val (.scr ns), .val (.obj 0), .non, .non, .non, .non, .non, .non, .non, .non, .non] (tp ⟨ns, 0, 0⟩) ⟨_, _, _, _, _, _, _, _, _, _, rfl, rfl⟩ (fun pre x ρ S hx hN H => by
    obtain ⟨x2, x3, x4, x5, x6, x7, x8, x9, x10, t, rfl, rfl⟩ := H
    obtain ⟨a3, a4, a5, a6, a7, a8, a9, a10, t', e⟩ := law_body t (.val (.scr ns)) (.val x) x3 x4 x5 x6 x7 x8 x9 x10
    exact ⟨_, _, _, ev_bnm _ _, e, _, _, _, _, _, _, _, _, _, _, rfl, rfl⟩)
  obtain ⟨ρ', S', e, x2, x3, x4, x5, x6, x7, x8, x9, x10, t, rfl, rfl⟩ := q
  have z : sSeq (sFor (.nm 2) (iRange1 (aC (eC (.int 20)) aN)) lawBody) lawTail [.val (.scr ns), .val (.obj 0), .non, .non, .non, .non, .non, .non, .non, .non, .non] (tp ⟨ns, 0, 0⟩) = some (.rt (.bl true) (tp t)) := by
    refine (seq_nx (for_s (range1_s (k := 20) (S' := tp ⟨ns, 0, 0⟩) rfl (by decide)) e)).trans ?_
    exact law_tail _ _
  unfold sCell
  have w : (eLst (aC (eUnF lOf (eB 0)) (aC (eC (.int 0)) (aC (eC (.int 0)) aN)))) [.val (.scr ns), .non, .non, .non, .non, .non, .non, .non, .non, .non, .non] [] = some (.lst [.lst (ns.map .int), .int 0, .int 0], []) := by rfl
  simp only [w, Option.bind_some]
  have z' : sSeq (sFor (.nm 2) (iRange1 (aC (eC (.int 20)) aN)) lawBody) lawTail ([Slot.val (.scr ns), .non, .non, .non, .non, .non, .non, .non, .non, .non, .non].set 1 (.val (.obj 0))) [.lst [.lst (ns.map .int), .int 0, .int 0]] = some (.rt (.bl true) (tp t)) := z
  rw [z']
  rfl
end K
open PySem PySem.W PySem.Calls PyProof.Rows in
set_option maxRecDepth 100000 in
set_option maxHeartbeats 0 in
theorem PySem.Challenge.cw_unclearhands_k07_whole_two_hands_holds : PySem.Challenge.rw_unclearhands_k07_whole_two_hands.Holds := by
  w_on; o_law
  refine HandSHeadRun.head_any (r := OpenLaw.row PySem.Challenge.rw_unclearhands_k07_whole_two_hands) (q := view (OpenLaw.row PySem.Challenge.rw_unclearhands_k07_whole_two_hands).prog [36]) (H := K.hkT) (ob := K.obT) (M := 4000) (loose := K.looseT) (d := HandSHeadRun.topDef (OpenLaw.row PySem.Challenge.rw_unclearhands_k07_whole_two_hands).prog 36) (kwd := []) K.ob_eq
    (by kernel_rfl) (fun s => by kernel_rfl) K.runT (by kernel_rfl) (by kernel_rfl) (by kernel_rfl) (by rfl) (by first | assumption | decide +kernel) (by decide +kernel) ⟨rfl, rfl, rfl, rfl, rfl, by decide +kernel⟩ ?hw ?hc
  case hw => w_witness2
  case hc =>
    refine L2.walk_ofE (l := PySem.Challenge.rw_unclearhands_k07_whole_two_hands) (n := 63) (k := 9) (x := "_law_script") (CX := L2.CX0) rfl (by decide) (by kernel_rfl) ⟨rfl, by decide, by decide⟩ ?F (fun _ _ _ _ z => z)
    intro w mg fa h Y G hmg0
    obtain ⟨KW, KX, c, ct⟩ := Y
    have hmg : mg ("law" : PySem.Str) = some (.ref fa) := by
      have e : (HandSHeadRun.topDef (OpenLaw.row PySem.Challenge.rw_unclearhands_k07_whole_two_hands).prog 36).name = ("law" : PySem.Str) := by kernel_rfl
      rw [← e]
      exact hmg0
    obtain ⟨fd, hb, hF⟩ := K.factsT (P := (PySem.Challenge.rw_unclearhands_k07_whole_two_hands).prog) (w := w) KX G hmg c ct
    exact ⟨KW, fd, DL.spM false ⟨KW, w⟩ 1 K.m_law, KX, hb, fun H a ns hl _ hS => DL.law_end (K := ⟨KW, w⟩) hS (K.THE ns hl), hF⟩
