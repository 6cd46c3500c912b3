import PyProof.Rows.All
import HandS.Words
import HandS.Defaults
import HandS.HeadEnd
import HandS.ForMost
import KE.KDictKeyed
import KE.GoesZip
import KE.GoesMore
import KE.GoesEnum
import HandS.Wide
import HandS.TupAny
import HandS.Deep
import HandS.IsInst
import HandS.Star
import HandS.Style
import HandS.More
import HandS.Text
import HandS.SortInts
import HandS.SetFor
import HandS.Comp
import KE.SortData
import HandS.Strs
import HandS.HeadHook2
import HandS.Conv
import HandS.Dict
import HandS.Iter
import KE.KDictWalk
import KE.KDictOf
import KE.KDictCopyH
import KE.KDictDisplayH
import HandS.DictComp
import HandS.List
import PyProof.CollectStr
import PyProof.ListStr
import PyProof.Rows.StrRev
import PyProof.SliceStr2
import PyProof.StrWalks
import PyProof.ReprRoads
import HandS.FStr
import HandS.NoneIn
import KE.DataMinMax
import KE.KDictSum
import HandS.TupLen
import HandS.ExcValue
import PyProof.ReprText
import HandS.Head2
import PySem.Challenge.RW_unclearhands_k32_whole_stretches_and_vie
set_option Elab.async false
set_option linter.all false
set_option autoImplicit false
set_option maxRecDepth 100000
set_option maxHeartbeats 4000000
namespace DL
open PySem PySem.Spec PyProof.Rows L2
structure RoomG (k : Nat) (A : Around) : Prop where
  rm : Room k A
  gs : A.guards = some []
theorem RoomG.mono {j k : Nat} {A : Around} (r : RoomG k A) (h : j ≤ k) : RoomG j A := ⟨r.rm.mono h, r.gs⟩
theorem RoomG.down {k : Nat} {A : Around} (r : RoomG (k + 1) A) (env : Env) : RoomG k (A.deeper env) := ⟨r.rm.deeper env, r.gs⟩
structure FnOkG (P : Program) (w : World) (K : PySem.W.Frag) (mg : Str → Option Value) (base : Heap) (k : Nat) (f : Addr) (fd : FuncData) (ps : List Str) (sp : Sp) : Prop where
  len : ∀ vs H Q E, sp vs H Q E → vs.length = ps.length
  go : ∀ {A : Around} {outer : List Env} {s : Shared} {H : Hp} {args : Args} {us : List Value} {vs : List V} {Q : VK} {E : XK}, RoomG k A → Env0 P w K mg base A outer s H → BindsTo s fd args (ps.zip us) → Vals vs us →
    sp vs H Q E → codeAny (model P w) A (.call (.ref f) args) (CR CX0 outer P w H s Q E) s
theorem FnOkG.mono {P : Program} {w : World} {K : PySem.W.Frag} {mg : Str → Option Value} {base : Heap} {j k : Nat} {f : Addr} {fd : FuncData} {ps : List Str} {sp : Sp} (F : FnOkG P w K mg base j f fd ps sp) (h : j ≤ k) :
    FnOkG P w K mg base k f fd ps sp := ⟨F.len, fun hr => F.go (hr.mono h)⟩
section
variable {X : Cx} {k : Nat} {f : Addr} {fd : FuncData} {ps : List Str} {sp : Sp} {x : Str} {p pos : Pos} {e : Expr} {es : List Expr} {t : TA}
theorem pe_callG (F : FnOkG X.prog X.w X.K X.mg X.base k f fd ps sp) (hr : RoomG k X.A) (hg : Gl X x) (hm : X.mg x = some (.ref f)) (hk : PySem.W.keepIn X.K (.ref f) = true) (hb : Binds X.K fd ps [])
    (ha : PA X (e :: es) t) (hdb : (x == ("__debug__" : Str)) = false := by decide) (he : starEach (e :: es) X.env = (false, eval e X.env) :: starEach es X.env := by rfl) (hpl : (backTo pos (starEach es X.env)).any (·.1) = false := by rfl) :
    PE X (.Call (.Name x p) (e :: es) [] pos) (tCall sp [] E0 t) := by
  refine ⟨fun pins s σ H Q I h => wpAny_Call_Name_kw (ld_glob I hg hm ?_ hdb)⟩
  refine PySem.W.callWith_K (h₀ := X.base) I.ok.mod.kin hk (thn (ha.run pos pins s σ H _ I h) fun us s1 got => ?_) he hpl
  obtain ⟨vs, H1, I1, r, q⟩ := got
  rw [List.append_nil] at q
  have hl : (us ++ []).length = ps.length := by rw [List.append_nil, ← r.length]; exact F.len _ _ _ _ q
  have bd := hb s1 us I1.kIn hl
  rw [List.append_nil] at bd
  refine ⟨I1.kIn, wpAny_call (codeAny_mono (F.go hr I1.env0 bd r q) fun res s2 hq => ?_)⟩
  match res, hq with
  | .ok (.ret u), hq => exact I1.after hq
  | .ok .next, hq => exact False.elim hq
  | .ok .brk, hq => exact False.elim hq
  | .ok .cont, hq => exact False.elim hq
  | .error e, hq => exact False.elim hq
end
section
variable {P : Program} {w : World} {K : PySem.W.Frag} {mg : Str → Option Value} {base : Heap} {x qual : Str} {params : Arguments} {body : List Stmt} {scope : Scope} {dvs : List V} {kws : List (Str × V)} {f : Addr} {fd : FuncData}
theorem fnG {N ps : List Str} {k : Nat} {sp : Sp} (F : FunD K x qual params body scope dvs kws f fd) (S : FnScope N ps scope) (len : ∀ vs H Q E, sp vs H Q E → vs.length = ps.length)
    (hbody : ∀ (cdv : Value) (A : Around) (outer : List Env) (s : Shared) (H : Hp) (vs : List V) (Q : VK) (E : XK), RoomG k (A.deeper (envOfC qual scope s.heap.objs.size f cdv)) → sp vs H Q E →
      ∃ t, PSs (cxOf CX0 P w K mg base N qual scope f cdv A outer s H E) body t ∧ t { nx := fun _ H' => Q .non H', rt := Q } (start N vs) H) : FnOkG P w K mg base (k + 1) f fd ps sp := by
  obtain ⟨oc, od, dV, kV, doc, pm, an, cdv, ct, osl, rfl, lk, hcd, _, _⟩ := F.ex
  refine ⟨len, fun {A outer s H args us vs Q E} hr e0 hb r hsp => ?_⟩
  have hl := len _ _ _ _ hsp
  have still : ∀ b o, base.get? b = some o → s.heap.get? b = some o := fun b o e => (e0.bs b o e).1
  have KX : K.In s.heap := e0.mod.kin.keeps still
  have lim : s.heap.NoLimit := e0.mod.nolimit.keeps still
  have hkind : ∀ y ∈ ps.zip us, scope.names.lookup y.1 = some .local ∨ (scope.names.lookup y.1 = some .cell ∧ ((cellsFrom (s.heap.objs.size + 1) scope.names []).lookup y.1).isSome = true) := by
    intro y hy
    obtain ⟨n, v⟩ := y
    cases S.par n (List.of_mem_zip hy).1 with
    | inl q => exact .inl q
    | inr q => exact .inr ⟨q, PySem.W.cellsFrom_some _ _ _ (.inl q)⟩
  refine codeAny_call_function hr.rm.depth (KX _ _ lk) rfl S.co S.gen rfl (PySem.W.codeRec_of KX hcd) (hb _ _ _ _ ?_)
  refine wpAny_newFunctionEnv_cells S.kind hkind fun env he s1 nw => ?_
  subst he
  refine ⟨lim.keeps nw.toInCall.keep, codeAny_func ?_⟩
  obtain ⟨t, ht, hq⟩ := hbody cdv A outer s H vs Q E (hr.down _) hsp
  have I : Inv (cxOf CX0 P w K mg base N qual scope f cdv A outer s H E) [] (start N vs) H s1 := inv_start S hr.rm.hd e0 hl r nw
  refine wpAny_mono (ht.run [] s1 (start N vs) H _ I hq) (fun fl s2 hs => ?_) fun e s2 hs => hs
  match fl, hs with
  | .ret u, ⟨v, σ', H', J, rv, q⟩ => exact ⟨v, H', J.os, J.bare, J.base, J.hok, rv, q⟩
  | .next, ⟨σ', H', J, q⟩ => exact ⟨.non, H', J.os, J.bare, J.base, J.hok, rfl, q⟩
  | .brk, ⟨_, _, _, q⟩ => exact False.elim q
  | .cont, ⟨_, _, _, q⟩ => exact False.elim q
end
theorem law_callG {P : Program} {w : World} {K : PySem.W.Frag} {mg mb : Str → Option Value} {k : Nat} {fa a : Addr} {fd : FuncData} {x : Str} {sp : Sp} {s₁ : Shared} {vs : List Value} {ns : List Int}
    (KX : K.In s₁.heap) (hns : s₁.heap.Ns mainGlobals mg) (hb : s₁.heap.Ns builtinsNs mb) (hbb : ∀ x : Str, x ≠ "__name__" → mb x = bootBuiltins x) (hlim : s₁.heap.NoLimit) (hg : s₁.gens = #[])
    (ha : s₁.heap.get? a = some { cls := .type "list", data := .seq vs.toArray }) (hi : IntsAre vs ns) (hl : ns.length ≤ sizeLine) (hr : RoomG k callerA)
    (F : ∀ base : Heap, K.In base → base.Ns mainGlobals mg → FnOkG P w K mg base k fa fd [x] sp) (hbind : ∀ (s : Shared) (u : Value), BindsTo s fd ⟨[u], []⟩ [(x, u)])
    (hsp : ∀ H : Hp, Only H → SqL K H a (ns.map V.int) → sp [.ref a] H (fun v _ => v = .bl true) fun _ _ _ => False) :
    codeAny (model P w) callerA (.call (.ref fa) ⟨[.ref a], []⟩) (fun r s' => r = .ok (.ret (.bool true)) ∧ OldK s₁.heap s'.heap ∧ s'.os = s₁.os ∧ AllBare s'.gens) s₁ := by
  have rv := vals_ints hi
  have lenV := hi.length
  have core : ∀ H : Hp, Only H → SqL K H a (ns.map V.int) → HOk P w H s₁.heap → (∀ b, H b ≠ none → b = a) → (H a ≠ none → K.lookup a = none) →
      codeAny (model P w) callerA (.call (.ref fa) ⟨[.ref a], []⟩) (fun r s' => r = .ok (.ret (.bool true)) ∧ OldK s₁.heap s'.heap ∧ s'.os = s₁.os ∧ AllBare s'.gens) s₁ := by
    intro H hO hS hok hA hK
    have isA : ∀ {b : Addr} {u : HO}, H b = some u → b = a := fun {b u} z => hA b (by rw [z]; simp)
    have inB : ∀ {b : Addr} {o : Obj}, s₁.heap.get? b = some o → H b = none → (hidT s₁.heap H).get? b = some o := fun e n => hidT_get e n
    have noA : ∀ {b : Addr} {o : Obj} {es : Array DictEntry} {ep : Nat}, s₁.heap.get? b = some o → o.data = .dict es ep → H b = none := by
      intro b o es ep e d
      match z : H b with
      | none => rfl
      | some u =>
        have hh := isA z
        subst hh
        rw [ha] at e
        cases e
        exact absurd (show Data.seq vs.toArray _ = Data.dict es ep from d) (fun z => by cases z)
    have nsB : ∀ {b : Addr} {m : Str → Option Value}, s₁.heap.Ns b m → (hidT s₁.heap H).Ns b m := by
      intro b m h
      obtain ⟨o, es, ep, e, d, r⟩ := h
      exact ⟨o, es, ep, inB e (noA e d), d, r⟩
    have kinB : K.In (hidT s₁.heap H) := by
      intro b o e
      refine inB (KX b o e) ?_
      match z : H b with
      | none => rfl
      | some u =>
        have hh := isA z
        subst hh
        rw [hK (by rw [z]; simp)] at e
        cases e
    have modB : Mod K mg (hidT s₁.heap H) := ⟨kinB, nsB hns, ⟨mb, nsB hb, hbb⟩, by obtain ⟨mc, h1, h2⟩ := hlim; exact ⟨mc, nsB h1, h2⟩⟩
    have e0 : Env0 P w K mg (hidT s₁.heap H) callerA [] s₁ H := by
      refine ⟨rfl, modB, fun b o e => of_hidT e, Nat.le_of_eq (hidT_size _ _), trivial, fun b hb => ?_, hok, .of_eq hg⟩
      exact absurd (show b ∈ ([] : List Addr) from hb) (by simp)
    refine codeAny_mono ((F _ kinB (nsB hns)).go (outer := []) (us := [.ref a]) (vs := [.ref a]) hr e0 (hbind s₁ (.ref a)) (.cons rfl .nil) (hsp H hO hS)) fun r s2 h => ?_
    match r, h with
    | .error e, h => exact False.elim h
    | .ok .next, h => exact False.elim h
    | .ok .brk, h => exact False.elim h
    | .ok .cont, h => exact False.elim h
    | .ok (.ret u), h =>
      obtain ⟨v, H', os, bare, un, hok', r', q⟩ := h
      obtain rfl : v = .bl true := q
      obtain rfl : u = Value.bool true := r'
      refine ⟨rfl, OldK.of_keep fun b o e => ?_, os, bare⟩
      match z : H b with
      | none => exact un.keep b o e z (fun m => absurd (show b ∈ ([] : List Addr) from m) (by simp)) (by simp)
      | some u =>
        rcases hO b with y | ⟨ob, xs, y⟩
        · rw [z] at y
          cases y
        · obtain ⟨e1, _⟩ := hok b _ y
          obtain ⟨e2, _⟩ := hok' b _ (un.frzs b ob _ y)
          rw [e] at e1
          cases e1
          exact e2
  match hk : K.lookup a with
  | some o =>
    have e := KX a o hk
    rw [ha] at e
    cases e
    refine core (fun _ => none) (fun _ => .inl rfl) (.inr ⟨_, vs.toArray, _, hk, rfl, rfl, rfl, by rw [List.size_toArray, lenV]; exact hl, by simpa using rv⟩) (fun b u z => ?_) (fun b z => absurd rfl z) fun z => absurd rfl z
    exact absurd (show (none : Option HO) = some u from z) (fun y => by cases y)
  | none =>
    have one : ∀ {b : Addr}, b ≠ a → (if b = a then some (HO.frz { cls := .type "list", data := .seq vs.toArray } (.lst (ns.map V.int))) else none) = none := fun n => if_neg n
    refine core (fun b => if b = a then some (.frz { cls := .type "list", data := .seq vs.toArray } (.lst (ns.map V.int))) else none) (fun b => ?_) (.inl (.inr ⟨{ cls := .type "list", data := .seq vs.toArray }, if_pos rfl⟩)) (fun b u z => ?_) (fun b z => ?_) fun _ => hk
    · by_cases hb : b = a
      · exact .inr ⟨_, _, if_pos hb⟩
      · exact .inl (one hb)
    · by_cases hb : b = a
      · have y := (if_pos hb).symm.trans z
        cases y
        subst hb
        exact ⟨ha, by rw [List.length_map]; exact hl, vs, _, rv, ha⟩
      · exact absurd ((one hb).symm.trans z) (fun y => by cases y)
    · exact Classical.byContradiction fun hb => z (one hb)
theorem walk_ofG {l : PySem.W.OpenLaw} {n k : Nat} {q : Program} {loose : List Str} {XP : (Str → Option Value) → Heap → Prop} {YP : World → Heap → Prop} {d : DefRec} {x : Str}
    (hn : l.most = some n) (hn2 : n ≤ sizeLine) (hdf : d.params.defaults = []) (hr : RoomG k callerA)
    (F : ∀ (w : World) (mg : Str → Option Value) (fa : Addr) (h : Heap), YP w h → h.Ns mainGlobals mg → mg d.name = some (.ref fa) →
      ∃ (K : PySem.W.Frag) (fd : FuncData) (sp : Sp), K.In h ∧ (∀ (s : Shared) (u : Value), BindsTo s fd ⟨[u], []⟩ [(x, u)]) ∧
        (∀ (H : Hp) (a : Addr) (ns : List Int), ns.length ≤ n → Only H → SqL K H a (ns.map V.int) → sp [.ref a] H (fun v _ => v = .bl true) fun _ _ _ => False) ∧
        ∀ base : Heap, K.In base → base.Ns mainGlobals mg → FnOkG l.prog w K mg base k fa fd [x] sp) :
    PySem.W.WalkO q loose XP YP l.row.toRowW d [] (fun f vs => PySem.call f vs) := by
  refine Att.attach_call hn hdf fun w s₀ s₁ mg mb fa o pm cd doc a vs ns G Y ho hd hcd hmg hobj hints hlen hg => ?_
  obtain ⟨K, fd, sp, KX, hb, hsp, hF⟩ := F w mg fa _ Y G.T.g hmg
  exact law_callG KX G.T.g G.T.b G.T.builtins G.T.nolimit hg hobj hints (Nat.le_trans hlen hn2) hr hF hb fun H hO hS => hsp H a ns hlen hO hS
end DL
namespace DL
open PySem PySem.Spec PyProof.Rows L2
structure KW where
  f : PySem.W.Frag
  w : World
instance : CoeOut KW PySem.W.Frag := ⟨KW.f⟩
inductive D where
  | non | bl (b : Bool) | int (i : Int) | str (s : Str) | obj (i : Nat) | tup (xs : List D) | lst (xs : List D) | dct (kvs : List (D × D)) | kd (kvs : List (Key × D)) | scr (ns : List Int)
  deriving Inhabited
inductive Slot where
  | non | val (d : D) | own (d : D)
  deriving Inhabited
mutual
def keyD : D → NestedKey
  | .int i => .num i
  | .str x => .text x
  | .tup xs => .tup (keyL xs)
  | _ => .none
def keyL : List D → List NestedKey
  | [] => []
  | x :: xs => keyD x :: keyL xs
end
mutual
def kyD : Nat → D → Bool
  | _, .non => true
  | _, .int _ => true
  | _, .str _ => true
  | n + 1, .tup xs => kyL n xs
  | _, _ => false
def kyL : Nat → List D → Bool
  | _, [] => true
  | n, x :: xs => kyD n x && kyL n xs
end
def isTupD : D → Bool
  | .tup _ => true
  | _ => false
def keysOk (kvs : List (D × D)) : Bool := kvs.all fun kv => isTupD kv.1 && kyD 7 kv.1
def DictRel (w : World) (h : Heap) (a : Addr) (o : Obj) (xs : List (NestedKey × Addr × V)) : Prop := (a == sysModules) = false ∧ xs.length ≤ sizeLine ∧ (xs.map (·.1)).Nodup ∧
  ∃ ys : List (NestedKey × Addr × Value), (ys.map fun y => (y.1, y.2.1)) = (xs.map fun x => (x.1, x.2.1)) ∧ Vals (xs.map (·.2.2)) (ys.map (·.2.2)) ∧
    ∃ es ep, h.get? a = some o ∧ o.ExactDict ∧ o.data = .dict es ep ∧ es.toList = ys.map fun y => ⟨NestedKey.hash w y.1, .ref y.2.1, y.2.2⟩
def DictO (w : World) (a : Addr) (o : Obj) (xs : List (NestedKey × Addr × V)) : HO := .ext fun h => DictRel w h a o xs
def DictRelK (w : World) (h : Heap) (a : Addr) (o : Obj) (xs : List (Key × V)) : Prop := (a == sysModules) = false ∧ xs.length ≤ sizeLine ∧ ∃ vs : List (Key × Value), KV xs vs ∧
  ∃ es ep, h.get? a = some o ∧ o.ExactDict ∧ o.data = .dict es ep ∧ (∀ P, PySem.KeysOf (mixKind P w) es) ∧ (∀ P, PySem.Pairs (mixKind P w) es.toList vs) ∧ (vs.map (·.1)).Nodup
def DictKO (w : World) (a : Addr) (o : Obj) (xs : List (Key × V)) : HO := .ext fun h => DictRelK w h a o xs
section
variable (K : KW) (as : List Addr) (O : Addr → Prop) (H : Hp)
mutual
inductive Rp : V → D → Prop
  | non : Rp .non .non
  | bl (b : Bool) : Rp (.bl b) (.bl b)
  | int (i : Int) : Rp (.int i) (.int i)
  | str (x : Str) : Rp (.str x) (.str x)
  | obj {a : Addr} {i : Nat} : as[i]? = some a → Rp (.ref a) (.obj i)
  | tup {a : Addr} {vs : List V} {xs : List D} : SqT K H a vs → RpL vs xs → Rp (.ref a) (.tup xs)
  | lst {a : Addr} {vs : List V} {xs : List D} : ¬ O a → H a = some (.lst vs) → RpL vs xs → Rp (.ref a) (.lst xs)
  | dct {a : Addr} {o : Obj} {xs : List (NestedKey × Addr × V)} {kvs : List (D × D)} : ¬ O a → H a = some (DictO K.w a o xs) → RpL (xs.map fun x => V.ref x.2.1) (kvs.map (·.1)) → RpL (xs.map (·.2.2)) (kvs.map (·.2)) → (xs.map (·.1)) = (kvs.map fun kv => keyD kv.1) → keysOk kvs = true → Rp (.ref a) (.dct kvs)
  | kd {a : Addr} {o : Obj} {es : List (Key × V)} {kvs : List (Key × D)} : ¬ O a → H a = some (DictKO K.w a o es) → (es.map (·.1)) = (kvs.map (·.1)) → RpL (es.map (·.2)) (kvs.map (·.2)) → Rp (.ref a) (.kd kvs)
  | scr {a : Addr} {ns : List Int} : (¬ O a ∧ Rd H a (.lst (ns.map V.int))) ∨ (∀ H' : Hp, SqL K H' a (ns.map V.int)) → Rp (.ref a) (.scr ns)
inductive RpL : List V → List D → Prop
  | nil : RpL [] []
  | cons {v : V} {vs : List V} {d : D} {ds : List D} : Rp v d → RpL vs ds → RpL (v :: vs) (d :: ds)
end
inductive CellR (a : Addr) : D → Prop
  | lst {vs : List V} {xs : List D} : H a = some (.lst vs) → RpL K as O H vs xs → CellR a (.lst xs)
  | dct {o : Obj} {xs : List (NestedKey × Addr × V)} {kvs : List (D × D)} : H a = some (DictO K.w a o xs) → RpL K as O H (xs.map fun x => V.ref x.2.1) (kvs.map (·.1)) → RpL K as O H (xs.map (·.2.2)) (kvs.map (·.2)) → (xs.map (·.1)) = (kvs.map fun kv => keyD kv.1) → keysOk kvs = true → CellR a (.dct kvs)
  | kd {o : Obj} {es : List (Key × V)} {kvs : List (Key × D)} : H a = some (DictKO K.w a o es) → (es.map (·.1)) = (kvs.map (·.1)) → RpL K as O H (es.map (·.2)) (kvs.map (·.2)) → CellR a (.kd kvs)
end
structure Wf (as : List Addr) (O : Addr → Prop) (H : Hp) : Prop where
  sub : ∀ a ∈ as, O a
  mt : ∀ a, O a → Mut (H a)
  nd : as.Nodup
structure Cells (K : KW) (as : List Addr) (O : Addr → Prop) (H : Hp) (S : List D) : Prop where
  len : as.length = S.length
  ix : ∀ (i : Nat) (a : Addr) (d : D), as[i]? = some a → S[i]? = some d → CellR K as O H a d
def Stp (as : List Addr) (H H' : Hp) : Prop := ∀ a u, a ∉ as → H a = some u → H' a = some u
theorem Stp.refl {as : List Addr} {H : Hp} : Stp as H H := fun _ _ _ h => h
theorem Stp.trans {as : List Addr} {H H1 H2 : Hp} (a : Stp as H H1) (b : Stp as H1 H2) : Stp as H H2 := fun c u n h => b c u n (a c u n h)
theorem Same.stp {as : List Addr} {H H' : Hp} (s : Same H H') : Stp as H H' := fun a u _ h => s a u h
section
variable {K : KW} {as : List Addr} {O O' : Addr → Prop} {H H' : Hp}
theorem Wf.trk (w : Wf as O H) {a : Addr} (h : O a) : H a ≠ none := fun e => by
  have := w.mt a h
  rw [e] at this
  exact this
theorem Wf.nel (w : Wf as O H) {a : Addr} (h : H a = none) : ¬ O a := fun o => w.trk o h
def Nt (o : Option HO) : Prop := (∀ vs, o ≠ some (.tup vs)) ∧ ∀ b u, o ≠ some (.frz b u)
theorem nt_of_mut {o : Option HO} (m : Mut o) : Nt o := ⟨fun _ e => by rw [e] at m; exact m, fun _ _ e => by rw [e] at m; exact m⟩
theorem nt_none : Nt none := ⟨fun _ e => (nomatch e), fun _ _ e => (nomatch e)⟩
def Kp (O : Addr → Prop) (H H' : Hp) : Prop := ∀ a u, ¬ O a → H a = some u → H' a = some u
theorem Kp.sqT (k : Kp O H H') (m : ∀ a, O a → Nt (H a)) {a : Addr} {vs : List V} (h : SqT K H a vs) : SqT K H' a vs := by
  rcases h with (h | ⟨o, h⟩) | h
  · exact .inl (.inl (k _ _ (fun o => (m a o).1 _ h) h))
  · exact .inl (.inr ⟨o, k _ _ (fun p => (m a p).2 _ _ h) h⟩)
  · exact .inr h
theorem Kp.rd (k : Kp O H H') {a : Addr} {u : HO} (n : ¬ O a) (h : Rd H a u) : Rd H' a u := by
  rcases h with h | ⟨o, h⟩
  · exact .inl (k _ _ n h)
  · exact .inr ⟨o, k _ _ n h⟩
mutual
theorem Rp.kp (m : ∀ a, O a → Nt (H a)) (k : Kp O H H') : ∀ (v : V) (d : D), Rp K as O H v d → Rp K as O H' v d
  | _, _, .non => .non
  | _, _, .bl b => .bl b
  | _, _, .int i => .int i
  | _, _, .str x => .str x
  | _, _, .obj h => .obj h
  | _, _, .tup h r => .tup (k.sqT m h) (RpL.kp m k _ _ r)
  | _, _, .lst n h r => .lst n (k _ _ n h) (RpL.kp m k _ _ r)
  | _, _, .dct n h r t e o => .dct n (k _ _ n h) (RpL.kp m k _ _ r) (RpL.kp m k _ _ t) e o
  | _, _, .kd n h e t => .kd n (k _ _ n h) e (RpL.kp m k _ _ t)
  | _, _, .scr h => .scr (h.elim (fun z => .inl ⟨z.1, k.rd z.1 z.2⟩) .inr)
theorem RpL.kp (m : ∀ a, O a → Nt (H a)) (k : Kp O H H') : ∀ (vs : List V) (ds : List D), RpL K as O H vs ds → RpL K as O H' vs ds
  | _, _, .nil => .nil
  | _, _, .cons r t => .cons (Rp.kp m k _ _ r) (RpL.kp m k _ _ t)
end
mutual
theorem Rp.anti (s : ∀ a, O' a → O a) : ∀ (v : V) (d : D), Rp K as O H v d → Rp K as O' H v d
  | _, _, .non => .non
  | _, _, .bl b => .bl b
  | _, _, .int i => .int i
  | _, _, .str x => .str x
  | _, _, .obj h => .obj h
  | _, _, .tup h r => .tup h (RpL.anti s _ _ r)
  | _, _, .lst n h r => .lst (fun o => n (s _ o)) h (RpL.anti s _ _ r)
  | _, _, .dct n h r t e k => .dct (fun o => n (s _ o)) h (RpL.anti s _ _ r) (RpL.anti s _ _ t) e k
  | _, _, .kd n h e t => .kd (fun o => n (s _ o)) h e (RpL.anti s _ _ t)
  | _, _, .scr h => .scr (h.elim (fun z => .inl ⟨fun o => z.1 (s _ o), z.2⟩) .inr)
theorem RpL.anti (s : ∀ a, O' a → O a) : ∀ (vs : List V) (ds : List D), RpL K as O H vs ds → RpL K as O' H vs ds
  | _, _, .nil => .nil
  | _, _, .cons r t => .cons (Rp.anti s _ _ r) (RpL.anti s _ _ t)
end
def ad (O : Addr → Prop) (p : Addr) : Addr → Prop := fun a => O a ∨ a = p
mutual
theorem Rp.ad {p : Addr} (hp : H p = none) : ∀ (v : V) (d : D), Rp K as O H v d → Rp K as (ad O p) H v d
  | _, _, .non => .non
  | _, _, .bl b => .bl b
  | _, _, .int i => .int i
  | _, _, .str x => .str x
  | _, _, .obj h => .obj h
  | _, _, .tup h r => .tup h (RpL.ad hp _ _ r)
  | _, _, .lst n h r => .lst (fun o => by
      rcases o with o | o
      · exact n o
      · rw [o, hp] at h; cases h) h (RpL.ad hp _ _ r)
  | _, _, .dct n h r t e k => .dct (fun o => by
      rcases o with o | o
      · exact n o
      · rw [o, hp] at h; cases h) h (RpL.ad hp _ _ r) (RpL.ad hp _ _ t) e k
  | _, _, .kd n h e t => .kd (fun o => by
      rcases o with o | o
      · exact n o
      · rw [o, hp] at h; cases h) h e (RpL.ad hp _ _ t)
  | _, _, .scr h => .scr (h.elim (fun ⟨n, h⟩ => .inl ⟨fun o => by
      rcases o with o | o
      · exact n o
      · rcases h with h | ⟨_, h⟩ <;> (rw [o, hp] at h; cases h), h⟩) .inr)
theorem RpL.ad {p : Addr} (hp : H p = none) : ∀ (vs : List V) (ds : List D), RpL K as O H vs ds → RpL K as (ad O p) H vs ds
  | _, _, .nil => .nil
  | _, _, .cons r t => .cons (Rp.ad hp _ _ r) (RpL.ad hp _ _ t)
end
end
end DL
namespace DL
open PySem PySem.Spec PyProof.Rows L2
section
variable {K : KW} {as bs : List Addr} {O : Addr → Prop} {H : Hp}
mutual
theorem rpAs1 (h : ∀ (i : Nat) (a : Addr), as[i]? = some a → bs[i]? = some a) : ∀ (v : V) (d : D), Rp K as O H v d → Rp K bs O H v d
  | _, _, .non => .non
  | _, _, .bl b => .bl b
  | _, _, .int i => .int i
  | _, _, .str x => .str x
  | _, _, .obj q => .obj (h _ _ q)
  | _, _, .tup q r => .tup q (rpAs2 h _ _ r)
  | _, _, .lst n q r => .lst n q (rpAs2 h _ _ r)
  | _, _, .dct n q r t e k => .dct n q (rpAs2 h _ _ r) (rpAs2 h _ _ t) e k
  | _, _, .kd n q e t => .kd n q e (rpAs2 h _ _ t)
  | _, _, .scr q => .scr q
theorem rpAs2 (h : ∀ (i : Nat) (a : Addr), as[i]? = some a → bs[i]? = some a) : ∀ (vs : List V) (ds : List D), RpL K as O H vs ds → RpL K bs O H vs ds
  | _, _, .nil => .nil
  | _, _, .cons r t => .cons (rpAs1 h _ _ r) (rpAs2 h _ _ t)
end
theorem rpAs (h : ∀ (i : Nat) (a : Addr), as[i]? = some a → bs[i]? = some a) : (∀ (v : V) (d : D), Rp K as O H v d → Rp K bs O H v d) ∧ ∀ (vs : List V) (ds : List D), RpL K as O H vs ds → RpL K bs O H vs ds := ⟨rpAs1 h, rpAs2 h⟩
end
end DL
namespace DL
open PySem PySem.Spec PyProof.Rows L2
def kw (X : Cx) : KW := ⟨X.K, X.w⟩
section
variable {K : KW} {as : List Addr} {O O' : Addr → Prop} {H H' : Hp} {S S' : List D}
theorem CellR.mt {a : Addr} {d : D} (c : CellR K as O H a d) : Mut (H a) := by
  cases c with
  | lst h r => rw [h]; trivial
  | dct h r t e k => rw [h]; trivial
  | kd h e t => rw [h]; trivial
theorem Cells.mt (c : Cells K as O H S) {a : Addr} (h : a ∈ as) : Mut (H a) := by
  obtain ⟨i, hi, e⟩ := List.getElem_of_mem h
  have hs : i < S.length := by rw [← c.len]; exact hi
  exact (c.ix i a S[i] (by rw [List.getElem?_eq_getElem hi, e]) (List.getElem?_eq_getElem hs)).mt
theorem Stp.kp (s : Stp as H H') (sub : ∀ a ∈ as, O a) : Kp O H H' := fun a u n h => s a u (fun m => n (sub a m)) h
theorem Wf.step (w : Wf as O H) (s : Stp as H H') (c : Cells K as O H' S') : Wf as O H' := by
  refine ⟨w.sub, fun a o => ?_, w.nd⟩
  by_cases m : a ∈ as
  · exact c.mt m
  · have q := w.mt a o
    cases e : H a with
    | none => rw [e] at q; exact q.elim
    | some u => rw [s a u m e, ← e]; exact q
theorem Wf.nt (w : Wf as O H) : ∀ a, O a → Nt (H a) := fun a o => nt_of_mut (w.mt a o)
theorem Rp.stp (w : Wf as O H) (s : Stp as H H') {v : V} {d : D} (r : Rp K as O H v d) : Rp K as O H' v d := Rp.kp w.nt (s.kp w.sub) v d r
theorem RpL.stp (w : Wf as O H) (s : Stp as H H') {v : List V} {d : List D} (r : RpL K as O H v d) : RpL K as O H' v d := RpL.kp w.nt (s.kp w.sub) v d r
theorem CellR.same (w : Wf as O H) (s : Stp as H H') {a : Addr} {d : D} (e : H' a = H a) (c : CellR K as O H a d) : CellR K as O H' a d := by
  cases c with
  | lst h r => exact .lst (e.trans h) (r.stp w s)
  | dct h r t e1 k => exact .dct (e.trans h) (r.stp w s) (t.stp w s) e1 k
  | kd h e1 t => exact .kd (e.trans h) e1 (t.stp w s)
theorem Same.eq (s : Same H H') {a : Addr} (h : H a ≠ none) : H' a = H a := by
  cases e : H a with
  | none => exact absurd e h
  | some u => exact s a u e
theorem Cells.same (c : Cells K as O H S) (w : Wf as O H) (s : Same H H') : Cells K as O H' S :=
  ⟨c.len, fun i a d e1 e2 => (c.ix i a d e1 e2).same w (Same.stp s) (Same.eq s (w.trk (w.sub a (List.mem_of_getElem? e1))))⟩
theorem Wf.same (w : Wf as O H) (s : Same H H') : Wf as O H' := ⟨w.sub, fun a o => by rw [Same.eq s (w.trk o)]; exact w.mt a o, w.nd⟩
theorem CellR.stp (w : Wf as O H) (s : Stp as H H') {a : Addr} {d : D} (c : CellR K as O H a d) (n : a ∉ as) : CellR K as O H' a d := c.same w s (by
  cases q : H a with
  | none => have := c.mt; rw [q] at this; exact this.elim
  | some u => exact s a u n q)
def RpB (K : KW) (as : List Addr) (O : Addr → Prop) (H : Hp) (v : V) (d : D) : Prop := Rp K as O H v d ∨ ∃ a, v = .ref a ∧ a ∉ as ∧ CellR K as O H a d
theorem RpB.stp (w : Wf as O H) (s : Stp as H H') {v : V} {d : D} (r : RpB K as O H v d) : RpB K as O H' v d := by
  rcases r with r | ⟨a, e, n, c⟩
  · exact .inl (r.stp w s)
  · refine .inr ⟨a, e, n, c.same w s ?_⟩
    cases q : H a with
    | none => have := c.mt; rw [q] at this; exact this.elim
    | some u => exact s a u n q
structure RelE (K : KW) (as : List Addr) (O : Addr → Prop) (σ : L2.St) (H : Hp) (ρ : List Slot) (S : List D) : Prop where
  wf : Wf as O H
  cells : Cells K as O H S
  len : σ.length = ρ.length
  val : ∀ (i : Nat) (d : D), ρ[i]? = some (.val d) → ∃ v, σ[i]? = some (some v) ∧ Rp K as O H v d
  own : ∀ (i : Nat) (d : D), ρ[i]? = some (.own d) → ∃ a, σ[i]? = some (some (.ref a)) ∧ a ∉ as ∧ CellR K as O H a d
theorem RelE.step {σ : L2.St} {ρ : List Slot} (r : RelE K as O σ H ρ S) (s : Stp as H H') (c : Cells K as O H' S') : RelE K as O σ H' ρ S' :=
  ⟨r.wf.step s c, c, r.len, fun i d e => let ⟨v, h, q⟩ := r.val i d e; ⟨v, h, q.stp r.wf s⟩, fun i d e => let ⟨a, h, n, q⟩ := r.own i d e; ⟨a, h, n, q.stp r.wf s n⟩⟩
end
abbrev Ev := List Slot → List D → Option (D × List D)
abbrev Ea := List Slot → List D → Option (List D × List D)
abbrev Et := List Slot → List D → Option (Bool × List D)
def tOf (K : KW) (f : Ev) : TE := fun σ H Q => ∃ as O ρ S d S', RelE K as O σ H ρ S ∧ f ρ S = some (d, S') ∧
  ∀ v H', Stp as H H' → Cells K as O H' S' → Rp K as O H' v d → Q v H'
def tOfB (K : KW) (f : Ev) : TE := fun σ H Q => ∃ as O ρ S d S', RelE K as O σ H ρ S ∧ f ρ S = some (d, S') ∧
  ∀ v H', Stp as H H' → Cells K as O H' S' → RpB K as O H' v d → Q v H'
def tOfA (K : KW) (f : Ea) : TA := fun σ H Q => ∃ as O ρ S ds S', RelE K as O σ H ρ S ∧ f ρ S = some (ds, S') ∧
  ∀ vs H', Stp as H H' → Cells K as O H' S' → RpL K as O H' vs ds → Q vs H'
def tOfT (K : KW) (f : Et) : TT := fun σ H Q => ∃ as O ρ S b S', RelE K as O σ H ρ S ∧ f ρ S = some (b, S') ∧
  ∀ H', Stp as H H' → Cells K as O H' S' → Q b H'
theorem _root_.L2.PE.weak {X : Cx} {e : Expr} {t t' : TE} (h : PE X e t) (k : ∀ σ H Q, t' σ H Q → t σ H Q) : PE X e t' := ⟨fun pins s σ H Q I hw => h.run pins s σ H Q I (k _ _ _ hw)⟩
theorem _root_.L2.PT.weak {X : Cx} {e : Expr} {t t' : TT} (h : PT X e t) (k : ∀ σ H Q, t' σ H Q → t σ H Q) : PT X e t' := ⟨fun pins s σ H Q I hw => h.run pins s σ H Q I (k _ _ _ hw)⟩
theorem _root_.L2.PW.weak {X : Cx} {e : Expr} {t t' : TT} (h : PW X e t) (k : ∀ σ H Q, t' σ H Q → t σ H Q) : PW X e t' := ⟨fun wh pins s σ H Q I hw => h.run wh pins s σ H Q I (k _ _ _ hw)⟩
theorem _root_.L2.PA.weak {X : Cx} {e : List Expr} {t t' : TA} (h : PA X e t) (k : ∀ σ H Q, t' σ H Q → t σ H Q) : PA X e t' := ⟨fun ps pins s σ H Q I hw => h.run ps pins s σ H Q I (k _ _ _ hw)⟩
theorem _root_.L2.PS.weak {X : Cx} {e : Stmt} {t t' : TS} (h : PS X e t) (k : ∀ D σ H, t' D σ H → t D σ H) : PS X e t' := ⟨fun pins s σ H Q I hw => h.run pins s σ H Q I (k _ _ _ hw)⟩
theorem _root_.L2.PSs.weak {X : Cx} {e : List Stmt} {t t' : TS} (h : PSs X e t) (k : ∀ D σ H, t' D σ H → t D σ H) : PSs X e t' := ⟨fun pins s σ H Q I hw => h.run pins s σ H Q I (k _ _ _ hw)⟩
def eC (d : D) : Ev := fun _ S => some (d, S)
def eV (i : Nat) : Ev := fun ρ S => match ρ[i]? with
  | some (.val d) => some (d, S)
  | _ => none
def eB (i : Nat) : Ev := fun ρ S => match ρ[i]? with
  | some (.val d) => some (d, S)
  | some (.own d) => some (d, S)
  | _ => none
section
variable {X : Cx} {pos : Pos} {e a b c : Expr} {es : List Expr} {f fa fb : Ev} {fs : Ea} {fc fd : Et}
theorem me_con {v : V} {d : D} (h : PE X e (tC v)) (r : ∀ as O H, Rp (kw X) as O H v d) : PE X e (tOf (kw X) (eC d)) := h.weak fun σ H Q q => by
  obtain ⟨as, O, ρ, S, d', S', R, hf, k⟩ := q
  cases hf
  exact k v H Stp.refl R.cells (r _ _ _)
theorem me_int {i j pos} : PE X (.Constant (.int i) j pos) (tOf (kw X) (eC (.int i))) := me_con pe_int fun _ _ _ => .int i
theorem me_bl {i j pos} : PE X (.Constant (.bool i) j pos) (tOf (kw X) (eC (.bl i))) := me_con pe_bl fun _ _ _ => .bl i
theorem me_non {j pos} : PE X (.Constant .none j pos) (tOf (kw X) (eC .non)) := me_con pe_non fun _ _ _ => .non
theorem me_str {i j pos} : PE X (.Constant (.str i) j pos) (tOf (kw X) (eC (.str i))) := me_con pe_str fun _ _ _ => .str i
theorem me_v (i : Nat) {x : Str} {pos : Pos} (hN : X.N[i]? = some x := by rfl) (hv : Vis X.env.scope x := by first | exact Or.inl rfl | exact Or.inr (Or.inl rfl) | exact Or.inr (Or.inr rfl)) (hd : (x == ("__debug__" : Str)) = false := by decide)
    (hcd : (x == ("__classdict__" : Str)) = false := by decide) : PE X (.Name x pos) (tOf (kw X) (eV i)) := (pe_var hN hv hd hcd).weak fun σ H Q q => by
  obtain ⟨as, O, ρ, S, d, S', R, hf, k⟩ := q
  unfold eV at hf
  split at hf
  · rename_i d' hr
    cases hf
    obtain ⟨v, h, r⟩ := R.val i _ hr
    exact ⟨v, h, k v H Stp.refl R.cells r⟩
  · cases hf
theorem me_bv (i : Nat) {x : Str} {pos : Pos} (hN : X.N[i]? = some x := by rfl) (hv : Vis X.env.scope x := by first | exact Or.inl rfl | exact Or.inr (Or.inl rfl) | exact Or.inr (Or.inr rfl)) (hd : (x == ("__debug__" : Str)) = false := by decide)
    (hcd : (x == ("__classdict__" : Str)) = false := by decide) : PE X (.Name x pos) (tOfB (kw X) (eB i)) := (pe_var hN hv hd hcd).weak fun σ H Q q => by
  obtain ⟨as, O, ρ, S, d, S', R, hf, k⟩ := q
  unfold eB at hf
  split at hf
  · rename_i d' hr
    cases hf
    obtain ⟨v, h, r⟩ := R.val i _ hr
    exact ⟨v, h, k v H Stp.refl R.cells (.inl r)⟩
  · rename_i d' hr
    cases hf
    obtain ⟨a, h, n, r⟩ := R.own i _ hr
    exact ⟨_, h, k _ H Stp.refl R.cells (.inr ⟨a, rfl, n, r⟩)⟩
  · cases hf
theorem me_b (h : PE X e (tOf (kw X) f)) : PE X e (tOfB (kw X) f) := h.weak fun σ H Q q => by
  obtain ⟨as, O, ρ, S, d, S', R, hf, k⟩ := q
  exact ⟨as, O, ρ, S, d, S', R, hf, fun v H' s c r => k v H' s c (.inl r)⟩
def aN : Ea := fun _ S => some ([], S)
def aC (f : Ev) (fs : Ea) : Ea := fun ρ S => (f ρ S).bind fun p => (fs ρ p.2).bind fun q => some (p.1 :: q.1, q.2)
theorem ma_nil : PA X [] (tOfA (kw X) aN) := pa_nil.weak fun σ H Q q => by
  obtain ⟨as, O, ρ, S, d, S', R, hf, k⟩ := q
  cases hf
  exact k [] H Stp.refl R.cells .nil
theorem ma_cons (ha : PE X e (tOf (kw X) f)) (hr : PA X es (tOfA (kw X) fs)) (hs : starEach (e :: es) X.env = (false, eval e X.env) :: starEach es X.env := by rfl) : PA X (e :: es) (tOfA (kw X) (aC f fs)) := (pa_cons ha hr hs).weak fun σ H Q q => by
  obtain ⟨as, O, ρ, S, d, S', R, hf, k⟩ := q
  unfold aC at hf
  obtain ⟨⟨d1, S1⟩, h1, hf⟩ := Option.bind_eq_some_iff.mp hf
  obtain ⟨⟨d2, S2⟩, h2, hf⟩ := Option.bind_eq_some_iff.mp hf
  cases hf
  refine ⟨as, O, ρ, S, d1, S1, R, h1, fun v H1 s1 c1 r1 => ?_⟩
  have R1 := R.step s1 c1
  refine ⟨as, O, ρ, S1, d2, _, R1, h2, fun vs H2 s2 c2 r2 => ?_⟩
  exact k _ H2 (s1.trans s2) c2 (.cons (r1.stp R1.wf s2) r2)
theorem Rp.length {K : KW} {as : List Addr} {O : Addr → Prop} {H : Hp} : ∀ {vs : List V} {ds : List D}, RpL K as O H vs ds → vs.length = ds.length
  | _, _, .nil => rfl
  | _, _, .cons _ t => congrArg (· + 1) (Rp.length t)
theorem same_new {H : Hp} {p : Addr} {o : HO} (h : H p = none) : Same H (upd H p o) := fun b u e => by rw [upd_ne (ne_of_none e h)]; exact e
def eTup (fs : Ea) : Ev := fun ρ S => (fs ρ S).bind fun p => if p.1.length ≤ 16777216 then some (.tup p.1, p.2) else none
def eLst (fs : Ea) : Ev := fun ρ S => (fs ρ S).bind fun p => if p.1.length ≤ 16777216 then some (.lst p.1, p.2) else none
theorem sizeLine_16 : sizeLine = 16777216 := by decide
theorem le_line {n : Nat} (h : n ≤ 16777216) : n ≤ sizeLine := by rw [sizeLine_16]; exact h
theorem me_tup {x1} (h : PA X es (tOfA (kw X) fs)) : PE X (.Tuple es x1 pos) (tOf (kw X) (eTup fs)) := (pe_tup h).weak fun σ H Q q => by
  obtain ⟨as, O, ρ, S, d, S', R, hf, k⟩ := q
  unfold eTup at hf
  obtain ⟨⟨d1, S1⟩, h1, hf⟩ := Option.bind_eq_some_iff.mp hf
  split at hf
  · rename_i hl
    cases hf
    refine ⟨as, O, ρ, S, d1, S1, R, h1, fun vs H1 s1 c1 r1 => ?_⟩
    have R1 := R.step s1 c1
    refine ⟨by rw [Rp.length r1]; exact le_line hl, fun p hp => ?_⟩
    have sm := same_new (o := .tup vs) hp
    exact k _ _ (s1.trans (Same.stp sm)) (c1.same R1.wf sm) (.tup (.inl (.inl upd_same)) (r1.stp R1.wf (Same.stp sm)))
  · cases hf
theorem me_lst (h : PA X es (tOfA (kw X) fs)) : PE X (.List es pos) (tOf (kw X) (eLst fs)) := (pe_lst h).weak fun σ H Q q => by
  obtain ⟨as, O, ρ, S, d, S', R, hf, k⟩ := q
  unfold eLst at hf
  obtain ⟨⟨d1, S1⟩, h1, hf⟩ := Option.bind_eq_some_iff.mp hf
  split at hf
  · rename_i hl
    cases hf
    refine ⟨as, O, ρ, S, d1, S1, R, h1, fun vs H1 s1 c1 r1 => ?_⟩
    have R1 := R.step s1 c1
    refine ⟨by rw [Rp.length r1]; exact le_line hl, fun p hp => ?_⟩
    have sm := same_new (o := .lst vs) hp
    exact k _ _ (s1.trans (Same.stp sm)) (c1.same R1.wf sm) (.lst (R1.wf.nel hp) upd_same (r1.stp R1.wf (Same.stp sm)))
  · cases hf
def r2D (K : KW) (g : D → D → Option D) : R2 := fun x y H Q => ∃ as O d e r, Wf as O H ∧ RpB K as O H x d ∧ RpB K as O H y e ∧ g d e = some r ∧ ∀ v H', Same H H' → Rp K as O H' v r → Q v H'
def r1D (K : KW) (g : D → Option D) : V → Hp → VK → Prop := fun x H Q => ∃ as O d r, Wf as O H ∧ RpB K as O H x d ∧ g d = some r ∧ ∀ v H', Same H H' → Rp K as O H' v r → Q v H'
def eBin (g : D → D → Option D) (fa fb : Ev) : Ev := fun ρ S => (fa ρ S).bind fun p => (fb ρ p.2).bind fun q => (g p.1 q.1).bind fun r => some (r, q.2)
def eUn (g : D → Option D) (fa : Ev) : Ev := fun ρ S => (fa ρ S).bind fun p => (g p.1).bind fun r => some (r, p.2)
theorem bin_weak {K : KW} {g : D → D → Option D} {σ : L2.St} {H : Hp} {Q : VK} (q : tOf K (eBin g fa fb) σ H Q) : tOp (r2D K g) (tOfB K fa) (tOfB K fb) σ H Q := by
  obtain ⟨as, O, ρ, S, d, S', R, hf, k⟩ := q
  unfold eBin at hf
  obtain ⟨⟨d1, S1⟩, h1, hf⟩ := Option.bind_eq_some_iff.mp hf
  obtain ⟨⟨d2, S2⟩, h2, hf⟩ := Option.bind_eq_some_iff.mp hf
  obtain ⟨r, h3, hf⟩ := Option.bind_eq_some_iff.mp hf
  cases hf
  refine ⟨as, O, ρ, S, d1, S1, R, h1, fun v H1 s1 c1 r1 => ?_⟩
  have R1 := R.step s1 c1
  refine ⟨as, O, ρ, S1, d2, S2, R1, h2, fun w H2 s2 c2 r2 => ?_⟩
  have R2 := R1.step s2 c2
  exact ⟨as, O, d1, d2, _, R2.wf, r1.stp R1.wf s2, r2, h3, fun v H' sm r => k v H' ((s1.trans s2).trans (Same.stp sm)) (c2.same R2.wf sm) r⟩
theorem un_weak {K : KW} {g : D → Option D} {σ : L2.St} {H : Hp} {Q : VK} (q : tOf K (eUn g fa) σ H Q) : tUn (r1D K g) (tOfB K fa) σ H Q := by
  obtain ⟨as, O, ρ, S, d, S', R, hf, k⟩ := q
  unfold eUn at hf
  obtain ⟨⟨d1, S1⟩, h1, hf⟩ := Option.bind_eq_some_iff.mp hf
  obtain ⟨r, h3, hf⟩ := Option.bind_eq_some_iff.mp hf
  cases hf
  refine ⟨as, O, ρ, S, d1, S1, R, h1, fun v H1 s1 c1 r1 => ?_⟩
  have R1 := R.step s1 c1
  exact ⟨as, O, d1, _, R1.wf, r1, h3, fun v H' sm r => k v H' (s1.trans (Same.stp sm)) (c1.same R1.wf sm) r⟩
theorem me_bin {op : Operator} {g : D → D → Option D} (ho : OpR X (binaryOp op) (r2D (kw X) g)) (ha : PE X a (tOfB (kw X) fa)) (hb : PE X b (tOfB (kw X) fb)) : PE X (.BinOp a op b pos) (tOf (kw X) (eBin g fa fb)) :=
  (pe_op ho ha hb).weak fun _ _ _ => bin_weak
theorem me_cmp {op : CmpOp} {g : D → D → Option D} (ho : OpR X (compareOp op) (r2D (kw X) g)) (ha : PE X a (tOfB (kw X) fa)) (hb : PE X b (tOfB (kw X) fb)) (hm : behindInMarks op b = false) : PE X (.Compare a [op] [b] pos) (tOf (kw X) (eBin g fa fb)) :=
  (pe_cmpR ho ha hb hm).weak fun _ _ _ => bin_weak
theorem me_un {op : UnaryOp} {g : D → Option D} (ho : UnR X (unaryOp op) (r1D (kw X) g)) (ha : PE X a (tOfB (kw X) fa)) : PE X (.UnaryOp op a pos) (tOf (kw X) (eUn g fa)) :=
  (pe_un ho ha).weak fun _ _ _ => un_weak
def cV (f : Ev) : Et := fun ρ S => (f ρ S).bind fun p => match p.1 with
  | .bl b => some (b, p.2)
  | _ => none
theorem mt_cmp {op : CmpOp} {g : D → D → Option D} (ho : OpR X (compareOp op) (r2D (kw X) g)) (ha : PE X a (tOfB (kw X) fa)) (hb : PE X b (tOfB (kw X) fb)) (hm : behindInMarks op b = false) : PT X (.Compare a [op] [b] pos) (tOfT (kw X) (cV (eBin g fa fb))) :=
  (pt_cmpR ho ha hb hm).weak fun σ H Q q => by
    obtain ⟨as, O, ρ, S, d, S', R, hf, k⟩ := q
    unfold cV at hf
    obtain ⟨⟨d1, S1⟩, h1, hf⟩ := Option.bind_eq_some_iff.mp hf
    refine bin_weak ⟨as, O, ρ, S, d1, S1, R, h1, fun v H' s c r => ?_⟩
    cases r with
    | bl b => cases hf; exact ⟨_, rfl, k H' s c⟩
    | _ => cases hf
theorem mt_val (h : PE X e (tOf (kw X) f)) (he : ∀ whole, isTrue e X.env whole = (do let v ← whole; standAt e.pos; holding [v] (truthy v)) := by intro _; rfl) : PT X e (tOfT (kw X) (cV f)) :=
  (pt_val h he).weak fun σ H Q q => by
    obtain ⟨as, O, ρ, S, d, S', R, hf, k⟩ := q
    unfold cV at hf
    obtain ⟨⟨d1, S1⟩, h1, hf⟩ := Option.bind_eq_some_iff.mp hf
    refine ⟨as, O, ρ, S, d1, S1, R, h1, fun v H' s c r => ?_⟩
    cases r with
    | bl b => cases hf; exact ⟨_, rfl, k H' s c⟩
    | _ => cases hf
def cAnd (fc fd : Et) : Et := fun ρ S => (fc ρ S).bind fun p => if p.1 = true then fd ρ p.2 else some (false, p.2)
def cOr (fc fd : Et) : Et := fun ρ S => (fc ρ S).bind fun p => if p.1 = true then some (true, p.2) else fd ρ p.2
def cNot (fc : Et) : Et := fun ρ S => (fc ρ S).bind fun p => some (!p.1, p.2)
theorem mw_and1 (h : PT X a (tOfT (kw X) fc)) : PW X (.BoolOp .And [a] pos) (tOfT (kw X) fc) := pw_and1 h
theorem mw_or1 (h : PT X a (tOfT (kw X) fc)) : PW X (.BoolOp .Or [a] pos) (tOfT (kw X) fc) := pw_or1 h
variable {rest : List Expr}
theorem mw_and (ha : PT X a (tOfT (kw X) fc)) (hb : PW X (.BoolOp .And (b :: rest) pos) (tOfT (kw X) fd)) : PW X (.BoolOp .And (a :: b :: rest) pos) (tOfT (kw X) (cAnd fc fd)) := (pw_and ha hb).weak fun σ H Q q => by
  obtain ⟨as, O, ρ, S, d, S', R, hf, k⟩ := q
  unfold cAnd at hf
  obtain ⟨⟨d1, S1⟩, h1, hf⟩ := Option.bind_eq_some_iff.mp hf
  refine ⟨as, O, ρ, S, d1, S1, R, h1, fun H1 s1 c1 => ?_⟩
  cases d1 with
  | true => exact ⟨as, O, ρ, S1, d, S', R.step s1 c1, hf, fun H2 s2 c2 => k H2 (s1.trans s2) c2⟩
  | false => cases hf; exact k H1 s1 c1
theorem mw_or (ha : PT X a (tOfT (kw X) fc)) (hb : PW X (.BoolOp .Or (b :: rest) pos) (tOfT (kw X) fd)) : PW X (.BoolOp .Or (a :: b :: rest) pos) (tOfT (kw X) (cOr fc fd)) := (pw_or ha hb).weak fun σ H Q q => by
  obtain ⟨as, O, ρ, S, d, S', R, hf, k⟩ := q
  unfold cOr at hf
  obtain ⟨⟨d1, S1⟩, h1, hf⟩ := Option.bind_eq_some_iff.mp hf
  refine ⟨as, O, ρ, S, d1, S1, R, h1, fun H1 s1 c1 => ?_⟩
  cases d1 with
  | false => exact ⟨as, O, ρ, S1, d, S', R.step s1 c1, hf, fun H2 s2 c2 => k H2 (s1.trans s2) c2⟩
  | true => cases hf; exact k H1 s1 c1
theorem mt_not (ha : PT X a (tOfT (kw X) fc)) : PT X (.UnaryOp .Not a pos) (tOfT (kw X) (cNot fc)) := (pt_not ha).weak fun σ H Q q => by
  obtain ⟨as, O, ρ, S, d, S', R, hf, k⟩ := q
  unfold cNot at hf
  obtain ⟨⟨d1, S1⟩, h1, hf⟩ := Option.bind_eq_some_iff.mp hf
  cases hf
  exact ⟨as, O, ρ, S, d1, S1, R, h1, fun H1 s1 c1 => k H1 s1 c1⟩
def eT (c : Et) : Ev := fun ρ S => (c ρ S).bind fun p => some (.bl p.1, p.2)
def eAnd (fa fb : Ev) : Ev := fun ρ S => (fa ρ S).bind fun p => match p.1 with
  | .bl true => fb ρ p.2
  | .bl false => some (.bl false, p.2)
  | _ => none
def eOr (fa fb : Ev) : Ev := fun ρ S => (fa ρ S).bind fun p => match p.1 with
  | .bl true => some (.bl true, p.2)
  | .bl false => fb ρ p.2
  | _ => none
def eNot (fa : Ev) : Ev := fun ρ S => (fa ρ S).bind fun p => match p.1 with
  | .bl b => some (.bl (!b), p.2)
  | _ => none
theorem me_and1 {op} (h : PE X a (tOf (kw X) fa)) : PE X (.BoolOp op [a] pos) (tOf (kw X) fa) := pe_one h
theorem me_and (ha : PE X a (tOf (kw X) fa)) (hb : PE X (.BoolOp .And (b :: rest) pos) (tOf (kw X) fb)) : PE X (.BoolOp .And (a :: b :: rest) pos) (tOf (kw X) (eAnd fa fb)) := (pe_and ha hb).weak fun σ H Q q => by
  obtain ⟨as, O, ρ, S, d, S', R, hf, k⟩ := q
  unfold eAnd at hf
  obtain ⟨⟨d1, S1⟩, h1, hf⟩ := Option.bind_eq_some_iff.mp hf
  refine ⟨as, O, ρ, S, d1, S1, R, h1, fun v H1 s1 c1 r1 => ?_⟩
  cases r1 with
  | bl b =>
    refine ⟨b, rfl, ?_⟩
    cases b with
    | true => exact ⟨as, O, ρ, S1, d, S', R.step s1 c1, hf, fun v H2 s2 c2 r => k v H2 (s1.trans s2) c2 r⟩
    | false => cases hf; exact k _ H1 s1 c1 (.bl _)
  | _ => cases hf
theorem me_or (ha : PE X a (tOf (kw X) fa)) (hb : PE X (.BoolOp .Or (b :: rest) pos) (tOf (kw X) fb)) : PE X (.BoolOp .Or (a :: b :: rest) pos) (tOf (kw X) (eOr fa fb)) := (pe_or ha hb).weak fun σ H Q q => by
  obtain ⟨as, O, ρ, S, d, S', R, hf, k⟩ := q
  unfold eOr at hf
  obtain ⟨⟨d1, S1⟩, h1, hf⟩ := Option.bind_eq_some_iff.mp hf
  refine ⟨as, O, ρ, S, d1, S1, R, h1, fun v H1 s1 c1 r1 => ?_⟩
  cases r1 with
  | bl b =>
    refine ⟨b, rfl, ?_⟩
    cases b with
    | false => exact ⟨as, O, ρ, S1, d, S', R.step s1 c1, hf, fun v H2 s2 c2 r => k v H2 (s1.trans s2) c2 r⟩
    | true => cases hf; exact k _ H1 s1 c1 (.bl _)
  | _ => cases hf
theorem me_not (ha : PE X a (tOf (kw X) fa)) : PE X (.UnaryOp .Not a pos) (tOf (kw X) (eNot fa)) := (pe_not ha).weak fun σ H Q q => by
  obtain ⟨as, O, ρ, S, d, S', R, hf, k⟩ := q
  unfold eNot at hf
  obtain ⟨⟨d1, S1⟩, h1, hf⟩ := Option.bind_eq_some_iff.mp hf
  refine ⟨as, O, ρ, S, d1, S1, R, h1, fun v H1 s1 c1 r1 => ?_⟩
  cases r1 with
  | bl b => cases hf; exact ⟨b, rfl, k _ H1 s1 c1 (.bl _)⟩
  | _ => cases hf
def eIf (c : Et) (fa fb : Ev) : Ev := fun ρ S => (c ρ S).bind fun p => if p.1 = true then fa ρ p.2 else fb ρ p.2
theorem me_if (hc : PT X c (tOfT (kw X) fc)) (ha : PE X a (tOf (kw X) fa)) (hb : PE X b (tOf (kw X) fb)) : PE X (.IfExp c a b pos) (tOf (kw X) (eIf fc fa fb)) := (pe_ifExp hc ha hb).weak fun σ H Q q => by
  obtain ⟨as, O, ρ, S, d, S', R, hf, k⟩ := q
  unfold eIf at hf
  obtain ⟨⟨d1, S1⟩, h1, hf⟩ := Option.bind_eq_some_iff.mp hf
  refine ⟨as, O, ρ, S, d1, S1, R, h1, fun H1 s1 c1 => ?_⟩
  cases d1 with
  | true => exact ⟨as, O, ρ, S1, d, S', R.step s1 c1, hf, fun v H2 s2 c2 r => k v H2 (s1.trans s2) c2 r⟩
  | false => exact ⟨as, O, ρ, S1, d, S', R.step s1 c1, hf, fun v H2 s2 c2 r => k v H2 (s1.trans s2) c2 r⟩
end
end DL
namespace DL
open PySem PySem.Spec PyProof.Rows L2
def tOfF (K : KW) (f : Ev) : TE := fun σ H Q => ∃ as O ρ S d S', RelE K as O σ H ρ S ∧ f ρ S = some (d, S') ∧
  ∀ a H', H a = none → Stp as H H' → Cells K as (ad O a) H' S' → CellR K as (ad O a) H' a d → Q (.ref a) H'
section
variable {K : KW} {as : List Addr} {O O' : Addr → Prop} {H H' : Hp} {S S' : List D}
theorem CellR.anti (s : ∀ a, O' a → O a) {a : Addr} {d : D} (c : CellR K as O H a d) : CellR K as O' H a d := by
  cases c with
  | lst h r => exact .lst h (RpL.anti s _ _ r)
  | dct h r t9 e9 k9 => exact .dct h (RpL.anti s _ _ r) (RpL.anti s _ _ t9) e9 k9
  | kd h e9 t9 => exact .kd h e9 (RpL.anti s _ _ t9)
theorem Cells.anti (s : ∀ a, O' a → O a) (c : Cells K as O H S) : Cells K as O' H S := ⟨c.len, fun i a d e1 e2 => (c.ix i a d e1 e2).anti s⟩
theorem ad_sub {p : Addr} : ∀ a, O a → ad O p a := fun _ o => .inl o
theorem CellR.val {a : Addr} {d : D} (n : ¬ O' a) (s : ∀ a, O' a → O a) (c : CellR K as O H a d) : Rp K as O' H (.ref a) d := by
  cases c with
  | lst h r => exact .lst n h (RpL.anti s _ _ r)
  | dct h r t9 e9 k9 => exact .dct n h (RpL.anti s _ _ r) (RpL.anti s _ _ t9) e9 k9
  | kd h e9 t9 => exact .kd n h e9 (RpL.anti s _ _ t9)
end
section
variable {X : Cx} {pos : Pos} {e a b c : Expr} {es : List Expr} {f fa fb : Ev} {fs : Ea} {fc fd : Et}
theorem me_f (h : PE X e (tOfF (kw X) f)) : PE X e (tOf (kw X) f) := h.weak fun σ H Q q => by
  obtain ⟨as, O, ρ, S, d, S', R, hf, k⟩ := q
  refine ⟨as, O, ρ, S, d, S', R, hf, fun p H' n s c r => k _ H' s (c.anti ad_sub) (r.val (R.wf.nel n) ad_sub)⟩
theorem mf_lst (h : PA X es (tOfA (kw X) fs)) : PE X (.List es pos) (tOfF (kw X) (eLst fs)) := (pe_lst h).weak fun σ H Q q => by
  obtain ⟨as, O, ρ, S, d, S', R, hf, k⟩ := q
  unfold eLst at hf
  obtain ⟨⟨d1, S1⟩, h1, hf⟩ := Option.bind_eq_some_iff.mp hf
  split at hf
  · rename_i hl
    cases hf
    refine ⟨as, O, ρ, S, d1, S1, R, h1, fun vs H1 s1 c1 r1 => ?_⟩
    have R1 := R.step s1 c1
    refine ⟨by rw [Rp.length r1]; exact le_line hl, fun p hp => ?_⟩
    have sm := same_new (o := .lst vs) hp
    have hp0 : H p = none := by
      cases q : H p with
      | none => rfl
      | some u =>
        by_cases m : p ∈ as
        · have := R1.wf.trk (R1.wf.sub p m); exact absurd hp this
        · rw [s1 p u m q] at hp; cases hp
    have w2 : Wf as O (upd H1 p (.lst vs)) := R1.wf.same sm
    have kk : Kp (ad O p) H1 (upd H1 p (.lst vs)) := fun a u _ e => sm a u e
    have m1 : ∀ a, ad O p a → Nt (H1 a) := fun a o => by
      rcases o with o | o
      · exact nt_of_mut (R1.wf.mt a o)
      · rw [o, hp]; exact nt_none
    have r2 : RpL (kw X) as (ad O p) (upd H1 p (.lst vs)) vs d1 := RpL.kp m1 kk _ _ (RpL.ad hp _ _ r1)
    refine k p _ hp0 (s1.trans (Same.stp sm)) ⟨c1.len, fun i a d e1 e2 => ?_⟩ (.lst upd_same r2)
    have q := c1.ix i a d e1 e2
    have hne : a ≠ p := fun z => by
      have := q.mt
      rw [z, hp] at this
      exact this
    cases q with
    | lst h r => exact .lst ((upd_ne hne).trans h) (RpL.kp m1 kk _ _ (RpL.ad hp _ _ r))
    | dct h r t9 e9 k9 => exact .dct ((upd_ne hne).trans h) (RpL.kp m1 kk _ _ (RpL.ad hp _ _ r)) (RpL.kp m1 kk _ _ (RpL.ad hp _ _ t9)) e9 k9
    | kd h e9 t9 => exact .kd ((upd_ne hne).trans h) e9 (RpL.kp m1 kk _ _ (RpL.ad hp _ _ t9))
  · cases hf
end
inductive Out where
  | nx (ρ : List Slot) (S : List D) | rt (d : D) (S : List D) | bk (ρ : List Slot) (S : List D) | ct (ρ : List Slot) (S : List D)
abbrev Sv := List Slot → List D → Option Out
def Ow (ρ : List Slot) (σ : L2.St) (a : Addr) : Prop := ∃ (i : Nat) (d : D), ρ[i]? = some (.own d) ∧ σ[i]? = some (some (.ref a))
def OO (O : Addr → Prop) (ρ : List Slot) (σ : L2.St) : Addr → Prop := fun a => O a ∨ Ow ρ σ a
structure Rel (K : KW) (as : List Addr) (O : Addr → Prop) (B : Addr → Prop) (G : Addr → HO → Prop) (σ : L2.St) (H : Hp) (ρ : List Slot) (S : List D) : Prop where
  sub : ∀ a ∈ as, O a
  ob : ∀ a, O a → B a
  bt : ∀ a, B a → H a ≠ none
  mt : ∀ a, O a → Mut (H a)
  nd : as.Nodup
  g : ∀ a u, G a u → H a = some u
  gas : ∀ a u, G a u → a ∉ as
  cells : Cells K as (OO O ρ σ) H S
  len : σ.length = ρ.length
  val : ∀ (i : Nat) (d : D), ρ[i]? = some (.val d) → ∃ v, σ[i]? = some (some v) ∧ Rp K as (OO O ρ σ) H v d
  own : ∀ (i : Nat) (d : D), ρ[i]? = some (.own d) → ∃ a, σ[i]? = some (some (.ref a)) ∧ ¬ B a ∧ (∀ u, ¬ G a u) ∧ CellR K as (OO O ρ σ) H a d
  dist : ∀ (i j : Nat) (d e : D) (a : Addr), i ≠ j → ρ[i]? = some (.own d) → ρ[j]? = some (.own e) → σ[i]? = some (some (.ref a)) → σ[j]? ≠ some (some (.ref a))
section
variable {K : KW} {as : List Addr} {O B : Addr → Prop} {G G' : Addr → HO → Prop} {σ : L2.St} {H H' : Hp} {ρ : List Slot} {S S' : List D}
theorem Rel.ow_own (R : Rel K as O B G σ H ρ S) {a : Addr} (h : Ow ρ σ a) : ¬ B a ∧ (∀ u, ¬ G a u) ∧ Mut (H a) := by
  obtain ⟨i, d, h1, h2⟩ := h
  obtain ⟨b, e, n, g, c⟩ := R.own i d h1
  rw [h2] at e
  cases e
  exact ⟨n, g, c.mt⟩
theorem Rel.wf (R : Rel K as O B G σ H ρ S) : Wf as (OO O ρ σ) H := by
  refine ⟨fun a m => .inl (R.sub a m), fun a o => ?_, R.nd⟩
  rcases o with o | o
  · exact R.mt a o
  · exact (R.ow_own o).2.2
theorem Rel.notas (R : Rel K as O B G σ H ρ S) {a : Addr} (h : ¬ B a) : a ∉ as := fun m => h (R.ob a (R.sub a m))
theorem Rel.e (R : Rel K as O B G σ H ρ S) : RelE K as (OO O ρ σ) σ H ρ S :=
  ⟨R.wf, R.cells, R.len, R.val, fun i d e => let ⟨a, h, n, g, c⟩ := R.own i d e; ⟨a, h, R.notas n, c⟩⟩
theorem Rel.step (R : Rel K as O B G σ H ρ S) (s : Stp as H H') (c : Cells K as (OO O ρ σ) H' S') : Rel K as O B G σ H' ρ S' := by
  have w := R.wf
  have w' := w.step s c
  have nn : ∀ a, H a ≠ none → H' a ≠ none := fun a h => by
    by_cases m : a ∈ as
    · exact w'.trk (w.sub a m)
    · cases q : H a with
      | none => exact absurd q h
      | some u => rw [s a u m q]; exact fun z => nomatch z
  refine ⟨R.sub, R.ob, fun a b => nn a (R.bt a b), fun a o => w'.mt a (.inl o), R.nd, fun a u h => s a u (R.gas a u h) (R.g a u h), R.gas, c, R.len, fun i d e => ?_, fun i d e => ?_, R.dist⟩
  · obtain ⟨v, h, r⟩ := R.val i d e
    exact ⟨v, h, r.stp w s⟩
  · obtain ⟨a, h, n, g, q⟩ := R.own i d e
    refine ⟨a, h, n, g, q.same w s ?_⟩
    cases z : H a with
    | none => have := q.mt; rw [z] at this; exact this.elim
    | some u => exact s a u (R.notas n) z
theorem get_set {α : Type} {l : List α} {i j : Nat} {x y : α} (h : (l.set i x)[j]? = some y) : (j = i ∧ x = y) ∨ (j ≠ i ∧ l[j]? = some y) := by
  by_cases e : j = i
  · subst e
    rw [List.getElem?_set_self'] at h
    cases q : l[j]? with
    | none => rw [q] at h; cases h
    | some z => rw [q] at h; exact .inl ⟨rfl, by simpa using h⟩
  · rw [List.getElem?_set_ne (Ne.symm e)] at h
    exact .inr ⟨e, h⟩
theorem ow_set {i : Nat} {x : Option V} {y : Slot} {a : Addr} (hy : ∀ d, y ≠ .own d) (h : Ow (ρ.set i y) (σ.set i x) a) : Ow ρ σ a := by
  obtain ⟨j, d, h1, h2⟩ := h
  rcases get_set h1 with ⟨rfl, e⟩ | ⟨ne, e⟩
  · exact absurd e (hy d)
  · rw [List.getElem?_set_ne (Ne.symm ne)] at h2
    exact ⟨j, d, e, h2⟩
theorem oo_set {i : Nat} {x : Option V} {y : Slot} (hy : ∀ d, y ≠ .own d) : ∀ a, OO O (ρ.set i y) (σ.set i x) a → OO O ρ σ a := fun a h => h.elim .inl fun z => .inr (ow_set hy z)
theorem Rel.set (R : Rel K as O B G σ H ρ S) (i : Nat) {v : V} {d : D} (r : Rp K as (OO O ρ σ) H v d) : Rel K as O B G (σ.set i (some v)) H (ρ.set i (.val d)) S := by
  have sb : ∀ a, OO O (ρ.set i (.val d)) (σ.set i (some v)) a → OO O ρ σ a := oo_set (fun _ z => nomatch z)
  refine ⟨R.sub, R.ob, R.bt, R.mt, R.nd, R.g, R.gas, R.cells.anti sb, by simp [R.len], fun j e h => ?_, fun j e h => ?_, fun j k e1 e2 a ne h1 h2 h3 => ?_⟩
  · rcases get_set h with ⟨rfl, q⟩ | ⟨ne, q⟩
    · cases q
      have hl : j < σ.length := by
        rw [R.len]
        obtain ⟨z, _⟩ := List.getElem?_eq_some_iff.mp h
        simpa using z
      exact ⟨v, List.getElem?_set_self hl, Rp.anti sb _ _ r⟩
    · obtain ⟨w, h2, r2⟩ := R.val j e q
      exact ⟨w, (List.getElem?_set_ne (Ne.symm ne)).trans h2, Rp.anti sb _ _ r2⟩
  · rcases get_set h with ⟨rfl, q⟩ | ⟨ne, q⟩
    · cases q
    · obtain ⟨a, h2, n, g, c⟩ := R.own j e q
      exact ⟨a, (List.getElem?_set_ne (Ne.symm ne)).trans h2, n, g, c.anti sb⟩
  · rcases get_set h1 with ⟨rfl, q⟩ | ⟨ne1, q1⟩
    · cases q
    · rcases get_set h2 with ⟨rfl, q⟩ | ⟨ne2, q2⟩
      · cases q
      · rw [List.getElem?_set_ne (Ne.symm ne1)] at h3
        rw [List.getElem?_set_ne (Ne.symm ne2)]
        exact R.dist j k e1 e2 a ne q1 q2 h3
theorem Rel.setOwn (R : Rel K as O B G σ H ρ S) (i : Nat) {a : Addr} {d : D} (hi : i < ρ.length) (n : H a = none) (s : Stp as H H') (c : Cells K as (ad (OO O ρ σ) a) H' S') (q : CellR K as (ad (OO O ρ σ) a) H' a d) :
    Rel K as O B G (σ.set i (some (.ref a))) H' (ρ.set i (.own d)) S' := by
  have R' := R.step s (c.anti ad_sub)
  have sb : ∀ b, OO O (ρ.set i (.own d)) (σ.set i (some (.ref a))) b → ad (OO O ρ σ) a b := fun b h => by
    rcases h with h | ⟨j, e, h1, h2⟩
    · exact .inl (.inl h)
    · rcases get_set h1 with ⟨rfl, z⟩ | ⟨ne, z⟩
      · rcases get_set h2 with ⟨_, y⟩ | ⟨y, _⟩
        · exact .inr (by cases y; rfl)
        · exact absurd rfl y
      · rw [List.getElem?_set_ne (Ne.symm ne)] at h2
        exact .inl (.inr ⟨j, e, z, h2⟩)
  have m1 : ∀ b, ad (OO O ρ σ) a b → Nt (H b) := fun b o => by
    rcases o with o | o
    · exact R.wf.nt b o
    · rw [o, n]; exact nt_none
  have kk : Kp (ad (OO O ρ σ) a) H H' := fun b u nb e => s b u (fun m => nb (.inl (.inl (R.sub b m)))) e
  have nb : ¬ B a := fun z => R.bt a z n
  have hl : i < σ.length := by rw [R.len]; exact hi
  refine ⟨R.sub, R.ob, R'.bt, R'.mt, R.nd, R'.g, R.gas, c.anti sb, by simp [R.len], fun j e h => ?_, fun j e h => ?_, fun j k e1 e2 b ne h1 h2 h3 => ?_⟩
  · rcases get_set h with ⟨rfl, z⟩ | ⟨ne, z⟩
    · cases z
    · obtain ⟨w, h2, r2⟩ := R.val j e z
      exact ⟨w, (List.getElem?_set_ne (Ne.symm ne)).trans h2, Rp.anti sb _ _ (Rp.kp m1 kk _ _ (Rp.ad n _ _ r2))⟩
  · rcases get_set h with ⟨rfl, z⟩ | ⟨ne, z⟩
    · cases z
      exact ⟨a, List.getElem?_set_self hl, nb, (fun u g => by
        have := R.g a u g
        rw [n] at this
        cases this), q.anti sb⟩
    · obtain ⟨b, h2, nb2, g, cb⟩ := R.own j e z
      refine ⟨b, (List.getElem?_set_ne (Ne.symm ne)).trans h2, nb2, g, ?_⟩
      cases cb with
      | lst hh r => exact .lst (s b _ (R.notas nb2) hh) (RpL.anti sb _ _ (RpL.kp m1 kk _ _ (RpL.ad n _ _ r)))
      | dct hh r t9 e9 k9 => exact .dct (s b _ (R.notas nb2) hh) (RpL.anti sb _ _ (RpL.kp m1 kk _ _ (RpL.ad n _ _ r))) (RpL.anti sb _ _ (RpL.kp m1 kk _ _ (RpL.ad n _ _ t9))) e9 k9
      | kd hh e9 t9 => exact .kd (s b _ (R.notas nb2) hh) e9 (RpL.anti sb _ _ (RpL.kp m1 kk _ _ (RpL.ad n _ _ t9)))
  · have fresh : ∀ (j : Nat) (e : D), ρ[j]? = some (.own e) → σ[j]? ≠ some (some (.ref a)) := fun j e h z => by
      obtain ⟨b, h2, _, _, cb⟩ := R.own j e h
      rw [z] at h2
      cases h2
      have := cb.mt
      rw [n] at this
      exact this
    rcases get_set h1 with ⟨rfl, q1⟩ | ⟨ne1, q1⟩
    · rcases get_set h3 with ⟨_, y⟩ | ⟨y, _⟩
      · cases y
        rcases get_set h2 with ⟨rfl, q2⟩ | ⟨ne2, q2⟩
        · exact absurd rfl ne
        · rw [List.getElem?_set_ne (Ne.symm ne2)]
          exact fresh k e2 q2
      · exact absurd rfl y
    · rw [List.getElem?_set_ne (Ne.symm ne1)] at h3
      rcases get_set h2 with ⟨rfl, q2⟩ | ⟨ne2, q2⟩
      · rw [List.getElem?_set_self hl]
        intro y
        cases y
        exact fresh j e1 q1 h3
      · rw [List.getElem?_set_ne (Ne.symm ne2)]
        exact R.dist j k e1 e2 b ne q1 q2 h3
theorem Rel.mutOwn (R : Rel K as O B G σ H ρ S) {i : Nat} {a : Addr} {d d' : D} {o : HO} (hi : ρ[i]? = some (.own d)) (ha : σ[i]? = some (some (.ref a))) (mo : Mut (some o))
    (q : CellR K as (OO O ρ σ) (upd H a o) a d') : Rel K as O B G σ (upd H a o) (ρ.set i (.own d')) S := by
  have ow : Ow ρ σ a := ⟨i, d, hi, ha⟩
  obtain ⟨nb, ng, ma⟩ := R.ow_own ow
  have na : H a ≠ none := fun z => by rw [z] at ma; exact ma
  have kk : Kp (OO O ρ σ) H (upd H a o) := fun b u n e => by
    rw [upd_ne (fun z => n (by rw [z]; exact .inr ow))]
    exact e
  have sb : ∀ b, OO O (ρ.set i (.own d')) σ b → OO O ρ σ b := fun b h => by
    rcases h with h | ⟨j, e, h1, h2⟩
    · exact .inl h
    · rcases get_set h1 with ⟨rfl, z⟩ | ⟨ne, z⟩
      · exact .inr ⟨j, d, hi, h2⟩
      · exact .inr ⟨j, e, z, h2⟩
  have w := R.wf
  refine ⟨R.sub, R.ob, fun b h => ?_, fun b h => ?_, R.nd, fun b u h => ?_, R.gas, ⟨R.cells.len, fun j b e e1 e2 => ?_⟩, by simp [R.len], fun j e h => ?_, fun j e h => ?_, fun j k e1 e2 b ne h1 h2 h3 => ?_⟩
  · rw [upd_ne (fun z => nb (by rw [← z]; exact h))]; exact R.bt b h
  · rw [upd_ne (fun z => nb (by rw [← z]; exact R.ob b h))]; exact R.mt b h
  · rw [upd_ne (fun z => ng u (by rw [← z]; exact h))]; exact R.g b u h
  · have hb : b ≠ a := fun z => R.notas nb (by rw [← z]; exact List.mem_of_getElem? e1)
    cases R.cells.ix j b e e1 e2 with
    | lst h r => exact .lst ((upd_ne hb).trans h) (RpL.anti sb _ _ (RpL.kp w.nt kk _ _ r))
    | dct h r t9 e9 k9 => exact .dct ((upd_ne hb).trans h) (RpL.anti sb _ _ (RpL.kp w.nt kk _ _ r)) (RpL.anti sb _ _ (RpL.kp w.nt kk _ _ t9)) e9 k9
    | kd h e9 t9 => exact .kd ((upd_ne hb).trans h) e9 (RpL.anti sb _ _ (RpL.kp w.nt kk _ _ t9))
  · rcases get_set h with ⟨rfl, z⟩ | ⟨ne, z⟩
    · cases z
    · obtain ⟨v, h2, r⟩ := R.val j e z
      exact ⟨v, h2, Rp.anti sb _ _ (Rp.kp w.nt kk _ _ r)⟩
  · rcases get_set h with ⟨rfl, z⟩ | ⟨ne, z⟩
    · cases z
      exact ⟨a, ha, nb, ng, q.anti sb⟩
    · obtain ⟨b, h2, n2, g2, cb⟩ := R.own j e z
      have hb : b ≠ a := fun y => by
        subst y
        exact R.dist i j d e b (Ne.symm ne) hi z ha h2
      refine ⟨b, h2, n2, g2, ?_⟩
      cases cb with
      | lst hh r => exact .lst ((upd_ne hb).trans hh) (RpL.anti sb _ _ (RpL.kp w.nt kk _ _ r))
      | dct hh r t9 e9 k9 => exact .dct ((upd_ne hb).trans hh) (RpL.anti sb _ _ (RpL.kp w.nt kk _ _ r)) (RpL.anti sb _ _ (RpL.kp w.nt kk _ _ t9)) e9 k9
      | kd hh e9 t9 => exact .kd ((upd_ne hb).trans hh) e9 (RpL.anti sb _ _ (RpL.kp w.nt kk _ _ t9))
  · have f : ∀ (j : Nat) (e : D), (ρ.set i (.own d'))[j]? = some (.own e) → ∃ e', ρ[j]? = some (.own e') := fun j e h => by
      rcases get_set h with ⟨rfl, z⟩ | ⟨ne, z⟩
      · exact ⟨d, hi⟩
      · exact ⟨e, z⟩
    obtain ⟨f1, g1⟩ := f j e1 h1
    obtain ⟨f2, g2⟩ := f k e2 h2
    exact R.dist j k f1 f2 b ne g1 g2 h3
theorem Rel.mutCell (R : Rel K as O B G σ H ρ S) {i : Nat} {a : Addr} {d d' : D} {o : HO} (hi : S[i]? = some d) (ha : as[i]? = some a) (mo : Mut (some o))
    (q : CellR K as (OO O ρ σ) (upd H a o) a d') : Rel K as O B G σ (upd H a o) ρ (S.set i d') := by
  have am := List.mem_of_getElem? ha
  have oa := R.sub a am
  have kk : Kp (OO O ρ σ) H (upd H a o) := fun b u n e => by
    rw [upd_ne (fun z => n (by rw [z]; exact .inl oa))]
    exact e
  have w := R.wf
  have nn : ∀ b, H b ≠ none → upd H a o b ≠ none := fun b h => by
    by_cases z : b = a
    · rw [z, upd_same]; exact fun y => nomatch y
    · rw [upd_ne z]; exact h
  refine ⟨R.sub, R.ob, fun b h => nn b (R.bt b h), fun b h => ?_, R.nd, fun b u h => ?_, R.gas, ⟨by simp [R.cells.len], fun j b e e1 e2 => ?_⟩, R.len, fun j e h => ?_, fun j e h => ?_, R.dist⟩
  · by_cases z : b = a
    · rw [z, upd_same]; exact mo
    · rw [upd_ne z]; exact R.mt b h
  · rw [upd_ne (fun z => R.gas b u h (by rw [z]; exact am))]; exact R.g b u h
  · rcases get_set e2 with ⟨rfl, z⟩ | ⟨ne, z⟩
    · cases z
      rw [ha] at e1
      cases e1
      exact q
    · have hb : b ≠ a := fun y => by
        subst y
        obtain ⟨l1, g1⟩ := List.getElem?_eq_some_iff.mp e1
        obtain ⟨l2, g2⟩ := List.getElem?_eq_some_iff.mp ha
        exact ne ((List.getElem_inj R.nd).mp (g1.trans g2.symm))
      cases R.cells.ix j b e e1 z with
      | lst h r => exact .lst ((upd_ne hb).trans h) (RpL.kp w.nt kk _ _ r)
      | dct h r t9 e9 k9 => exact .dct ((upd_ne hb).trans h) (RpL.kp w.nt kk _ _ r) (RpL.kp w.nt kk _ _ t9) e9 k9
      | kd h e9 t9 => exact .kd ((upd_ne hb).trans h) e9 (RpL.kp w.nt kk _ _ t9)
  · obtain ⟨v, h2, r⟩ := R.val j e h
    exact ⟨v, h2, Rp.kp w.nt kk _ _ r⟩
  · obtain ⟨b, h2, n2, g2, cb⟩ := R.own j e h
    have hb : b ≠ a := fun y => R.notas n2 (by rw [y]; exact am)
    refine ⟨b, h2, n2, g2, ?_⟩
    cases cb with
    | lst hh r => exact .lst ((upd_ne hb).trans hh) (RpL.kp w.nt kk _ _ r)
    | dct hh r t9 e9 k9 => exact .dct ((upd_ne hb).trans hh) (RpL.kp w.nt kk _ _ r) (RpL.kp w.nt kk _ _ t9) e9 k9
    | kd hh e9 t9 => exact .kd ((upd_ne hb).trans hh) e9 (RpL.kp w.nt kk _ _ t9)
theorem Rel.guard (R : Rel K as O B G σ H ρ S) (k : ∀ a u, G' a u → G a u) : Rel K as O B G' σ H ρ S :=
  ⟨R.sub, R.ob, R.bt, R.mt, R.nd, fun a u h => R.g a u (k a u h), fun a u h => R.gas a u (k a u h), R.cells, R.len, R.val, fun i d e => let ⟨a, h, n, g, c⟩ := R.own i d e; ⟨a, h, n, fun u z => g u (k a u z), c⟩, R.dist⟩
theorem Rel.guardNow (R : Rel K as O B G σ H ρ S) : Rel K as O B (fun a u => G a u ∨ (¬ OO O ρ σ a ∧ H a = some u)) σ H ρ S :=
  ⟨R.sub, R.ob, R.bt, R.mt, R.nd, fun a u h => h.elim (R.g a u) fun z => z.2, fun a u h => h.elim (R.gas a u) fun z m => z.1 (.inl (R.sub a m)), R.cells, R.len, R.val,
    fun i d e => let ⟨a, h, n, g, c⟩ := R.own i d e; ⟨a, h, n, fun u z => z.elim (g u) fun y => y.1 (.inr ⟨i, d, e, h⟩), c⟩, R.dist⟩
theorem Rel.freeze (R : Rel K as O B G σ H ρ S) {i : Nat} {d : D} (hi : ρ[i]? = some (.own d)) : Rel K as O B G σ H (ρ.set i (.val d)) S := by
  have sb : ∀ a, OO O (ρ.set i (.val d)) σ a → OO O ρ σ a := fun a h => by
    rcases h with h | ⟨j, e, h1, h2⟩
    · exact .inl h
    · rcases get_set h1 with ⟨rfl, z⟩ | ⟨ne, z⟩
      · cases z
      · exact .inr ⟨j, e, z, h2⟩
  refine ⟨R.sub, R.ob, R.bt, R.mt, R.nd, R.g, R.gas, R.cells.anti sb, by simp [R.len], fun j e h => ?_, fun j e h => ?_, fun j k e1 e2 b ne h1 h2 h3 => ?_⟩
  · rcases get_set h with ⟨rfl, z⟩ | ⟨ne, z⟩
    · cases z
      obtain ⟨a, h2, n, g, c⟩ := R.own j d hi
      refine ⟨.ref a, h2, c.val (fun o => ?_) sb⟩
      rcases o with o | ⟨k, e, h3, h4⟩
      · exact n (R.ob a o)
      · rcases get_set h3 with ⟨rfl, z⟩ | ⟨ne, z⟩
        · cases z
        · exact R.dist j k d e a (Ne.symm ne) hi z h2 h4
    · obtain ⟨v, h2, r⟩ := R.val j e z
      exact ⟨v, h2, Rp.anti sb _ _ r⟩
  · rcases get_set h with ⟨rfl, z⟩ | ⟨ne, z⟩
    · cases z
    · obtain ⟨a, h2, n, g, c⟩ := R.own j e z
      exact ⟨a, h2, n, g, c.anti sb⟩
  · rcases get_set h1 with ⟨rfl, q⟩ | ⟨ne1, q1⟩
    · cases q
    · rcases get_set h2 with ⟨rfl, q⟩ | ⟨ne2, q2⟩
      · cases q
      · exact R.dist j k e1 e2 b ne q1 q2 h3
end
end DL
namespace DL
open PySem PySem.Spec PyProof.Rows L2
def ResR (fr : Bool) (K : KW) (as : List Addr) (O B : Addr → Prop) (H : Hp) (S : List D) (v : V) (d : D) : Prop :=
  Cells K as O H S ∧ Rp K as O H v d ∧ (fr = true → ∃ a, v = .ref a ∧ ¬ B a ∧ CellR K as (ad O a) H a d ∧ Cells K as (ad O a) H S)
def OutOk (fr : Bool) (K : KW) (as : List Addr) (O B : Addr → Prop) (G : Addr → HO → Prop) (D : Ends) : Out → Prop
  | .nx ρ S => ∀ σ H, Rel K as O B G σ H ρ S → D.nx σ H
  | .bk ρ S => ∀ σ H, Rel K as O B G σ H ρ S → D.bk σ H
  | .ct ρ S => ∀ σ H, Rel K as O B G σ H ρ S → D.ct σ H
  | .rt d S => ∀ v H, (∀ a u, G a u → H a = some u) → ResR fr K as O B H S v d → D.rt v H
def tOfS (fr : Bool) (K : KW) (f : Sv) : TS := fun D σ H => ∃ as O B G ρ S o, Rel K as O B G σ H ρ S ∧ f ρ S = some o ∧ OutOk fr K as O B G D o
section
variable {X : Cx} {pos : Pos} {e a b c : Expr} {es : List Expr} {f fa fb : Ev} {fs : Ea} {fc fd : Et} {fr : Bool} {g1 g2 : Sv} {st : Stmt} {sts : List Stmt}
def sNil : Sv := fun ρ S => some (.nx ρ S)
def sSeq (g1 g2 : Sv) : Sv := fun ρ S => (g1 ρ S).bind fun o => match o with
  | .nx ρ' S' => g2 ρ' S'
  | o => some o
theorem mss_nil : PSs X [] (tOfS fr (kw X) sNil) := pss_nil.weak fun D σ H q => by
  obtain ⟨as, O, B, G, ρ, S, o, R, hf, k⟩ := q
  cases hf
  exact k σ H R
theorem mss_cons (h1 : PS X st (tOfS fr (kw X) g1)) (h2 : PSs X sts (tOfS fr (kw X) g2)) : PSs X (st :: sts) (tOfS fr (kw X) (sSeq g1 g2)) := (pss_cons h1 h2).weak fun D σ H q => by
  obtain ⟨as, O, B, G, ρ, S, o, R, hf, k⟩ := q
  unfold sSeq at hf
  obtain ⟨o1, h1, hf⟩ := Option.bind_eq_some_iff.mp hf
  refine ⟨as, O, B, G, ρ, S, o1, R, h1, ?_⟩
  cases o1 with
  | nx ρ' S' => exact fun σ' H' R' => ⟨as, O, B, G, ρ', S', o, R', hf, k⟩
  | rt d S' => cases hf; exact k
  | bk ρ' S' => cases hf; exact k
  | ct ρ' S' => cases hf; exact k
theorem mss_one (h1 : PS X st (tOfS fr (kw X) g1)) : PSs X [st] (tOfS fr (kw X) g1) := pss_one h1
def sIf (c : Et) (g1 g2 : Sv) : Sv := fun ρ S => (c ρ S).bind fun p => if p.1 = true then g1 ρ p.2 else g2 ρ p.2
theorem ms_if {x y : List Stmt} (hc : PT X c (tOfT (kw X) fc)) (hx : PSs X x (tOfS fr (kw X) g1)) (hy : PSs X y (tOfS fr (kw X) g2)) : PS X (.If c x y pos) (tOfS fr (kw X) (sIf fc g1 g2)) := (ps_if hc hx hy).weak fun D σ H q => by
  obtain ⟨as, O, B, G, ρ, S, o, R, hf, k⟩ := q
  unfold sIf at hf
  obtain ⟨⟨d1, S1⟩, h1, hf⟩ := Option.bind_eq_some_iff.mp hf
  refine ⟨as, _, ρ, S, d1, S1, R.e, h1, fun H1 s1 c1 => ?_⟩
  have R1 := R.step s1 c1
  cases d1 with
  | true => exact ⟨as, O, B, G, ρ, S1, o, R1, hf, k⟩
  | false => exact ⟨as, O, B, G, ρ, S1, o, R1, hf, k⟩
def sPass : Sv := fun ρ S => some (.nx ρ S)
def sBrk : Sv := fun ρ S => some (.bk ρ S)
def sCnt : Sv := fun ρ S => some (.ct ρ S)
theorem ms_pass : PS X (.Pass pos) (tOfS fr (kw X) sPass) := ps_pass.weak fun D σ H q => by
  obtain ⟨as, O, B, G, ρ, S, o, R, hf, k⟩ := q
  cases hf
  exact k σ H R
theorem ms_brk : PS X (.Break pos) (tOfS fr (kw X) sBrk) := ps_break.weak fun D σ H q => by
  obtain ⟨as, O, B, G, ρ, S, o, R, hf, k⟩ := q
  cases hf
  exact k σ H R
theorem ms_cnt : PS X (.Continue pos) (tOfS fr (kw X) sCnt) := ps_continue.weak fun D σ H q => by
  obtain ⟨as, O, B, G, ρ, S, o, R, hf, k⟩ := q
  cases hf
  exact k σ H R
def sRet (f : Ev) : Sv := fun ρ S => (f ρ S).bind fun p => some (.rt p.1 p.2)
def sRetN : Sv := fun _ S => some (.rt .non S)
def sRetO (i : Nat) : Sv := fun ρ S => match ρ[i]? with
  | some (.own d) => some (.rt d S)
  | _ => none
theorem oo_o {O : Addr → Prop} {ρ : List Slot} {σ : L2.St} : ∀ a, O a → OO O ρ σ a := fun _ h => .inl h
theorem ms_ret (h : PE X e (tOf (kw X) f)) : PS X (.Return (some e) pos) (tOfS false (kw X) (sRet f)) := (ps_ret h).weak fun D σ H q => by
  obtain ⟨as, O, B, G, ρ, S, o, R, hf, k⟩ := q
  unfold sRet at hf
  obtain ⟨⟨d1, S1⟩, h1, hf⟩ := Option.bind_eq_some_iff.mp hf
  cases hf
  refine ⟨as, _, ρ, S, d1, S1, R.e, h1, fun v H1 s1 c1 r1 => ?_⟩
  exact k v H1 (R.step s1 c1).g ⟨c1.anti oo_o, Rp.anti oo_o _ _ r1, fun z => (nomatch z)⟩
theorem ms_retN : PS X (.Return none pos) (tOfS false (kw X) sRetN) := ps_retN.weak fun D σ H q => by
  obtain ⟨as, O, B, G, ρ, S, o, R, hf, k⟩ := q
  cases hf
  exact k _ H R.g ⟨R.cells.anti oo_o, .non, fun z => (nomatch z)⟩
theorem ad_mono {O O' : Addr → Prop} {p : Addr} (s : ∀ a, O' a → O a) : ∀ a, ad O' p a → ad O p a := fun a h => h.elim (fun z => .inl (s a z)) .inr
theorem ms_retF (h : PE X e (tOfF (kw X) f)) : PS X (.Return (some e) pos) (tOfS fr (kw X) (sRet f)) := (ps_ret h).weak fun D σ H q => by
  obtain ⟨as, O, B, G, ρ, S, o, R, hf, k⟩ := q
  unfold sRet at hf
  obtain ⟨⟨d1, S1⟩, h1, hf⟩ := Option.bind_eq_some_iff.mp hf
  cases hf
  refine ⟨as, _, ρ, S, d1, S1, R.e, h1, fun p H1 n s1 c1 r1 => ?_⟩
  have nb : ¬ B p := fun z => R.bt p z n
  refine k _ H1 (R.step s1 (c1.anti ad_sub)).g ⟨(c1.anti ad_sub).anti oo_o, r1.val (fun o => nb (R.ob p o)) (fun a o => .inl (oo_o a o)), fun _ => ⟨p, rfl, nb, r1.anti (ad_mono oo_o), c1.anti (ad_mono oo_o)⟩⟩
theorem ms_retO (i : Nat) {x : Str} {p : Pos} (h : PE X (.Name x p) (tVar i)) : PS X (.Return (some (.Name x p)) pos) (tOfS fr (kw X) (sRetO i)) := (ps_ret h).weak fun D σ H q => by
  obtain ⟨as, O, B, G, ρ, S, o, R, hf, k⟩ := q
  unfold sRetO at hf
  split at hf
  · rename_i d hd
    cases hf
    obtain ⟨p, h1, nb, ng, c⟩ := R.own i d hd
    have sb : ∀ b, ad O p b → OO O ρ σ b := fun b h => h.elim .inl fun z => .inr (z ▸ ⟨i, d, hd, h1⟩)
    exact ⟨.ref p, h1, k _ H R.g ⟨R.cells.anti oo_o, c.val (fun o => nb (R.ob p o)) oo_o, fun _ => ⟨p, rfl, nb, c.anti sb, R.cells.anti sb⟩⟩⟩
  · cases hf
inductive Pat where
  | nm (i : Nat) | tup (ps : List Pat)
mutual
def binds : Pat → D → Option (List (Nat × D))
  | .nm i, d => some [(i, d)]
  | .tup ps, .tup ds => bindsL ps ds
  | .tup _, _ => none
def bindsL : List Pat → List D → Option (List (Nat × D))
  | [], [] => some []
  | p :: ps, d :: ds => (binds p d).bind fun a => (bindsL ps ds).bind fun b => some (a ++ b)
  | _, _ => none
end
def putV (σ : L2.St) : List (Nat × V) → L2.St
  | [] => σ
  | (i, v) :: r => putV (σ.set i (some v)) r
def putD (ρ : List Slot) : List (Nat × D) → List Slot
  | [] => ρ
  | (i, d) :: r => putD (ρ.set i (.val d)) r
inductive RpP (K : KW) (as : List Addr) (O : Addr → Prop) (H : Hp) : List (Nat × V) → List (Nat × D) → Prop
  | nil : RpP K as O H [] []
  | cons {i : Nat} {v : V} {d : D} {vs : List (Nat × V)} {ds : List (Nat × D)} : Rp K as O H v d → RpP K as O H vs ds → RpP K as O H ((i, v) :: vs) ((i, d) :: ds)
theorem RpP.app {K : KW} {as : List Addr} {O : Addr → Prop} {H : Hp} : ∀ {a b : List (Nat × V)} {c d : List (Nat × D)}, RpP K as O H a c → RpP K as O H b d → RpP K as O H (a ++ b) (c ++ d)
  | _, _, _, _, .nil, h => h
  | _, _, _, _, .cons r t, h => .cons r (RpP.app t h)
theorem putV_app (σ : L2.St) : ∀ (a b : List (Nat × V)), putV (putV σ a) b = putV σ (a ++ b)
  | [], _ => rfl
  | (i, v) :: r, b => putV_app (σ.set i (some v)) r b
def gOf (K : KW) (p : Pat) : TG := fun v σ H Q => ∃ as O d l, Rp K as O H v d ∧ binds p d = some l ∧ ∀ vl, RpP K as O H vl l → Q (putV σ vl) H
def gsOf (K : KW) (ps : List Pat) : TGs := fun vs σ H Q => ∃ as O ds l, RpL K as O H vs ds ∧ bindsL ps ds = some l ∧ ∀ vl, RpP K as O H vl l → Q (putV σ vl) H
theorem _root_.L2.PG.weak {X : Cx} {e : Expr} {t t' : TG} (h : PG X e t) (k : ∀ v σ H Q, t' v σ H Q → t v σ H Q) : PG X e t' := ⟨fun pins s σ H v u Q I r hw => h.run pins s σ H v u Q I r (k _ _ _ _ hw)⟩
theorem _root_.L2.PGs.weak {X : Cx} {e : List Expr} {t t' : TGs} (h : PGs X e t) (k : ∀ v σ H Q, t' v σ H Q → t v σ H Q) : PGs X e t' := ⟨fun pins s σ H v u Q I r hw => h.run pins s σ H v u Q I r (k _ _ _ _ hw)⟩
theorem mg_name {i : Nat} {x : Str} (hN : X.N.Nodup) (hi : X.N[i]? = some x) (hx : Loc X.env.scope x) (hf : X.fn x = true ∨ X.env.scope.names.lookup x = some .local := by first | exact .inl rfl | exact .inr rfl | assumption) : PG X (.Name x pos) (gOf (kw X) (.nm i)) :=
  (pg_name hN hi hx hf).weak fun v σ H Q q => by
    obtain ⟨as, O, d, l, r, hb, k⟩ := q
    unfold binds at hb
    cases hb
    exact k [(i, v)] (.cons r .nil)
theorem mgs_nil : PGs X [] (gsOf (kw X) []) := pgs_nil.weak fun v σ H Q q => by
  obtain ⟨as, O, d, l, r, hb, k⟩ := q
  cases r with
  | nil => unfold bindsL at hb; cases hb; exact ⟨rfl, k [] .nil⟩
  | cons r t => unfold bindsL at hb; cases hb
theorem mgs_cons {p : Pat} {ps : List Pat} (h1 : PG X e (gOf (kw X) p)) (h2 : PGs X es (gsOf (kw X) ps)) (hs : (assignEach (e :: es) X.env).map (·.2) = assign e X.env :: (assignEach es X.env).map (·.2) := by rfl) : PGs X (e :: es) (gsOf (kw X) (p :: ps)) :=
  (pgs_cons h1 h2 hs).weak fun v σ H Q q => by
    obtain ⟨as, O, ds, l, r, hb, k⟩ := q
    cases r with
    | nil => unfold bindsL at hb; cases hb
    | cons r t =>
      unfold bindsL at hb
      obtain ⟨a1, h1, hb⟩ := Option.bind_eq_some_iff.mp hb
      obtain ⟨a2, h2, hb⟩ := Option.bind_eq_some_iff.mp hb
      cases hb
      exact ⟨_, _, rfl, as, O, _, a1, r, h1, fun vl r1 => ⟨as, O, _, a2, t, h2, fun vl2 r2 => by rw [putV_app]; exact k _ (r1.app r2)⟩⟩
theorem bindsL_len : ∀ {ps : List Pat} {ds : List D} {l : List (Nat × D)}, bindsL ps ds = some l → ds.length = ps.length
  | [], [], _, _ => rfl
  | [], _ :: _, _, h => by unfold bindsL at h; cases h
  | _ :: _, [], _, h => by unfold bindsL at h; cases h
  | p :: ps, d :: ds, _, h => by
    unfold bindsL at h
    obtain ⟨a1, h1, h⟩ := Option.bind_eq_some_iff.mp h
    obtain ⟨a2, h2, h⟩ := Option.bind_eq_some_iff.mp h
    exact congrArg (· + 1) (bindsL_len h2)
theorem mg_tup {k : Nat} {ps : List Pat} (hc : X.calm = true) (h : PGs X es (gsOf (kw X) ps)) (hn : (assignEach es X.env).length = ps.length := by rfl) (hst : (assignEach es X.env).findIdx? (·.1) = none := by rfl) : PG X (.Tuple es k pos) (gOf (kw X) (.tup ps)) :=
  (pg_tup hc h hn hst).weak fun v σ H Q q => by
    obtain ⟨as, O, d, l, r, hb, k⟩ := q
    cases r with
    | tup h t =>
      unfold binds at hb
      exact ⟨_, _, rfl, h, (Rp.length t).trans (bindsL_len hb), as, O, _, l, t, hb, k⟩
    | _ => unfold binds at hb; cases hb
section
variable {K : KW} {as : List Addr} {O B : Addr → Prop} {G : Addr → HO → Prop} {H : Hp} {S : List D}
theorem RpP.anti {O' : Addr → Prop} (s : ∀ a, O' a → O a) : ∀ {a : List (Nat × V)} {b : List (Nat × D)}, RpP K as O H a b → RpP K as O' H a b
  | _, _, .nil => .nil
  | _, _, .cons r t => .cons (Rp.anti s _ _ r) (RpP.anti s t)
theorem Rel.put : ∀ {vl : List (Nat × V)} {l : List (Nat × D)} {σ : L2.St} {ρ : List Slot}, Rel K as O B G σ H ρ S → RpP K as (OO O ρ σ) H vl l → Rel K as O B G (putV σ vl) H (putD ρ l) S
  | _, _, _, _, R, .nil => R
  | _, _, σ, ρ, R, .cons (i := i) (v := v) (d := d) r t => Rel.put (σ := σ.set i (some v)) (ρ := ρ.set i (.val d)) (R.set i r) (t.anti (oo_set (y := .val d) fun _ z => nomatch z))
theorem RelE.set {σ : L2.St} {ρ : List Slot} (R : RelE K as O σ H ρ S) (i : Nat) {v : V} {d : D} (r : Rp K as O H v d) : RelE K as O (σ.set i (some v)) H (ρ.set i (.val d)) S := by
  refine ⟨R.wf, R.cells, by simp [R.len], fun j e h => ?_, fun j e h => ?_⟩
  · rcases get_set h with ⟨rfl, q⟩ | ⟨ne, q⟩
    · cases q
      have hl : j < σ.length := by
        rw [R.len]
        obtain ⟨z, _⟩ := List.getElem?_eq_some_iff.mp h
        simpa using z
      exact ⟨v, List.getElem?_set_self hl, r⟩
    · obtain ⟨w, h2, r2⟩ := R.val j e q
      exact ⟨w, (List.getElem?_set_ne (Ne.symm ne)).trans h2, r2⟩
  · rcases get_set h with ⟨rfl, q⟩ | ⟨ne, q⟩
    · cases q
    · obtain ⟨w, h2, r2⟩ := R.own j e q
      exact ⟨w, (List.getElem?_set_ne (Ne.symm ne)).trans h2, r2⟩
theorem RelE.put : ∀ {vl : List (Nat × V)} {l : List (Nat × D)} {σ : L2.St} {ρ : List Slot}, RelE K as O σ H ρ S → RpP K as O H vl l → RelE K as O (putV σ vl) H (putD ρ l) S
  | _, _, _, _, R, .nil => R
  | _, _, σ, ρ, R, .cons (i := i) (v := v) (d := d) r t => RelE.put (σ := σ.set i (some v)) (ρ := ρ.set i (.val d)) (R.set i r) t
end
def sAsg (p : Pat) (f : Ev) : Sv := fun ρ S => (f ρ S).bind fun q => (binds p q.1).bind fun l => some (.nx (putD ρ l) q.2)
def sSet (i : Nat) (f : Ev) : Sv := fun ρ S => (f ρ S).bind fun q => some (.nx (ρ.set i (.val q.1)) q.2)
def sSetO (i : Nat) (f : Ev) : Sv := fun ρ S => (f ρ S).bind fun q => if i < ρ.length then some (.nx (ρ.set i (.own q.1)) q.2) else none
theorem asg_weak {p : Pat} {D : Ends} {σ : L2.St} {H : Hp} (q : tOfS fr (kw X) (sAsg p f) D σ H) : tAsg (tOf (kw X) f) (gOf (kw X) p) D σ H := by
  obtain ⟨as, O, B, G, ρ, S, o, R, hf, k⟩ := q
  unfold sAsg at hf
  obtain ⟨⟨d1, S1⟩, h1, hf⟩ := Option.bind_eq_some_iff.mp hf
  obtain ⟨l, h2, hf⟩ := Option.bind_eq_some_iff.mp hf
  cases hf
  refine ⟨as, _, ρ, S, d1, S1, R.e, h1, fun v H1 s1 c1 r1 => ?_⟩
  have R1 := R.step s1 c1
  exact ⟨as, _, d1, l, r1, h2, fun vl r2 => k _ _ (R1.put r2)⟩
theorem ms_asg {tg : Expr} {p : Pat} (he : PE X e (tOf (kw X) f)) (hg : PG X tg (gOf (kw X) p)) (hs : swapsWithSole [tg] e pos.line X.env = pure false := by rfl) (hw : swappedStores [tg] e X.env = pure none := by rfl)
    (h1 : (assignEach [tg] X.env).map (·.2) = [assign tg X.env] := by rfl) : PS X (.Assign [tg] e pos) (tOfS fr (kw X) (sAsg p f)) := (ps_asg he hg hs hw h1).weak fun D σ H => asg_weak
theorem set_weak {i : Nat} {D : Ends} {σ : L2.St} {H : Hp} (q : tOfS fr (kw X) (sSet i f) D σ H) : tAsg (tOf (kw X) f) (gName i) D σ H := by
  obtain ⟨as, O, B, G, ρ, S, o, R, hf, k⟩ := q
  unfold sSet at hf
  obtain ⟨⟨d1, S1⟩, h1, hf⟩ := Option.bind_eq_some_iff.mp hf
  cases hf
  exact ⟨as, _, ρ, S, d1, S1, R.e, h1, fun v H1 s1 c1 r1 => k _ _ ((R.step s1 c1).set i r1)⟩
theorem setO_weak {i : Nat} {D : Ends} {σ : L2.St} {H : Hp} (q : tOfS fr (kw X) (sSetO i f) D σ H) : tAsg (tOfF (kw X) f) (gName i) D σ H := by
  obtain ⟨as, O, B, G, ρ, S, o, R, hf, k⟩ := q
  unfold sSetO at hf
  obtain ⟨⟨d1, S1⟩, h1, hf⟩ := Option.bind_eq_some_iff.mp hf
  split at hf
  · rename_i hi
    cases hf
    exact ⟨as, _, ρ, S, d1, S1, R.e, h1, fun p H1 n s1 c1 r1 => k _ _ (R.setOwn i hi n s1 c1 r1)⟩
  · cases hf
section
variable {i : Nat} {x : Str} {pos' : Pos}
theorem ms_set (hN : X.N.Nodup) (hi : X.N[i]? = some x) (hx : Loc X.env.scope x) (he : PE X e (tOf (kw X) f)) (hs : swapsWith e (some (.Name x pos')) pos.line X.env = pure false := by rfl) (hf : X.fn x = true ∨ X.env.scope.names.lookup x = some .local := by first | exact .inl rfl | exact .inr rfl | assumption) :
    PS X (.Assign [.Name x pos'] e pos) (tOfS fr (kw X) (sSet i f)) := (ps_set hN hi hx he hs hf).weak fun D σ H => set_weak
theorem ms_setO (hN : X.N.Nodup) (hi : X.N[i]? = some x) (hx : Loc X.env.scope x) (he : PE X e (tOfF (kw X) f)) (hs : swapsWith e (some (.Name x pos')) pos.line X.env = pure false := by rfl) (hf : X.fn x = true ∨ X.env.scope.names.lookup x = some .local := by first | exact .inl rfl | exact .inr rfl | assumption) :
    PS X (.Assign [.Name x pos'] e pos) (tOfS fr (kw X) (sSetO i f)) := (ps_set hN hi hx he hs hf).weak fun D σ H => setO_weak
end
def sPar (i j : Nat) (fa fb : Ev) : Sv := fun ρ S => (fa ρ S).bind fun p => (fb ρ p.2).bind fun q => some (.nx ((ρ.set i (.val p.1)).set j (.val q.1)) q.2)
theorem ms_par {i j : Nat} {x y : Str} {px py pt : Pos} {kt k2 pt2} (hc : X.calm = true) (hN : X.N.Nodup) (hi : X.N[i]? = some x) (hj : X.N[j]? = some y) (hij : i ≠ j)
    (hx : X.env.scope.names.lookup x = some .local) (hy : X.env.scope.names.lookup y = some .local) (ha : PE X a (tOf (kw X) fa)) (hb : PE X b (tOf (kw X) fb))
    (hw : swappedStores [.Tuple [.Name x px, .Name y py] kt pt] (.Tuple [a, b] k2 pt2) X.env = pure (some [x, y]))
    (s1 : starEach [a, b] X.env = (false, eval a X.env) :: starEach [b] X.env := by rfl) (s2 : starEach [b] X.env = (false, eval b X.env) :: starEach [] X.env := by rfl)
    (hs : swapsWithSole [.Tuple [.Name x px, .Name y py] kt pt] (.Tuple [a, b] k2 pt2) pos.line X.env = pure false := by rfl) :
    PS X (.Assign [.Tuple [.Name x px, .Name y py] kt pt] (.Tuple [a, b] k2 pt2) pos) (tOfS fr (kw X) (sPar i j fa fb)) :=
  (ps_par hc hN hi hj hij hx hy (ma_cons ha (ma_cons hb ma_nil s2) s1) hw hs).weak fun D σ H q => by
    obtain ⟨as, O, B, G, ρ, S, o, R, hf, k⟩ := q
    unfold sPar at hf
    obtain ⟨⟨d1, S1⟩, h1, hf⟩ := Option.bind_eq_some_iff.mp hf
    obtain ⟨⟨d2, S2⟩, h2, hf⟩ := Option.bind_eq_some_iff.mp hf
    cases hf
    refine ⟨as, _, ρ, S, [d1, d2], S2, R.e, ?_, fun vs H1 s1 c1 r1 => ?_⟩
    · unfold aC
      rw [h1]
      show ((fb ρ S1).bind fun p => ((aN ρ p.2).bind fun q => some (p.1 :: q.1, q.2))).bind _ = _
      rw [h2]
      rfl
    · cases r1 with
      | cons r1 t1 =>
        cases t1 with
        | cons r2 t2 =>
          cases t2 with
          | nil =>
            refine ⟨_, _, rfl, ?_⟩
            have R1 := (R.step s1 c1).set i r1
            exact k _ _ (R1.set j (Rp.anti (oo_set (y := .val _) fun _ z => nomatch z) _ _ r2))
end
end DL
namespace DL
open PySem PySem.Spec PyProof.Rows L2
def Op (O : Addr → Prop) (H : Hp) : Addr → Prop := fun a => O a ∨ H a = none
def Walk (K : KW) (as : List Addr) (O : Addr → Prop) (J : It) (H1 : Hp) (ds : List D) : Prop :=
  ∀ (i : Nat) (H2 : Hp), Kp O H1 H2 → (i = ds.length → J.stop i H2) ∧ ∀ d, ds[i]? = some d → J.go i H2 ∧ ∀ x H3, J.yld i H2 x H3 → Same H2 H3 ∧ Rp K as (Op O H1) H3 x d
def tOfI (K : KW) (it : Ea) : TI := fun σ H R => ∃ as O ρ S ds S', RelE K as O σ H ρ S ∧ it ρ S = some (ds, S') ∧
  ∀ J H', Stp as H H' → Cells K as O H' S' → Walk K as O J H' ds → R J H'
theorem _root_.L2.PI.weak {X : Cx} {tg e : Expr} {t t' : TI} (h : PI X tg e t) (k : ∀ σ H R, t' σ H R → t σ H R) : PI X tg e t' := ⟨fun pins s σ H R I hw => h.run pins s σ H R I (k _ _ _ hw)⟩
section
variable {K : KW} {as : List Addr} {O O' : Addr → Prop} {H H' H1 H2 : Hp} {S S' : List D}
mutual
theorem Rp.op' : ∀ (v : V) (d : D), Rp K as O H v d → Rp K as (Op O H) H v d
  | _, _, .non => .non
  | _, _, .bl b => .bl b
  | _, _, .int i => .int i
  | _, _, .str x => .str x
  | _, _, .obj h => .obj h
  | _, _, .tup h r => .tup h (RpL.op' _ _ r)
  | _, _, .lst n h r => .lst (fun o => by
      rcases o with o | o
      · exact n o
      · rw [o] at h; cases h) h (RpL.op' _ _ r)
  | _, _, .dct n h r t e k => .dct (fun o => by
      rcases o with o | o
      · exact n o
      · rw [o] at h; cases h) h (RpL.op' _ _ r) (RpL.op' _ _ t) e k
  | _, _, .kd n h e t => .kd (fun o => by
      rcases o with o | o
      · exact n o
      · rw [o] at h; cases h) h e (RpL.op' _ _ t)
  | _, _, .scr h => .scr (h.elim (fun ⟨n, h⟩ => .inl ⟨fun o => by
      rcases o with o | o
      · exact n o
      · rcases h with h | ⟨_, h⟩ <;> (rw [o] at h; cases h), h⟩) .inr)
theorem RpL.op' : ∀ (vs : List V) (ds : List D), RpL K as O H vs ds → RpL K as (Op O H) H vs ds
  | _, _, .nil => .nil
  | _, _, .cons r t => .cons (Rp.op' _ _ r) (RpL.op' _ _ t)
end
theorem Rp.op {v : V} {d : D} (r : Rp K as O H v d) : Rp K as (Op O H) H v d := Rp.op' v d r
theorem RpL.op {vs : List V} {ds : List D} (r : RpL K as O H vs ds) : RpL K as (Op O H) H vs ds := RpL.op' vs ds r
theorem RpL.get : ∀ {vs : List V} {ds : List D} {i : Nat} {d : D}, RpL K as O H vs ds → ds[i]? = some d → ∃ v, vs[i]? = some v ∧ Rp K as O H v d
  | _, _, 0, _, .cons r t, h => by cases h; exact ⟨_, rfl, r⟩
  | _, _, i + 1, _, .cons r t, h => RpL.get (i := i) t h
theorem RpL.getV : ∀ {vs : List V} {ds : List D} {i : Nat} {v : V}, RpL K as O H vs ds → vs[i]? = some v → ∃ d, ds[i]? = some d ∧ Rp K as O H v d
  | _, _, 0, _, .cons r t, h => by cases h; exact ⟨_, rfl, r⟩
  | _, _, i + 1, _, .cons r t, h => RpL.getV (i := i) t h
theorem op_nt (w : Wf as O H) : ∀ a, Op O H a → Nt (H a) := fun a o => o.elim (w.nt a) fun z => z ▸ nt_none
theorem op_kp (k : Kp O H H') : Kp (Op O H) H H' := fun a u n e => k a u (fun o => n (.inl o)) e
theorem RpL.later (w : Wf as O H) (k : Kp O H H') {vs : List V} {ds : List D} (r : RpL K as O H vs ds) : RpL K as (Op O H) H' vs ds := RpL.kp (op_nt w) (op_kp k) _ _ r.op
end
def forL (p : Pat) (fb : Sv) : List D → List Slot → List D → Option Out
  | [], ρ, S => some (.nx ρ S)
  | x :: xs, ρ, S => (binds p x).bind fun l => (fb (putD ρ l) S).bind fun o => match o with
    | .nx ρ' S' => forL p fb xs ρ' S'
    | .ct ρ' S' => forL p fb xs ρ' S'
    | .bk ρ' S' => some (.nx ρ' S')
    | .rt d S' => some (.rt d S')
def sFor (p : Pat) (it : Ea) (fb : Sv) : Sv := fun ρ S => (it ρ S).bind fun q => forL p fb q.1 ρ q.2
section
variable {X : Cx} {pos : Pos} {e a b c : Expr} {es : List Expr} {f fa fb : Ev} {fs : Ea} {fc fd : Et} {fr : Bool} {g1 g2 : Sv} {st : Stmt} {sts : List Stmt} {it : Ea} {p : Pat}
theorem Rel.rp_op {as : List Addr} {O B : Addr → Prop} {G : Addr → HO → Prop} {σ σ' : L2.St} {H1 H : Hp} {ρ ρ' : List Slot} {S : List D} {K : KW}
    (R : Rel K as O B (fun a u => G a u ∨ (¬ OO O ρ σ a ∧ H1 a = some u)) σ' H ρ' S) : ∀ a, OO O ρ' σ' a → Op (OO O ρ σ) H1 a := fun a o => by
  rcases o with o | o
  · exact .inl (.inl o)
  · obtain ⟨_, ng, _⟩ := R.ow_own o
    by_cases h : OO O ρ σ a
    · exact .inl h
    · refine .inr ?_
      cases q : H1 a with
      | none => rfl
      | some u => exact absurd (.inr ⟨h, q⟩) (ng u)
theorem ms_for {tg iter : Expr} {body : List Stmt} (hp : PassesOwn (model X.prog X.w) X.A X.env X.xe) (hc : X.calm = true) (hi : PI X tg iter (tOfI (kw X) it)) (hg : PG X tg (gOf (kw X) p)) (hb : PSs X body (tOfS fr (kw X) g1))
    (hs : ∀ x, foldedSetIterable iter X.env x = pure x := by intro _; rfl) : PS X (.For tg iter body [] pos) (tOfS fr (kw X) (sFor p it g1)) := (ps_for hp hc hi hg hb hs).weak fun D σ0 H0 q => by
  obtain ⟨as, O, B, G, ρ0, S0, o, R0, hf, k⟩ := q
  unfold sFor at hf
  obtain ⟨⟨ds, S1⟩, h1, hf⟩ := Option.bind_eq_some_iff.mp hf
  refine ⟨as, _, ρ0, S0, ds, S1, R0.e, h1, fun J H1 s1 c1 wk => ?_⟩
  have R1 := (R0.step s1 c1)
  have w1 := R1.wf
  refine ⟨fun i m σ H => m = ds.length - i ∧ i ≤ ds.length ∧ ∃ ρ S, Rel (kw X) as O B (fun a u => G a u ∨ (¬ OO O ρ0 σ0 a ∧ H1 a = some u)) σ H ρ S ∧ forL p g1 (ds.drop i) ρ S = some o, ⟨ds.length, rfl, Nat.zero_le _, ρ0, S1, R1.guardNow, hf⟩, ?_⟩
  rintro i m σ H ⟨rfl, hi, ρ, S, R, hl⟩
  have kp : Kp (OO O ρ0 σ0) H1 H := fun a u n e => R.g a u (.inr ⟨n, e⟩)
  obtain ⟨wstop, wgo⟩ := wk i H kp
  by_cases hlt : i < ds.length
  · rw [List.drop_eq_getElem_cons hlt] at hl
    unfold forL at hl
    obtain ⟨l, hb, hl⟩ := Option.bind_eq_some_iff.mp hl
    obtain ⟨o1, hb2, hl⟩ := Option.bind_eq_some_iff.mp hl
    obtain ⟨go, yld⟩ := wgo ds[i] (List.getElem?_eq_getElem hlt)
    refine .inr ⟨go, fun σ' H' => ∃ ρ S, Rel (kw X) as O B (fun a u => G a u ∨ (¬ OO O ρ0 σ0 a ∧ H1 a = some u)) σ' H' ρ S ∧ forL p g1 (ds.drop (i + 1)) ρ S = some o, fun σ' H' ⟨ρ', S', R', h'⟩ => ⟨ds.length - (i + 1), by omega, rfl, hlt, ρ', S', R', h'⟩, fun x H3 y => ?_⟩
    obtain ⟨sm, rx⟩ := yld x H3 y
    have R3 := R.step (Same.stp sm) (R.cells.same R.wf sm)
    refine ⟨as, _, ds[i], l, rx, hb, fun vl rv => ?_⟩
    have R4 := R3.put (rv.anti R3.rp_op)
    refine ⟨as, O, B, _, putD ρ l, S, o1, R4, hb2, ?_⟩
    cases o1 with
    | nx ρ' S' => exact fun σ' H' R' => ⟨ρ', S', R', hl⟩
    | ct ρ' S' => exact fun σ' H' R' => ⟨ρ', S', R', hl⟩
    | bk ρ' S' =>
      cases hl
      exact fun σ' H' R' => k σ' H' (R'.guard fun a u g => .inl g)
    | rt d S' =>
      cases hl
      exact fun v H' g r => k v H' (fun a u z => g a u (.inl z)) r
  · have e : i = ds.length := by omega
    subst e
    rw [List.drop_length] at hl
    unfold forL at hl
    cases hl
    exact .inl ⟨wstop rfl, k σ H (R.guard fun a u g => .inl g)⟩
def whileN (c : Et) (fb : Sv) : Nat → List Slot → List D → Option Out
  | 0, _, _ => none
  | n + 1, ρ, S => (c ρ S).bind fun q => if q.1 = true then (fb ρ q.2).bind fun o => match o with
    | .nx ρ' S' => whileN c fb n ρ' S'
    | .ct ρ' S' => whileN c fb n ρ' S'
    | .bk ρ' S' => some (.nx ρ' S')
    | .rt d S' => some (.rt d S')
    else some (.nx ρ q.2)
def sWhile (nf : List Slot → Nat) (c : Et) (fb : Sv) : Sv := fun ρ S => whileN c fb (nf ρ) ρ S
theorem ms_while {nf : List Slot → Nat} {body : List Stmt} (hp : PassesOwn (model X.prog X.w) X.A X.env X.xe) (hc : PT X c (tOfT (kw X) fc)) (hb : PSs X body (tOfS fr (kw X) g1)) : PS X (.While c body [] pos) (tOfS fr (kw X) (sWhile nf fc g1)) := (ps_while hp hc hb).weak fun D σ0 H0 q => by
  obtain ⟨as, O, B, G, ρ0, S0, o, R0, hf, k⟩ := q
  unfold sWhile at hf
  generalize nf ρ0 = n at hf
  refine ⟨fun m σ H => ∃ ρ S, Rel (kw X) as O B G σ H ρ S ∧ whileN fc g1 m ρ S = some o, ⟨n, ρ0, S0, R0, hf⟩, ?_⟩
  rintro m σ H ⟨ρ, S, R, hw⟩
  cases m with
  | zero => unfold whileN at hw; cases hw
  | succ m =>
    unfold whileN at hw
    obtain ⟨⟨b1, S1⟩, h1, hw⟩ := Option.bind_eq_some_iff.mp hw
    refine ⟨as, _, ρ, S, b1, S1, R.e, h1, fun H1 s1 c1 => ?_⟩
    have R1 := R.step s1 c1
    cases b1 with
    | true =>
      obtain ⟨o1, h2, hw⟩ := Option.bind_eq_some_iff.mp hw
      refine ⟨fun σ' H' => ∃ ρ S, Rel (kw X) as O B G σ' H' ρ S ∧ whileN fc g1 m ρ S = some o, fun σ' H' ⟨ρ', S', R', h'⟩ => ⟨m, Nat.lt_succ_self m, ρ', S', R', h'⟩, ?_⟩
      refine ⟨as, O, B, G, ρ, S1, o1, R1, h2, ?_⟩
      cases o1 with
      | nx ρ' S' => exact fun σ' H' R' => ⟨ρ', S', R', hw⟩
      | ct ρ' S' => exact fun σ' H' R' => ⟨ρ', S', R', hw⟩
      | bk ρ' S' => cases hw; exact k
      | rt d S' => cases hw; exact k
    | false =>
      cases hw
      exact k σ H1 R1
def wipeD (ρ : List Slot) : List Nat → List Slot
  | [] => ρ
  | v :: vs => (wipeD ρ vs).set v .non
def compL (p : Pat) (c : Et) (f : Ev) (ρ : List Slot) : List D → List D → Option (List D × List D)
  | [], S => some ([], S)
  | x :: xs, S => (binds p x).bind fun l => (c (putD ρ l) S).bind fun q => if q.1 = true then (f (putD ρ l) q.2).bind fun r => (compL p c f ρ xs r.2).bind fun t => some (r.1 :: t.1, t.2)
    else compL p c f ρ xs q.2
def eComp (p : Pat) (it : Ea) (c : Et) (f : Ev) (vs : List Nat) : Ev := fun ρ S => (it ρ S).bind fun q => if q.1.length ≤ 16777216 then (compL p c f (wipeD ρ vs) q.1 q.2).bind fun t => some (.lst t.1, t.2) else none
def cYes : Et := fun _ S => some (true, S)
mutual
def Pat.ixs : Pat → List Nat
  | .nm i => [i]
  | .tup ps => Pat.ixsL ps
def Pat.ixsL : List Pat → List Nat
  | [] => []
  | p :: ps => Pat.ixs p ++ Pat.ixsL ps
end
mutual
theorem binds_ix : ∀ (p : Pat) (d : D) (l : List (Nat × D)), binds p d = some l → l.map (·.1) = p.ixs
  | .nm i, d, l, h => by unfold binds at h; cases h; rfl
  | .tup ps, .tup ds, l, h => by
    unfold binds at h
    unfold Pat.ixs
    exact bindsL_ix ps ds l h
  | .tup ps, .non, l, h => by unfold binds at h; cases h
  | .tup ps, .bl _, l, h => by unfold binds at h; cases h
  | .tup ps, .int _, l, h => by unfold binds at h; cases h
  | .tup ps, .str _, l, h => by unfold binds at h; cases h
  | .tup ps, .obj _, l, h => by unfold binds at h; cases h
  | .tup ps, .lst _, l, h => by unfold binds at h; cases h
  | .tup ps, .dct _, l, h => by unfold binds at h; cases h
  | .tup ps, .kd _, l, h => by unfold binds at h; cases h
  | .tup ps, .scr _, l, h => by unfold binds at h; cases h
theorem bindsL_ix : ∀ (ps : List Pat) (ds : List D) (l : List (Nat × D)), bindsL ps ds = some l → l.map (·.1) = Pat.ixsL ps
  | [], [], l, h => by unfold bindsL at h; cases h; rfl
  | [], _ :: _, l, h => by unfold bindsL at h; cases h
  | _ :: _, [], l, h => by unfold bindsL at h; cases h
  | p :: ps, d :: ds, l, h => by
    unfold bindsL at h
    obtain ⟨a1, h1, h⟩ := Option.bind_eq_some_iff.mp h
    obtain ⟨a2, h2, h⟩ := Option.bind_eq_some_iff.mp h
    cases h
    unfold Pat.ixsL
    rw [List.map_append, binds_ix p d a1 h1, bindsL_ix ps ds a2 h2]
end
theorem RpP.ix {K : KW} {as : List Addr} {O : Addr → Prop} {H : Hp} : ∀ {vl : List (Nat × V)} {l : List (Nat × D)}, RpP K as O H vl l → vl.map (·.1) = l.map (·.1)
  | _, _, .nil => rfl
  | _, _, .cons r t => by rw [List.map_cons, List.map_cons, RpP.ix t]
theorem wipe_set {σ : L2.St} {i : Nat} {x : Option V} : ∀ {vs : List Nat}, i ∈ vs → wipe (σ.set i x) vs = wipe σ vs
  | v :: vs, h => by
    unfold wipe
    by_cases m : i ∈ vs
    · rw [wipe_set m]
    · rcases List.mem_cons.mp h with rfl | z
      · have go : ∀ (vs : List Nat), i ∉ vs → wipe (σ.set i x) vs = (wipe σ vs).set i x := by
          intro vs
          induction vs with
          | nil => exact fun _ => rfl
          | cons w ws ih =>
            intro hn
            unfold wipe
            rw [ih (fun z => hn (List.mem_cons_of_mem _ z)), List.set_comm]
            exact fun z => hn (by rw [z]; exact List.mem_cons_self)
        rw [go vs m, List.set_set]
      · exact absurd z m
theorem wipe_idem {σ : L2.St} : ∀ {vs : List Nat}, wipe (wipe σ vs) vs = wipe σ vs := fun {vs} => by
  apply List.ext_getElem?
  intro i
  have ln : (wipe (wipe σ vs) vs).length = (wipe σ vs).length := by rw [wipe_length]
  by_cases m : i ∈ vs
  · have z : ∀ (τ : L2.St), (wipe τ vs)[i]? = none ∨ (wipe τ vs)[i]? = some none := fun τ => by
      cases e : (wipe τ vs)[i]? with
      | none => exact .inl rfl
      | some x =>
        cases x with
        | none => exact .inr rfl
        | some v => exact absurd m (wipe_some e).2
    by_cases hl : i < σ.length
    · rcases z (wipe σ vs) with a | a
      · rw [List.getElem?_eq_none_iff, wipe_length, wipe_length] at a; omega
      · rcases z σ with b | b
        · rw [List.getElem?_eq_none_iff, wipe_length] at b; omega
        · rw [a, b]
    · rw [List.getElem?_eq_none_iff.mpr (by rw [wipe_length, wipe_length]; omega), List.getElem?_eq_none_iff.mpr (by rw [wipe_length]; omega)]
  · rw [wipe_out m]
theorem wipe_put {vs : List Nat} : ∀ {vl : List (Nat × V)} {σ : L2.St}, (∀ i ∈ vl.map (·.1), i ∈ vs) → wipe (putV σ vl) vs = wipe σ vs
  | [], _, _ => rfl
  | (i, v) :: r, σ, h => by
    unfold putV
    rw [wipe_put (σ := σ.set i (some v)) (fun j hj => h j (List.mem_cons_of_mem _ hj)), wipe_set (h i List.mem_cons_self)]
theorem wipeD_len (ρ : List Slot) : ∀ vs : List Nat, (wipeD ρ vs).length = ρ.length
  | [] => rfl
  | v :: vs => by unfold wipeD; rw [List.length_set, wipeD_len ρ vs]
theorem wipeD_some {ρ : List Slot} {i : Nat} {x : Slot} (hx : x ≠ .non) : ∀ {vs : List Nat}, (wipeD ρ vs)[i]? = some x → ρ[i]? = some x ∧ i ∉ vs
  | [], h => ⟨h, by simp⟩
  | v :: vs, h => by
    unfold wipeD at h
    rcases get_set h with ⟨rfl, q⟩ | ⟨ne, q⟩
    · exact absurd q.symm hx
    · obtain ⟨h1, h2⟩ := wipeD_some hx q
      exact ⟨h1, by simp only [List.mem_cons, not_or]; exact ⟨ne, h2⟩⟩
theorem RelE.wipe {K : KW} {as : List Addr} {O : Addr → Prop} {σ : L2.St} {H : Hp} {ρ : List Slot} {S : List D} (R : RelE K as O σ H ρ S) (vs : List Nat) : RelE K as O (wipe σ vs) H (wipeD ρ vs) S := by
  refine ⟨R.wf, R.cells, by rw [wipe_length, wipeD_len, R.len], fun i d h => ?_, fun i d h => ?_⟩
  · obtain ⟨h1, h2⟩ := wipeD_some (x := .val d) (fun z => nomatch z) h
    obtain ⟨v, h3, r⟩ := R.val i d h1
    exact ⟨v, (wipe_out h2).trans h3, r⟩
  · obtain ⟨h1, h2⟩ := wipeD_some (x := .own d) (fun z => nomatch z) h
    obtain ⟨v, h3, n, r⟩ := R.own i d h1
    exact ⟨v, (wipe_out h2).trans h3, n, r⟩
theorem RelE.newL {K : KW} {as : List Addr} {O : Addr → Prop} {σ : L2.St} {H : Hp} {ρ : List Slot} {S : List D} {p : Addr} (R : RelE K as O σ H ρ S) (hp : H p = none) : RelE K as (ad O p) σ (upd H p (.lst [])) ρ S := by
  have sm := same_new (o := .lst []) hp
  have kk : Kp (ad O p) H (upd H p (.lst [])) := fun a u _ e => sm a u e
  have m1 : ∀ a, ad O p a → Nt (H a) := fun a o => by
    rcases o with o | o
    · exact R.wf.nt a o
    · rw [o, hp]; exact nt_none
  have rp : ∀ {v : V} {d : D}, Rp K as O H v d → Rp K as (ad O p) (upd H p (.lst [])) v d := fun r => Rp.kp m1 kk _ _ (Rp.ad hp _ _ r)
  have cr : ∀ {a : Addr} {d : D}, CellR K as O H a d → CellR K as (ad O p) (upd H p (.lst [])) a d := fun q => by
    cases q with
    | lst h r => exact .lst (sm _ _ h) (RpL.kp m1 kk _ _ (RpL.ad hp _ _ r))
    | dct h r t9 e9 k9 => exact .dct (sm _ _ h) (RpL.kp m1 kk _ _ (RpL.ad hp _ _ r)) (RpL.kp m1 kk _ _ (RpL.ad hp _ _ t9)) e9 k9
    | kd h e9 t9 => exact .kd (sm _ _ h) e9 (RpL.kp m1 kk _ _ (RpL.ad hp _ _ t9))
  refine ⟨⟨fun a m => .inl (R.wf.sub a m), fun a o => ?_, R.wf.nd⟩, ⟨R.cells.len, fun i a d e1 e2 => cr (R.cells.ix i a d e1 e2)⟩, R.len, fun i d h => ?_, fun i d h => ?_⟩
  · rcases o with o | o
    · rw [Same.eq sm (R.wf.trk o)]; exact R.wf.mt a o
    · rw [o, upd_same]; trivial
  · obtain ⟨v, h2, r⟩ := R.val i d h
    exact ⟨v, h2, rp r⟩
  · obtain ⟨a, h2, n, c⟩ := R.own i d h
    exact ⟨a, h2, n, cr c⟩
theorem RelE.growL {K : KW} {as : List Addr} {O : Addr → Prop} {σ : L2.St} {H : Hp} {ρ : List Slot} {S : List D} {p : Addr} {o : HO} (R : RelE K as O σ H ρ S) (hp : O p) (na : p ∉ as) (no : ∀ (i : Nat) (d : D), ρ[i]? = some (.own d) → σ[i]? ≠ some (some (.ref p))) (mo : Mut (some o)) : RelE K as O σ (upd H p o) ρ S := by
  have kk : Kp O H (upd H p o) := fun a u n e => by
    rw [upd_ne (fun z => n (by rw [z]; exact hp))]
    exact e
  have rp : ∀ {v : V} {d : D}, Rp K as O H v d → Rp K as O (upd H p o) v d := fun r => Rp.kp R.wf.nt kk _ _ r
  have cr : ∀ {a : Addr} {d : D}, a ≠ p → CellR K as O H a d → CellR K as O (upd H p o) a d := fun n q => by
    cases q with
    | lst h r => exact .lst ((upd_ne n).trans h) (RpL.kp R.wf.nt kk _ _ r)
    | dct h r t9 e9 k9 => exact .dct ((upd_ne n).trans h) (RpL.kp R.wf.nt kk _ _ r) (RpL.kp R.wf.nt kk _ _ t9) e9 k9
    | kd h e9 t9 => exact .kd ((upd_ne n).trans h) e9 (RpL.kp R.wf.nt kk _ _ t9)
  refine ⟨⟨R.wf.sub, fun a z => ?_, R.wf.nd⟩, ⟨R.cells.len, fun i a d e1 e2 => cr (fun z => na (by rw [← z]; exact List.mem_of_getElem? e1)) (R.cells.ix i a d e1 e2)⟩, R.len, fun i d h => ?_, fun i d h => ?_⟩
  · by_cases e : a = p
    · rw [e, upd_same]; exact mo
    · rw [upd_ne e]; exact R.wf.mt a z
  · obtain ⟨v, h2, r⟩ := R.val i d h
    exact ⟨v, h2, rp r⟩
  · obtain ⟨a, h2, n, c⟩ := R.own i d h
    exact ⟨a, h2, n, cr (fun z => no i d h (by rw [h2, z])) c⟩
theorem RpL.append {K : KW} {as : List Addr} {O : Addr → Prop} {H : Hp} : ∀ {a b : List V} {c d : List D}, RpL K as O H a c → RpL K as O H b d → RpL K as O H (a ++ b) (c ++ d)
  | _, _, _, _, .nil, h => h
  | _, _, _, _, .cons r t, h => .cons r (RpL.append t h)
end
end DL
namespace DL
open PySem PySem.Spec PyProof.Rows L2
section
variable {X : Cx} {pos : Pos} {e a b c : Expr} {es : List Expr} {f fa fb : Ev} {fs : Ea} {fc fd : Et} {fr : Bool} {g1 g2 : Sv} {st : Stmt} {sts : List Stmt} {it : Ea} {p : Pat}
structure CompS (K : KW) (as : List Addr) (O : Addr → Prop) (σ : L2.St) (H1 : Hp) (p : Addr) (vs : List Nat) (ρ : List Slot) (H : Hp) (acc : List D) (S : List D) : Prop where
  rel : RelE K as (ad O p) (wipe σ vs) H (wipeD ρ vs) S
  lst : ∃ xs, H p = some (.lst xs) ∧ RpL K as (ad O p) H xs acc
  kept : ∀ a u, a ∉ as → a ≠ p → H1 a = some u → H a = some u
section
variable {K : KW} {as : List Addr} {O : Addr → Prop} {σ : L2.St} {H0 H1 H H' : Hp} {q : Addr} {vs : List Nat} {ρ : List Slot} {acc S S' : List D}
theorem CompS.start (R : RelE K as O σ H1 ρ S) (hp : H1 q = none) : CompS K as O σ H1 q vs ρ (upd H1 q (.lst [])) [] S :=
  ⟨(R.newL hp).wipe vs, ⟨[], upd_same, .nil⟩, fun a u _ n h => (upd_ne n).trans h⟩
theorem CompS.step (C : CompS K as O σ H1 q vs ρ H acc S) (hq : q ∉ as) (s : Stp as H H') (c : Cells K as (ad O q) H' S') : CompS K as O σ H1 q vs ρ H' acc S' := by
  obtain ⟨xs, h, r⟩ := C.lst
  exact ⟨C.rel.step s c, ⟨xs, s q _ hq h, r.stp C.rel.wf s⟩, fun a u n m e => s a u n (C.kept a u n m e)⟩
theorem own_ne (R : RelE K as O σ H1 ρ S) (hp : H1 q = none) : ∀ (i : Nat) (d : D), ρ[i]? = some (.own d) → σ[i]? ≠ some (some (.ref q)) := fun i d h e => by
  obtain ⟨a, h2, _, c⟩ := R.own i d h
  rw [e] at h2
  cases h2
  have := c.mt
  rw [hp] at this
  exact this
theorem CompS.push (C : CompS K as O σ H1 q vs ρ H acc S) (R : RelE K as O σ H1 ρ S') (hp : H1 q = none) {xs : List V} {y : V} {d : D} (h : H q = some (.lst xs)) (r : RpL K as (ad O q) H xs acc) (ry : Rp K as (ad O q) H y d) :
    CompS K as O σ H1 q vs ρ (upd H q (.lst (xs ++ [y]))) (acc ++ [d]) S := by
  have hq : q ∉ as := fun m => R.wf.trk (R.wf.sub q m) hp
  have kk : Kp (ad O q) H (upd H q (.lst (xs ++ [y]))) := fun a u n e => by
    rw [upd_ne (fun z => n (by rw [z]; exact .inr rfl))]
    exact e
  refine ⟨C.rel.growL (.inr rfl) hq (fun i d h e => ?_) trivial, ⟨_, upd_same, RpL.kp C.rel.wf.nt kk _ _ (r.append (.cons ry .nil))⟩, fun a u n m e => (upd_ne m).trans (C.kept a u n m e)⟩
  obtain ⟨h1, h2⟩ := wipeD_some (x := .own d) (fun z => nomatch z) h
  rw [wipe_out h2] at e
  exact own_ne R hp i d h1 e
end
theorem mts_nil : PTs X [] (tOfT (kw X) cYes) := ⟨fun pins s σ H Q I h => pts_nil.run pins s σ H Q I (by
  obtain ⟨as, O, ρ, S, d, S', R, hf, k⟩ := h
  cases hf
  exact k H Stp.refl R.cells)⟩
theorem mts_one (h : PT X c (tOfT (kw X) fc)) : PTs X [c] (tOfT (kw X) fc) := pts_one h
theorem comp_weak {σ : L2.St} {H0 : Hp} {Q : VK} {vs : List Nat} (hv : p.ixs.all (fun i => decide (i ∈ vs)) = true) (h : tOfF (kw X) (eComp p it fc f vs) σ H0 Q) : tLc (tOfI (kw X) it) (gOf (kw X) p) (tOfT (kw X) fc) (tOf (kw X) f) vs σ H0 Q := by
  obtain ⟨as, O, ρ, S, d, S', R, hf, k⟩ := h
  unfold eComp at hf
  obtain ⟨⟨ds, S1⟩, h1, hf⟩ := Option.bind_eq_some_iff.mp hf
  split at hf
  case isFalse => cases hf
  case isTrue hl =>
  obtain ⟨⟨ys, S2⟩, h2, hf⟩ := Option.bind_eq_some_iff.mp hf
  cases hf
  refine ⟨as, O, ρ, S, ds, S1, R, h1, fun J H1 s1 c1 wk D hD => ?_⟩
  have R1 := R.step s1 c1
  have hDas : D ∉ as := fun m => R1.wf.trk (R1.wf.sub D m) hD
  have hD0 : H0 D = none := by
    cases z : H0 D with
    | none => rfl
    | some u => rw [s1 D u hDas z] at hD; cases hD
  refine ⟨fun i m H => m = ds.length - i ∧ i ≤ ds.length ∧ ∃ acc S rest, acc.length ≤ i ∧ CompS (kw X) as O σ H1 D vs ρ H acc S ∧ compL p fc f (wipeD ρ vs) (ds.drop i) S = some (rest, S2) ∧ acc ++ rest = ys, ⟨ds.length, rfl, Nat.zero_le _, [], S1, ys, Nat.zero_le _, CompS.start R1 hD, h2, rfl⟩, ?_⟩
  rintro i m H ⟨rfl, hi, acc, Sx, rest, ha, C, hc, hr⟩
  have kp : Kp O H1 H := fun a u n e => C.kept a u (fun m => n (R1.wf.sub a m)) (fun z => by rw [z, hD] at e; cases e) e
  obtain ⟨wstop, wgo⟩ := wk i H kp
  by_cases hlt : i < ds.length
  · rw [List.drop_eq_getElem_cons hlt] at hc
    unfold compL at hc
    obtain ⟨l, hb, hc⟩ := Option.bind_eq_some_iff.mp hc
    obtain ⟨⟨b, S3⟩, hb2, hc⟩ := Option.bind_eq_some_iff.mp hc
    obtain ⟨go, yld⟩ := wgo ds[i] (List.getElem?_eq_getElem hlt)
    refine .inr ⟨go, fun H' => ∃ acc S rest, acc.length ≤ i + 1 ∧ CompS (kw X) as O σ H1 D vs ρ H' acc S ∧ compL p fc f (wipeD ρ vs) (ds.drop (i + 1)) S = some (rest, S2) ∧ acc ++ rest = ys, fun H' h' => ⟨ds.length - (i + 1), by omega, rfl, hlt, h'⟩, fun x H2 y => ?_⟩
    obtain ⟨sm, rx⟩ := yld x H2 y
    have C2 := C.step hDas (Same.stp sm) (C.rel.cells.same C.rel.wf sm)
    have rx2 : Rp (kw X) as (ad O D) H2 x ds[i] := Rp.anti (fun a o => o.elim .inl fun z => .inr (z ▸ hD)) _ _ rx
    refine ⟨as, _, ds[i], l, rx2, hb, fun vl rv => ⟨?_, ?_⟩⟩
    · rw [wipe_put, wipe_idem]
      rw [rv.ix, binds_ix _ _ _ hb]
      intro j hj
      exact of_decide_eq_true (List.all_eq_true.mp hv j hj)
    · have R2 := C2.rel.put rv
      refine ⟨as, _, putD (wipeD ρ vs) l, Sx, b, S3, R2, hb2, fun H3 s3 c3 => ?_⟩
      have C3 := C2.step hDas s3 c3
      cases b with
      | false => exact ⟨acc, S3, rest, Nat.le_succ_of_le ha, C3, hc, hr⟩
      | true =>
        obtain ⟨⟨d, S4⟩, h4, hc⟩ := Option.bind_eq_some_iff.mp hc
        obtain ⟨⟨t, S5⟩, h5, hc⟩ := Option.bind_eq_some_iff.mp hc
        cases hc
        refine ⟨as, _, putD (wipeD ρ vs) l, S3, d, S4, R2.step s3 c3, h4, fun y H4 s4 c4 ry => ?_⟩
        have C4 := C3.step hDas s4 c4
        obtain ⟨xs, hx, rx⟩ := C4.lst
        have hlen : xs.length = acc.length := Rp.length rx
        refine ⟨xs, hx, ?_, acc ++ [d], S4, t, ?_, C4.push R1 hD hx rx ry, h5, ?_⟩
        · have q : ds.length ≤ 16777216 := hl
          rw [hlen, sizeLine_16]
          omega
        · rw [List.length_append]
          show acc.length + 1 ≤ i + 1
          omega
        · rw [← hr, List.append_assoc]
          rfl
  · have e : i = ds.length := by omega
    subst e
    rw [List.drop_length] at hc
    unfold compL at hc
    cases hc
    obtain ⟨xs, hx, rx⟩ := C.lst
    refine .inl ⟨wstop rfl, k D H hD0 (s1.trans fun a u n e => ?_) C.rel.cells (.lst hx (by rw [← hr, List.append_nil]; exact rx))⟩
    exact C.kept a u n (fun z => by rw [z, hD] at e; cases e) e
section
variable {tg iter elt : Expr} {ifs : List Expr} {scope : Scope} {own : List (Str × Nat)} {vs : List Nat}
theorem mf_comp (hc : X.calm = true) (hN : X.N.Nodup) (hi : PI X tg iter (tOfI (kw X) it)) (ok : BlkOk X.N X.env.scope scope own)
    (hg : ∀ (s : Shared) (H : Hp) (C : Addr) (cl : List (Str × Addr)) (fp : List Addr), PG (X.blk s H scope (compEnvC scope cl C X.env) fp) tg (gOf (kw X) p))
    (ht : ∀ (s : Shared) (H : Hp) (C : Addr) (cl : List (Str × Addr)) (fp : List Addr), PTs (X.blk s H scope (compEnvC scope cl C X.env) fp) ifs (tOfT (kw X) fc))
    (he : ∀ (s : Shared) (H : Hp) (C : Addr) (cl : List (Str × Addr)) (fp : List Addr), PE (X.blk s H scope (compEnvC scope cl C X.env) fp) elt (tOf (kw X) f))
    (ev : own.map (·.2) = vs := by rfl) (hv : p.ixs.all (fun i => decide (i ∈ vs)) = true := by rfl) (hs : ∀ x, foldedSetIterable iter X.env x = pure x := by intro _; rfl) :
    PE X (.ListComp elt [⟨tg, iter, ifs, 0⟩] scope pos) (tOfF (kw X) (eComp p it fc f vs)) :=
  (pe_lc hc hN hi ok hg ht he hs).weak fun σ H Q h => by
    rw [ev]
    exact comp_weak hv h
theorem ms_setC {i : Nat} {y : Str} {py spos : Pos} (hc : X.calm = true) (hN : X.N.Nodup) (hy : X.N[i]? = some y) (hyl : X.env.scope.names.lookup y = some .local)
    (hsw : swapsWith (.ListComp elt [⟨tg, iter, ifs, 0⟩] scope pos) (some (.Name y py)) spos.line X.env = pure true) (hi : PI X tg iter (tOfI (kw X) it)) (ok : BlkOk X.N X.env.scope scope own)
    (hg : ∀ (s : Shared) (H : Hp) (C : Addr) (cl : List (Str × Addr)) (fp : List Addr), PG (X.blk s H scope (compEnvC scope cl C X.env) fp) tg (gOf (kw X) p))
    (ht : ∀ (s : Shared) (H : Hp) (C : Addr) (cl : List (Str × Addr)) (fp : List Addr), PTs (X.blk s H scope (compEnvC scope cl C X.env) fp) ifs (tOfT (kw X) fc))
    (he : ∀ (s : Shared) (H : Hp) (C : Addr) (cl : List (Str × Addr)) (fp : List Addr), PE (X.blk s H scope (compEnvC scope cl C X.env) fp) elt (tOf (kw X) f))
    (ev : own.map (·.2) = vs := by rfl) (hv : p.ixs.all (fun i => decide (i ∈ vs)) = true := by rfl) (hs : ∀ x, foldedSetIterable iter X.env x = pure x := by intro _; rfl) :
    PS X (.Assign [.Name y py] (.ListComp elt [⟨tg, iter, ifs, 0⟩] scope pos) spos) (tOfS fr (kw X) (sSet i (eComp p it fc f vs))) :=
  (ps_setLc hc hN hy hyl hsw hi ok hg ht he hs).weak fun D σ H h => by
    rw [ev]
    obtain ⟨as, O, B, G, ρ, S, o, R, hf, k⟩ := h
    unfold sSet at hf
    obtain ⟨⟨d1, S1⟩, h1, hf⟩ := Option.bind_eq_some_iff.mp hf
    cases hf
    refine comp_weak hv ⟨as, _, ρ, S, d1, S1, R.e, h1, fun q H1 n s1 c1 r1 => ?_⟩
    exact k _ _ ((R.step s1 (c1.anti ad_sub)).set i (r1.val (R.wf.nel n) ad_sub))
theorem ms_setCO {i : Nat} {y : Str} {py spos : Pos} (hc : X.calm = true) (hN : X.N.Nodup) (hy : X.N[i]? = some y) (hyl : X.env.scope.names.lookup y = some .local)
    (hsw : swapsWith (.ListComp elt [⟨tg, iter, ifs, 0⟩] scope pos) (some (.Name y py)) spos.line X.env = pure true) (hi : PI X tg iter (tOfI (kw X) it)) (ok : BlkOk X.N X.env.scope scope own)
    (hg : ∀ (s : Shared) (H : Hp) (C : Addr) (cl : List (Str × Addr)) (fp : List Addr), PG (X.blk s H scope (compEnvC scope cl C X.env) fp) tg (gOf (kw X) p))
    (ht : ∀ (s : Shared) (H : Hp) (C : Addr) (cl : List (Str × Addr)) (fp : List Addr), PTs (X.blk s H scope (compEnvC scope cl C X.env) fp) ifs (tOfT (kw X) fc))
    (he : ∀ (s : Shared) (H : Hp) (C : Addr) (cl : List (Str × Addr)) (fp : List Addr), PE (X.blk s H scope (compEnvC scope cl C X.env) fp) elt (tOf (kw X) f))
    (ev : own.map (·.2) = vs := by rfl) (hv : p.ixs.all (fun i => decide (i ∈ vs)) = true := by rfl) (hs : ∀ x, foldedSetIterable iter X.env x = pure x := by intro _; rfl) :
    PS X (.Assign [.Name y py] (.ListComp elt [⟨tg, iter, ifs, 0⟩] scope pos) spos) (tOfS fr (kw X) (sSetO i (eComp p it fc f vs))) :=
  (ps_setLc hc hN hy hyl hsw hi ok hg ht he hs).weak fun D σ H h => by
    rw [ev]
    obtain ⟨as, O, B, G, ρ, S, o, R, hf, k⟩ := h
    unfold sSetO at hf
    obtain ⟨⟨d1, S1⟩, h1, hf⟩ := Option.bind_eq_some_iff.mp hf
    split at hf
    · rename_i hi
      cases hf
      refine comp_weak hv ⟨as, _, ρ, S, d1, S1, R.e, h1, fun q H1 n s1 c1 r1 => ?_⟩
      exact k _ _ (R.setOwn i hi n s1 c1 r1)
    · cases hf
end
def spM (fr : Bool) (K : KW) (n : Nat) (m : List D → List D → Option (D × List D)) : Sp := fun vs H Q _ => vs.length = n ∧ ∃ as O ds S r S', Wf as O H ∧ Cells K as O H S ∧ RpL K as O H vs ds ∧ m ds S = some (r, S') ∧
  ∀ v H', Stp as H H' → Cells K as O H' S' → Rp K as O H' v r → (fr = true → ∃ a, v = .ref a ∧ H a = none ∧ CellR K as (ad O a) H' a r ∧ Cells K as (ad O a) H' S') → Q v H'
structure FnM (P : Program) (w : World) (K : PySem.W.Frag) (mg : Str → Option Value) (base : Heap) (k : Nat) (x : Str) (f : Addr) (fd : FuncData) (ps : List Str) (fr : Bool) (m : List D → List D → Option (D × List D)) : Prop where
  ok : FnOkG P w K mg base k f fd ps (spM fr ⟨K, w⟩ ps.length m)
  mg : mg x = some (.ref f)
  kp : PySem.W.keepIn K (.ref f) = true
  bd : Binds K fd ps []
def eCall (n : Nat) (m : List D → List D → Option (D × List D)) (fs : Ea) : Ev := fun ρ S => (fs ρ S).bind fun q => if q.1.length = n then m q.1 q.2 else none
section
variable {k : Nat} {x : Str} {fa : Addr} {fd : FuncData} {ps : List Str} {m : List D → List D → Option (D × List D)} {pp : Pos}
theorem me_call (F : FnM X.prog X.w X.K X.mg X.base k x fa fd ps fr m) (hr : RoomG k X.A) (hg : Gl X x) (ha : PA X (e :: es) (tOfA (kw X) fs))
    (hdb : (x == ("__debug__" : Str)) = false := by decide) (he : starEach (e :: es) X.env = (false, eval e X.env) :: starEach es X.env := by rfl) (hpl : (backTo pos (starEach es X.env)).any (·.1) = false := by rfl) {n : Nat} (hn : ps.length = n := by rfl) :
    PE X (.Call (.Name x pp) (e :: es) [] pos) (tOf (kw X) (eCall n m fs)) :=
  (pe_callG F.ok hr hg F.mg F.kp F.bd ha hdb he hpl).weak fun σ H Q q => by
    subst hn
    obtain ⟨as, O, ρ, S, d, S', R, hf, kk⟩ := q
    unfold eCall at hf
    obtain ⟨⟨ds, S1⟩, h1, hf⟩ := Option.bind_eq_some_iff.mp hf
    split at hf
    · rename_i hl
      refine ⟨as, O, ρ, S, ds, S1, R, h1, fun vs H1 s1 c1 r1 => ?_⟩
      have R1 := R.step s1 c1
      show spM _ (kw X) ps.length m (vs ++ []) H1 Q E0
      rw [List.append_nil]
      exact ⟨(Rp.length r1).trans hl, as, O, ds, S1, d, S', R1.wf, c1, r1, hf, fun v H' s c r _ => kk v H' (s1.trans s) c r⟩
    · cases hf
theorem mf_call (F : FnM X.prog X.w X.K X.mg X.base k x fa fd ps true m) (hr : RoomG k X.A) (hg : Gl X x) (ha : PA X (e :: es) (tOfA (kw X) fs))
    (hdb : (x == ("__debug__" : Str)) = false := by decide) (he : starEach (e :: es) X.env = (false, eval e X.env) :: starEach es X.env := by rfl) (hpl : (backTo pos (starEach es X.env)).any (·.1) = false := by rfl) {n : Nat} (hn : ps.length = n := by rfl) :
    PE X (.Call (.Name x pp) (e :: es) [] pos) (tOfF (kw X) (eCall n m fs)) :=
  (pe_callG F.ok hr hg F.mg F.kp F.bd ha hdb he hpl).weak fun σ H Q q => by
    subst hn
    obtain ⟨as, O, ρ, S, d, S', R, hf, kk⟩ := q
    unfold eCall at hf
    obtain ⟨⟨ds, S1⟩, h1, hf⟩ := Option.bind_eq_some_iff.mp hf
    split at hf
    · rename_i hl
      refine ⟨as, O, ρ, S, ds, S1, R, h1, fun vs H1 s1 c1 r1 => ?_⟩
      have R1 := R.step s1 c1
      show spM _ (kw X) ps.length m (vs ++ []) H1 Q E0
      rw [List.append_nil]
      refine ⟨(Rp.length r1).trans hl, as, O, ds, S1, d, S', R1.wf, c1, r1, hf, fun v H' s c r g => ?_⟩
      obtain ⟨a, rfl, n, cr, cc⟩ := g rfl
      have n0 : H a = none := by
        cases z : H a with
        | none => rfl
        | some u =>
          by_cases ma : a ∈ as
          · exact absurd n (R1.wf.trk (R1.wf.sub a ma))
          · rw [s1 a u ma z] at n; cases n
      exact kk a H' n0 (s1.trans s) cc cr
    · cases hf
end
def runB (fr : Bool) (N : Nat) (f : Sv) : List D → List D → Option (D × List D) := fun ds S => (f (ds.map .val ++ List.replicate (N - ds.length) .non) S).bind fun o => match o with
  | .rt d S' => some (d, S')
  | .nx _ S' => if fr = true then none else some (.non, S')
  | _ => none
end
section
variable {P : Program} {w : World} {K : PySem.W.Frag} {mg : Str → Option Value} {base : Heap}
theorem rel_start {K : KW} {as : List Addr} {O : Addr → Prop} {H : Hp} {S ds : List D} {vs : List V} {N : List Str} (wf : Wf as O H) (c : Cells K as O H S) (r : RpL K as O H vs ds) :
    Rel K as O (fun a => H a ≠ none) (fun a u => a ∉ as ∧ H a = some u) (start N vs) H (ds.map .val ++ List.replicate (N.length - ds.length) .non) S := by
  have len : vs.length = ds.length := Rp.length r
  have get : ∀ (i : Nat) (x : Slot), x ≠ .non → (ds.map Slot.val ++ List.replicate (N.length - ds.length) .non)[i]? = some x → ∃ d, x = .val d ∧ ds[i]? = some d := fun i x nx h => by
    by_cases hi : i < ds.length
    · rw [List.getElem?_append_left (by simpa using hi), List.getElem?_map] at h
      cases q : ds[i]? with
      | none => rw [q] at h; cases h
      | some d => rw [q] at h; cases h; exact ⟨d, rfl, rfl⟩
    · rw [List.getElem?_append_right (by simpa using hi), List.getElem?_replicate] at h
      split at h
      · cases h; exact absurd rfl nx
      · cases h
  have no : ∀ (i : Nat) (d : D), (ds.map Slot.val ++ List.replicate (N.length - ds.length) .non)[i]? ≠ some (.own d) := fun i d h => by
    obtain ⟨_, e, _⟩ := get i (.own d) (fun z => nomatch z) h
    cases e
  have sb : ∀ a, OO O (ds.map Slot.val ++ List.replicate (N.length - ds.length) .non) (start N vs) a → O a := fun a h => h.elim id fun ⟨i, d, h1, _⟩ => absurd h1 (no i d)
  refine ⟨wf.sub, fun a o => wf.trk o, fun a h => h, wf.mt, wf.nd, fun a u h => h.2, fun a u h => h.1, c.anti sb, ?_, fun i d h => ?_, fun i d h => absurd h (no i d), fun i j d e a _ h => absurd h (no i d)⟩
  · unfold L2.start
    rw [List.length_append, List.length_append, List.length_map, List.length_map, List.length_replicate, List.length_replicate, len]
  · obtain ⟨d', e, h1⟩ := get i (.val d) (fun z => nomatch z) h
    cases e
    obtain ⟨v, h2, r2⟩ := r.get h1
    refine ⟨v, ?_, Rp.anti sb _ _ r2⟩
    unfold L2.start
    have hi : i < vs.length := (List.getElem?_eq_some_iff.mp h2).1
    rw [List.getElem?_append_left (by simpa using hi), List.getElem?_map, h2]
    rfl
abbrev FnP (K : PySem.W.Frag) (x : Str) (st : Stmt) (f : Addr) (fd : FuncData) : Prop := FunD K x x (defArgs st) (defBody st) (defScope st) [] [] f fd
theorem def_ok {x : Str} {st : Stmt} {f : Addr} {fd : FuncData} {N ps : List Str} {k : Nat} {fr : Bool} {g : Sv} {m : List D → List D → Option (D × List D)} (F : FnP K x st f fd) (Sc : FnScope N ps (defScope st)) (hg : mg x = some (.ref f)) (hb : Binds K fd ps [])
    (em : ∀ ds S, ds.length = ps.length → m ds S = runB fr N.length g ds S)
    (body : ∀ (cdv : Value) (A : Around) (outer : List Env) (s : Shared) (H : Hp) (E : XK), RoomG k (A.deeper (envOfC x (defScope st) s.heap.objs.size f cdv)) →
      PSs (cxOf CX0 P w K mg base N x (defScope st) f cdv A outer s H E).nox (defBody st) (tOfS fr ⟨K, w⟩ g)) : FnM P w K mg base (k + 1) x f fd ps fr m := by
  refine ⟨fnG F Sc (fun vs H Q E h => h.1) (fun cdv A outer s H vs Q E hr h => ⟨_, PSs.nox (body cdv A outer s H E hr), ?_⟩), hg, F.kp, hb⟩
  obtain ⟨hl, as, O, ds, S, r, S', wf, c, rv, hm, q⟩ := h
  rw [em ds S ((Rp.length rv).symm.trans hl)] at hm
  unfold runB at hm
  obtain ⟨o, ho, hm⟩ := Option.bind_eq_some_iff.mp hm
  refine ⟨as, O, _, _, _, S, o, rel_start (N := N) wf c rv, ho, ?_⟩
  cases o with
  | rt d S1 =>
    cases hm
    intro v H' g' rr
    refine q v H' (fun a u n e => g' a u ⟨n, e⟩) rr.1 rr.2.1 fun z => ?_
    obtain ⟨a, e, nb, c1, c2⟩ := rr.2.2 z
    refine ⟨a, e, ?_, c1, c2⟩
    cases y : H a with
    | none => rfl
    | some u => exact absurd (fun e => by rw [y] at e; cases e) nb
  | nx ρ1 S1 =>
    cases fr with
    | true => cases hm
    | false =>
    cases hm
    intro σ' H' R
    have sb : ∀ a, O a → OO O ρ1 σ' a := fun a o => .inl o
    refine q .non H' (fun a u n e => R.g a u ⟨n, e⟩) (R.cells.anti sb) .non fun z => (nomatch z)
  | bk ρ1 S1 => cases hm
  | ct ρ1 S1 => cases hm
end
end DL
namespace DL
open PySem PySem.Spec PyProof.Rows L2
inductive Src where
  | lst (a : Addr) | tup (a : Addr) | str (x : Str) (t : Tok)
def Src.val : Src → Value
  | .lst a => .ref a
  | .tup a => .ref a
  | .str x t => .str x t
def Src.at (K : PySem.W.Frag) (H : Hp) : Src → List V → Prop
  | .lst a, xs => SqL K H a xs
  | .tup a, xs => SqT K H a xs
  | .str x _, xs => xs = x.cps.toList.map fun c => V.str ⟨#[c]⟩
def Src.it (h : Heap) (p : Addr) (i : Nat) : Src → Prop
  | .lst a => h.IsListIter p a i
  | .tup a => h.IsTupleIter p a i
  | .str x t => h.IsStrIter p (strIterType x) x t i
def Src.adr : Src → List Addr
  | .lst a => [a]
  | .tup a => [a]
  | .str _ _ => []
theorem Src.it_keep {s : Src} {h h' : Heap} {p : Addr} {i : Nat} (x : s.it h p i) (k : ∀ o, h.get? p = some o → h'.get? p = some o) : s.it h' p i := by
  cases s with
  | lst a => exact Heap.IsListIter.at x k
  | tup a => exact Heap.IsTupleIter.at x k
  | str y t => obtain ⟨o, ho, q⟩ := x; exact ⟨o, k o ho, q⟩
theorem Src.it_obj {s : Src} {h : Heap} {p : Addr} {i : Nat} (x : s.it h p i) : ∃ o, h.get? p = some o ∧ ∀ v, o.data ≠ .cell v := by
  cases s with
  | lst a => obtain ⟨o, ho, _, d⟩ := x; exact ⟨o, ho, fun v q => by rw [d] at q; cases q⟩
  | tup a => obtain ⟨o, ho, _, d⟩ := x; exact ⟨o, ho, fun v q => by rw [d] at q; cases q⟩
  | str y t => obtain ⟨o, ho, _, d⟩ := x; exact ⟨o, ho, fun v q => by rw [d] at q; cases q⟩
section
variable {X : Cx} {pins : List (Addr × Obj)} {σ : L2.St} {H : Hp} {s : Shared}
theorem Src.at_inj (I : Inv X pins σ H s) {r : Src} {xs ys : List V} (h1 : r.at (kw X) H xs) (h2 : r.at (kw X) H ys) : xs = ys := by
  cases r with
  | lst a => exact I.list_inj h1 h2
  | tup a => exact I.tuple_inj h1 h2
  | str y t => exact h1.trans h2.symm
theorem Src.draws (I : Inv X pins σ H s) (hc : X.calm = true) {r : Src} {xs : List V} (h : r.at (kw X) H xs) {p : Addr} {i : Nat} (hit : r.it s.heap p i) (ne : ∀ a ∈ r.adr, a ≠ p) :
    ∃ P St, Draws X.prog X.w X.A.in1 p (p :: r.adr) xs.length P St ∧ St i s.heap ∧ (∀ j v, P j v → ∃ x, xs[j]? = some x ∧ RelV x v) ∧ ∀ j h', St j h' → r.it h' p j := by
  have hh : X.A.in1.handled = none := I.ok.hd hc
  cases r with
  | lst a =>
    obtain ⟨its, rv, pl, _⟩ := I.list h
    refine ⟨fun j v => its.toArray[j]? = some v, fun j h => h.IsListIter p a j ∧ h.IsList a its.toArray, ?_, ⟨hit, pl.isList⟩, fun j v e => ?_, fun j h' st => st.1⟩
    · have q := Draws.list (prog := X.prog) (w := X.w) hh p a (ne a (by simp [Src.adr])) its.toArray
      rw [show its.toArray.size = xs.length by simp [rv.length]] at q
      exact q
    have e' : its[j]? = some v := by simpa using e
    obtain ⟨x, hx⟩ : ∃ x, xs[j]? = some x := by
      have : j < its.length := (List.getElem?_eq_some_iff.mp e').1
      exact ⟨xs[j]'(by rw [rv.length]; exact this), List.getElem?_eq_getElem _⟩
    obtain ⟨u, hu, ru⟩ := rv.get hx
    rw [e'] at hu
    cases hu
    exact ⟨x, hx, ru⟩
  | tup a =>
    obtain ⟨its, rv, pl, _⟩ := I.tuple h
    obtain ⟨o, ho, c, n, hd⟩ := pl
    refine ⟨fun j v => its.toArray[j]? = some v, fun j h => h.IsTupleIter p a j ∧ h.IsTuple a its.toArray, ?_, ⟨hit, ⟨o, ho, c, n, hd⟩⟩, fun j v e => ?_, fun j h' st => st.1⟩
    · have q := Draws.tuple (prog := X.prog) (w := X.w) hh p a (ne a (by simp [Src.adr])) its.toArray
      rw [show its.toArray.size = xs.length by simp [rv.length]] at q
      exact q
    have e' : its[j]? = some v := by simpa using e
    obtain ⟨x, hx⟩ : ∃ x, xs[j]? = some x := by
      have : j < its.length := (List.getElem?_eq_some_iff.mp e').1
      exact ⟨xs[j]'(by rw [rv.length]; exact this), List.getElem?_eq_getElem _⟩
    obtain ⟨u, hu, ru⟩ := rv.get hx
    rw [e'] at hu
    cases hu
    exact ⟨x, hx, ru⟩
  | str y t =>
    have hx : xs = y.cps.toList.map fun c => V.str ⟨#[c]⟩ := h
    subst hx
    refine ⟨fun j v => ∃ c u, y.cps[j]? = some c ∧ v = .str ⟨#[c]⟩ u, fun j h => h.IsStrIter p (strIterType y) y t j, ?_, hit, fun j v e => ?_, fun j h' st => st⟩
    · have q := Draws.text (prog := X.prog) (w := X.w) hh p y t
      rw [show y.cps.size = (y.cps.toList.map fun c => V.str ⟨#[c]⟩).length by simp] at q
      exact q
    obtain ⟨c, u, e1, e2⟩ := e
    refine ⟨.str ⟨#[c]⟩, ?_, u, e2⟩
    rw [List.getElem?_map]
    have : y.cps.toList[j]? = some c := by simpa using e1
    rw [this]
    rfl
theorem Src.begins (I : Inv X pins σ H s) {r : Src} {xs : List V} (h : r.at (kw X) H xs) : ∃ o Hh, Begins r.val o Hh ∧ Hh s.heap ∧ (∀ h' p, h'.get? p = some o → r.it h' p 0) ∧ (∀ a ∈ r.adr, a < s.heap.objs.size) := by
  cases r with
  | lst a =>
    obtain ⟨its, rv, pl, _⟩ := I.list h
    refine ⟨_, _, begins_list a its.toArray, pl.isList, fun h' p e => ⟨_, e, rfl, rfl⟩, fun b hb => ?_⟩
    have : b = a := by simpa [Src.adr] using hb
    rw [this]
    exact pl.lt
  | tup a =>
    obtain ⟨its, rv, pl, _⟩ := I.tuple h
    have pl' := pl
    obtain ⟨o, ho, c, n, hd⟩ := pl'
    refine ⟨_, _, begins_tuple a its.toArray, ⟨o, ho, c, n, hd⟩, fun h' p e => ⟨_, e, rfl, rfl⟩, fun b hb => ?_⟩
    have : b = a := by simpa [Src.adr] using hb
    rw [this]
    exact pl.lt
  | str y t => exact ⟨_, _, begins_text y t, trivial, fun h' p e => ⟨_, e, rfl, rfl⟩, fun b hb => by simp [Src.adr] at hb⟩
end
structure Ap5 (z TI TO i1 i2 : Addr) (r1 r2 : Src) : Prop where
  TIz : TI ≠ z
  TOz : TO ≠ z
  TITO : TI ≠ TO
  TIi1 : TI ≠ i1
  TIi2 : TI ≠ i2
  TOi1 : TO ≠ i1
  TOi2 : TO ≠ i2
  zi1 : z ≠ i1
  zi2 : z ≠ i2
  i12 : i1 ≠ i2
  a1 : ∀ a ∈ r1.adr, a ≠ z ∧ a ≠ TO ∧ a ≠ i1 ∧ a ≠ i2
  a2 : ∀ a ∈ r2.adr, a ≠ z ∧ a ≠ TO ∧ a ≠ i1 ∧ a ≠ i2
theorem Ap5.sep {z TI TO i1 i2 : Addr} {r1 r2 : Src} (A : Ap5 z TI TO i1 i2 r1 r2) : ZipSep2 z TI TO i1 i2 (i1 :: r1.adr) (i2 :: r2.adr) where
  TIz := A.TIz
  TOz := A.TOz
  TITO := A.TITO
  TIi1 := A.TIi1
  mem1 := List.mem_cons_self
  zf1 := fun h => (List.mem_cons.mp h).elim A.zi1 fun q => (A.a1 _ q).1 rfl
  Tf1 := fun h => (List.mem_cons.mp h).elim A.TOi1 fun q => (A.a1 _ q).2.1 rfl
  TIi2 := A.TIi2
  mem2 := List.mem_cons_self
  zf2 := fun h => (List.mem_cons.mp h).elim A.zi2 fun q => (A.a2 _ q).1 rfl
  Tf2 := fun h => (List.mem_cons.mp h).elim A.TOi2 fun q => (A.a2 _ q).2.1 rfl
  sep1_2 := fun h => (List.mem_cons.mp h).elim A.i12 fun q => (A.a2 _ q).2.2.1 rfl
  sep2_1 := fun h => (List.mem_cons.mp h).elim (fun e => A.i12 e.symm) fun q => (A.a1 _ q).2.2.2 rfl
def ItzM (K : PySem.W.Frag) (r1 r2 : Src) : It :=
  ⟨fun i H => ∃ (xs ys : List V) (x y : V), r1.at K H xs ∧ r2.at K H ys ∧ xs[i]? = some x ∧ ys[i]? = some y,
    fun i H v H' => ∃ T x y, v = .ref T ∧ H T = none ∧ H' = upd H T (.tup [x, y]) ∧ (∀ xs, r1.at K H xs → xs[i]? = some x) ∧ ∀ ys, r2.at K H ys → ys[i]? = some y,
    fun i H => ∃ xs ys : List V, r1.at K H xs ∧ r2.at K H ys ∧ (xs.length ≤ i ∨ ys.length ≤ i) ∧ i ≤ xs.length ∧ i ≤ ys.length⟩
theorem turn_zipM {P : Program} {w : World} {K : PySem.W.Frag} {elts : List Expr} {kk : Nat} {tpos : Pos} {r1 r2 : Src} {z TI TO i1 i2 : Addr} (A : Ap5 z TI TO i1 i2 r1 r2) :
    Turn P w K (.Tuple elts kk tpos) (ItzM K r1 r2) [z, TI, TO, i1, i2] z (fun i h => IsZip h z TI TO .none ∧ IsTupOf2 h TI (.ref i1) (.ref i2) ∧ (∃ x y, IsTupOf2 h TO x y) ∧ r1.it h i1 i ∧ r2.it h i2 i) where
  mem := by simp
  obj := fun i h st c hc => by
    obtain ⟨hz, hTI, ⟨x, y, hTO⟩, h1, h2⟩ := st
    have e' : c = z ∨ c = TI ∨ c = TO ∨ c = i1 ∨ c = i2 := by simpa using hc
    rcases e' with q | q | q | q | q
    · rw [q]; exact ⟨_, hz, fun v q => nomatch q⟩
    · rw [q]; exact ⟨_, hTI, fun v q => nomatch q⟩
    · rw [q]; exact ⟨_, hTO, fun v q => nomatch q⟩
    · rw [q]; exact Src.it_obj h1
    · rw [q]; exact Src.it_obj h2
  keep := fun i h h' st k => by
    obtain ⟨hz, hTI, ⟨x, y, hTO⟩, h1, h2⟩ := st
    exact ⟨k z (by simp) _ hz, k TI (by simp) _ hTI, ⟨x, y, k TO (by simp) _ hTO⟩, Src.it_keep h1 fun o q => k i1 (by simp) o q, Src.it_keep h2 fun o q => k i2 (by simp) o q⟩
  item := by
    intro X hP hw hK hc i pins s σ H E I hf st hg
    subst hP hw hK
    obtain ⟨hz, hTI, ⟨x0, y0, hTO⟩, h1, h2⟩ := st
    obtain ⟨xs, ys, x, y, hqx, hqy, hx, hy⟩ := hg
    obtain ⟨P1, St1, D1, st1, p1, g1⟩ := Src.draws I hc hqx h1 (fun a ha => (A.a1 a ha).2.2.1)
    obtain ⟨P2, St2, D2, st2, p2, g2⟩ := Src.draws I hc hqy h2 (fun a ha => (A.a2 a ha).2.2.2)
    have hzl : z < s.heap.objs.size := Heap.lt_size hz
    have l1 : i < xs.length := (List.getElem?_eq_some_iff.mp hx).1
    have l2 : i < ys.length := (List.getElem?_eq_some_iff.mp hy).1
    refine wpAny_pyNext_zipD2_item A.sep D1 D2 hz hTI hTO st1 st2 l1 l2 fun u u2 h' tk y1 y2 z' TO' h1' h2' hT hsz hk => ?_
    obtain ⟨x', ex, ru⟩ := p1 i u y1
    obtain ⟨y', ey, ru2⟩ := p2 i u2 y2
    rw [hx] at ex
    rw [hy] at ey
    cases ex
    cases ey
    refine ⟨_, rfl, wpAny_letOwnedTupleGo_zip (s := { s with heap := h', toks := tk }) z' fun h'' z'' sb => ?_⟩
    have hT2 : h''.get? s.heap.objs.size = some { cls := .type "tuple", data := .seq #[u, u2] } := (sb.2 _ (Nat.ne_of_gt hzl)).trans hT
    have new : ObjOk X.prog X.w (upd H s.heap.objs.size (.tup [x, y])) h'' s.heap.objs.size (.tup [x, y]) :=
      ⟨by show 2 ≤ sizeLine; decide, [u, u2], .cons ru (.cons ru2 .nil), ⟨_, hT2, rfl, _, rfl⟩⟩
    have I1 : Inv X pins σ (upd H s.heap.objs.size (.tup [x, y])) { s with heap := h'', toks := tk } :=
      I.turnedNew (t' := tk) (ch := [z, TI, TO, i1, i2]) (fun c o hb q => (sb.2 c (fun q' => hb (by simp [q']))).trans (hk c o (fun q' => hb (by simp [q'])) (fun q' => hb (by simp [q'])) (fun q' => hb (by simp [q'])) (fun q' => hb (by simp [q'])) q)) hf (Nat.le_refl _) new
    refine ⟨.ref s.heap.objs.size, _, I1, rfl, ⟨_, x, y, rfl, I.hok.fresh (Nat.le_refl _), rfl, fun l hl => by rw [Src.at_inj I hl hqx]; exact hx, fun l hl => by rw [Src.at_inj I hl hqy]; exact hy⟩, ⟨z'', ?_, ⟨u, u2, ?_⟩, ?_, ?_⟩, fun c hcm => ?_⟩
    · exact (sb.2 _ A.TIz).trans (hk _ _ A.TIz A.TITO A.TIi1 A.TIi2 hTI)
    · exact (sb.2 _ A.TOz).trans TO'
    · exact Src.it_keep (g1 _ _ h1') fun o q => (sb.2 _ A.zi1.symm).trans q
    · exact Src.it_keep (g2 _ _ h2') fun o q => (sb.2 _ A.zi2.symm).trans q
    · have hlt : c < s.heap.objs.size := by
        have e' : c = z ∨ c = TI ∨ c = TO ∨ c = i1 ∨ c = i2 := by simpa using hcm
        rcases e' with q | q | q | q | q
        · rw [q]; exact hzl
        · rw [q]; exact Heap.lt_size hTI
        · rw [q]; exact Heap.lt_size hTO
        · rw [q]; obtain ⟨_, e1, _⟩ := Src.it_obj h1; exact Heap.lt_size e1
        · rw [q]; obtain ⟨_, e2, _⟩ := Src.it_obj h2; exact Heap.lt_size e2
      rw [upd_ne (Nat.ne_of_lt hlt)]
      exact (hf c hcm).1
  done := by
    intro X hP hw hK hc i pins s σ H E I hf st hg
    subst hP hw hK
    obtain ⟨hz, hTI, ⟨x0, y0, hTO⟩, h1, h2⟩ := st
    obtain ⟨xs, ys, hqx, hqy, hend, le1, le2⟩ := hg
    obtain ⟨P1, St1, D1, st1, p1, g1⟩ := Src.draws I hc hqx h1 (fun a ha => (A.a1 a ha).2.2.1)
    obtain ⟨P2, St2, D2, st2, p2, g2⟩ := Src.draws I hc hqy h2 (fun a ha => (A.a2 a ha).2.2.2)
    exact wpAny_pyNext_zipD2_end A.sep D1 D2 hz hTI hTO st1 st2 le1 le2 (by omega) fun h' tk hk => ⟨rfl, I.turnedL (t' := tk) (ch := [z, TI, TO, i1, i2]) (fun c o hb q =>
      hk c o (fun q' => hb (by simp [q'])) (fun q' => hb (by simp [q'])) (fun q' => hb (by simp [q'])) (fun q' => hb (by simp [q'])) q) hf⟩
  self := fun A i s Q E st h => wpAny_pyIter_zip st.1 h
def seqOf : D → Option (List D)
  | .lst xs => some xs
  | .tup xs => some xs
  | .str x => some (x.cps.toList.map fun c => .str ⟨#[c]⟩)
  | _ => none
section
variable {K : KW} {as : List Addr} {O : Addr → Prop} {H H1 H2 H3 : Hp}
theorem rp_signs : ∀ (l : List Nat), RpL K as O H (l.map fun c => V.str ⟨#[c]⟩) (l.map fun c => D.str ⟨#[c]⟩)
  | [] => .nil
  | c :: l => .cons (.str _) (rp_signs l)
theorem src_of {v : V} {u : Value} {d : D} {ds : List D} (w : Wf as O H) (r : Rp K as O H v d) (rv : RelV v u) (hs : seqOf d = some ds) :
    ∃ (q : Src) (vs : List V), u = q.val ∧ RpL K as O H vs ds ∧ ∀ H2, Kp O H H2 → q.at K H2 vs := by
  cases r with
  | lst n h t =>
    cases hs
    cases rv
    exact ⟨.lst _, _, rfl, t, fun H2 k => .inl (.inl (k _ _ n h))⟩
  | tup h t =>
    cases hs
    cases rv
    exact ⟨.tup _, _, rfl, t, fun H2 k => k.sqT w.nt h⟩
  | str x =>
    cases hs
    obtain ⟨t, rfl⟩ := rv
    exact ⟨.str x t, _, rfl, rp_signs _, fun H2 k => rfl⟩
  | _ => cases hs
theorem Kp.refl : Kp O H H := fun _ _ _ h => h
end
def zipD : List D → List D → List D
  | x :: xs, y :: ys => .tup [x, y] :: zipD xs ys
  | _, _ => []
theorem zipD_len : ∀ (xs ys : List D), (zipD xs ys).length = min xs.length ys.length
  | [], _ => by simp [zipD]
  | _ :: _, [] => by simp [zipD]
  | x :: xs, y :: ys => by
    show (zipD xs ys).length + 1 = _
    rw [zipD_len xs ys]
    simp only [List.length_cons]
    omega
theorem zipD_get : ∀ (xs ys : List D) (i : Nat) (d : D), (zipD xs ys)[i]? = some d → ∃ x y, xs[i]? = some x ∧ ys[i]? = some y ∧ d = .tup [x, y]
  | [], _, _, _, h => by simp [zipD] at h
  | _ :: _, [], _, _, h => by simp [zipD] at h
  | x :: xs, y :: ys, 0, d, h => by cases h; exact ⟨x, y, rfl, rfl, rfl⟩
  | x :: xs, y :: ys, i + 1, d, h => zipD_get xs ys i d h
def iZip (fs : Ea) : Ea := fun ρ S => (fs ρ S).bind fun q => match q.1 with
  | [d1, d2] => (seqOf d1).bind fun xs => (seqOf d2).bind fun ys => some (zipD xs ys, q.2)
  | _ => none
theorem mi_zip {X : Cx} {e e2 : Expr} {fs : Ea} {p pos tpos : Pos} {elts : List Expr} {kk : Nat} (hg : Gl X "zip") (hm : X.mg "zip" = none) (ha : PA X [e, e2] (tOfA (kw X) fs))
    (hs : starEach [e, e2] X.env = (false, eval e X.env) :: starEach [e2] X.env := by rfl) (hpl : (backTo pos (starEach [e2] X.env)).any (·.1) = false := by rfl) :
    PI X (.Tuple elts kk tpos) (.Call (.Name "zip" p) [e, e2] [] pos) (tOfI (kw X) (iZip fs)) := by
  refine ⟨fun pins s σ H R I h => ?_⟩
  obtain ⟨as, O, ρ, S, ds, S', R0, hf, k⟩ := h
  unfold iZip at hf
  obtain ⟨⟨dd, S1⟩, h1, hf⟩ := Option.bind_eq_some_iff.mp hf
  refine Call_ (ld_blt I hg hm PyProof.Rows.boot_zip (PyProof.Rows.callWith_type1 (thn (ha.run pos pins s σ H (fun vs H1 => Stp as H H1 ∧ Cells (kw X) as O H1 S1 ∧ RpL (kw X) as O H1 vs dd) I ⟨as, O, ρ, S, dd, S1, R0, h1, fun vs H' s c r => ⟨s, c, r⟩⟩) fun us s1 ⟨vs, H1, I1, rv, s1', c1, rr⟩ => ?_) hs hpl))
  have w1 := R0.wf.step s1' c1
  split at hf
  case h_2 => cases hf
  case h_1 d1 d2 e =>
  obtain ⟨xs, hx, hf⟩ := Option.bind_eq_some_iff.mp hf
  obtain ⟨ys, hy, hf⟩ := Option.bind_eq_some_iff.mp hf
  cases hf
  have e : dd = [d1, d2] := e
  subst e
  cases rr with
  | cons ra rr =>
    cases rr with
    | cons rb rr =>
      cases rr
      cases rv with
      | cons va rv =>
        cases rv with
        | cons vb rv =>
          cases rv
          obtain ⟨r1, v1, rfl, t1, a1⟩ := src_of w1 ra va hx
          obtain ⟨r2, v2, rfl, t2, a2⟩ := src_of w1 rb vb hy
          have q1 := a1 H1 Kp.refl
          have q2 := a2 H1 Kp.refl
          obtain ⟨o1, Hh1, B1, b1, g1, l1⟩ := Src.begins I1 q1
          obtain ⟨o2, Hh2, B2, b2, g2, l2⟩ := Src.begins I1 q2
          refine zip_begins2 B1 B2 b1 b2 fun h' hz hTI hTO ho1 ho2 hsz hk => wpAny_pyIter_zip hz ?_
          have I2 : Inv X pins σ H1 { s1 with heap := h' } := I1.kept (t' := s1.toks) hk
          refine ⟨s1.heap.objs.size + 4, [s1.heap.objs.size + 4, s1.heap.objs.size + 2, s1.heap.objs.size + 3, s1.heap.objs.size, s1.heap.objs.size + 1], _, _, H1, rfl, I2, turn_zipM (r1 := r1) (r2 := r2) (i1 := s1.heap.objs.size) (i2 := s1.heap.objs.size + 1) (TI := s1.heap.objs.size + 2) (TO := s1.heap.objs.size + 3) ?_, ⟨hz, hTI, ⟨_, _, hTO⟩, g1 _ _ ho1, g2 _ _ ho2⟩, fun c hcm => ?_, ?_⟩
          · have nn : ∀ (a n m : Nat), a < n → a ≠ n + m := fun a n m h => by omega
            have n2 : ∀ (n a b : Nat), a ≠ b → n + a ≠ n + b := fun n a b h => by omega
            have n3 : ∀ (n b : Nat), b ≠ 0 → n + b ≠ n := fun n b h => by omega
            have n4 : ∀ (n b : Nat), b ≠ 0 → n ≠ n + b := fun n b h => by omega
            have n5 : ∀ (a n : Nat), a < n → a ≠ n := fun a n h => by omega
            exact ⟨n2 _ _ _ (by decide), n2 _ _ _ (by decide), n2 _ _ _ (by decide), n3 _ _ (by decide), n2 _ _ _ (by decide), n3 _ _ (by decide), n2 _ _ _ (by decide), n3 _ _ (by decide), n2 _ _ _ (by decide), n4 _ _ (by decide),
              fun a ha => ⟨nn _ _ _ (l1 a ha), nn _ _ _ (l1 a ha), n5 _ _ (l1 a ha), nn _ _ _ (l1 a ha)⟩, fun a ha => ⟨nn _ _ _ (l2 a ha), nn _ _ _ (l2 a ha), n5 _ _ (l2 a ha), nn _ _ _ (l2 a ha)⟩⟩
          · have e' : c = s1.heap.objs.size + 4 ∨ c = s1.heap.objs.size + 2 ∨ c = s1.heap.objs.size + 3 ∨ c = s1.heap.objs.size ∨ c = s1.heap.objs.size + 1 := by simpa using hcm
            have hle : s1.heap.objs.size ≤ c := by
              rcases e' with z | z | z | z | z
              · rw [z]; exact Nat.le_add_right _ _
              · rw [z]; exact Nat.le_add_right _ _
              · rw [z]; exact Nat.le_add_right _ _
              · rw [z]; exact Nat.le_refl _
              · rw [z]; exact Nat.le_add_right _ _
            exact I1.fpOk hle (I1.hok.fresh hle)
          · refine k _ H1 s1' c1 fun i H2 kp => ?_
            have b1 := a1 H2 kp
            have b2 := a2 H2 kp
            have n1 := Rp.length t1
            have n2 := Rp.length t2
            refine ⟨fun hl => ?_, fun d hd => ?_⟩
            · have z := zipD_len xs ys
              rw [← hl] at z
              refine ⟨_, _, b1, b2, ?_, ?_, ?_⟩ <;> omega
            · obtain ⟨x, y, hx, hy, rfl⟩ := zipD_get _ _ _ _ hd
              obtain ⟨x', ex, rx⟩ := t1.get hx
              obtain ⟨y', ey, ry⟩ := t2.get hy
              refine ⟨⟨_, _, x', y', b1, b2, ex, ey⟩, fun v H3 yl => ?_⟩
              obtain ⟨T, x2, y2, rfl, nT, rfl, f1, f2⟩ := yl
              have := f1 _ b1
              rw [ex] at this
              cases this
              have := f2 _ b2
              rw [ey] at this
              cases this
              have sm := same_new (o := .tup [x', y']) nT
              have kk : Kp O H1 (upd H2 T (.tup [x', y'])) := fun a u n e => sm a u (kp a u n e)
              exact ⟨sm, .tup (.inl (.inl upd_same)) (RpL.later w1 kk (.cons rx (.cons ry .nil)))⟩
end DL
namespace DL
open PySem PySem.Spec PyProof.Rows L2
set_option maxHeartbeats 1000000 in
theorem meets_enum1 {v : Value} {o : Obj} {H : Heap → Prop} (B : Begins v o H) :
    Meets (Builtin.«enumerate.__new__» ⟨[.type "enumerate", v], []⟩) (fun _ R s => H s.heap ∧
      R (.ok (.ret (.ref (s.heap.push o).objs.size))) { s with heap := (s.heap.push o).push { cls := .type "enumerate", data := .fields #[.none, .bool false, .ref s.heap.objs.size, rawInt 0, .none, .none] } }) :=
  .of_wp fun prog w A R s h => by
    obtain ⟨hp, g, d, tk, os⟩ := s; obtain ⟨h1, h⟩ := h
    have hsub := sub_enumerate
    have q1 : ∀ {A' : Around} {E : Value → Shared → Prop} {Q : Value → Shared → Prop}, Q (.ref hp.objs.size) ⟨hp.push o, g, d, tk, os⟩ → wpAny (model prog w) A' (pyIter v) Q E ⟨hp, g, d, tk, os⟩ :=
      fun q => B.iter prog w _ _ ⟨hp, g, d, tk, os⟩ _ h1 q
    wp_walk using q1
    refine wpAny_stack_any fun st => wpAny_pure ?_
    split
    · rename_i c _ _ _ _ _
      cases (c == Value.type "enumerate")
      · wp_walk using q1
        exact ⟨_, rfl, h⟩
      · wp_walk using q1
        exact ⟨_, rfl, h⟩
    · wp_walk using q1
      exact ⟨_, rfl, h⟩
section
variable {prog : Program} {w : World} {A : Around} {E : Value → Shared → Prop} {s : Shared}
theorem enum_begins1 {v : Value} {o : Obj} {H : Heap → Prop} {Q : Value → Shared → Prop} (B : Begins v o H) (h1 : H s.heap)
    (h : ∀ h', IsEnum h' (s.heap.objs.size + 1) s.heap.objs.size 0 .none → h'.get? s.heap.objs.size = some o → h'.objs.size = s.heap.objs.size + 2 →
      (∀ b o, s.heap.get? b = some o → h'.get? b = some o) → Q (.ref (s.heap.objs.size + 1)) { s with heap := h' }) :
    wpAny (model prog w) A (call (.type "enumerate") [v]) Q E s := by
  refine callType_new F.called_enumerate (by decide) (F.typeCall_enumerate_1 _) (F.newCall_enumerate_1 _) (fun obj => F.args_object_init_2 obj _) F.entry_enumerate_new
    (meets_enum1 B) ⟨h1, ?_⟩
  have hz : (s.heap.push o).objs.size = s.heap.objs.size + 1 := Heap.size_push ..
  show _ ∧ _
  rw [hz]
  have he : IsEnum ((s.heap.push o).push { cls := .type "enumerate", data := .fields #[.none, .bool false, .ref s.heap.objs.size, rawInt 0, .none, .none] }) (s.heap.objs.size + 1) s.heap.objs.size 0 .none := by
    have := Heap.get?_push_size (s.heap.push o) (o := { cls := .type "enumerate", data := .fields #[.none, .bool false, .ref s.heap.objs.size, rawInt 0, .none, .none] }) rfl
    rw [hz] at this; exact this
  refine ⟨⟨_, he, rfl⟩, h _ he (Heap.get?_push_of_some _ (Heap.get?_push_size _ B.free)) (by rw [Heap.size_push, hz]) fun b o x => Heap.get?_push_of_some _ (Heap.get?_push_of_some _ x)⟩
end
def IteM (K : PySem.W.Frag) (r : Src) : It :=
  ⟨fun i H => ∃ (xs : List V) (x : V), r.at K H xs ∧ xs[i]? = some x, fun i H v H' => ∃ T x, v = .ref T ∧ H T = none ∧ H' = upd H T (.tup [.int (i : Nat), x]) ∧ ∀ xs, r.at K H xs → xs[i]? = some x, fun i H => ∃ xs : List V, r.at K H xs ∧ xs.length = i⟩
theorem turn_enumM {P : Program} {w : World} {K : PySem.W.Frag} {elts : List Expr} {kk : Nat} {tpos : Pos} {r : Src} {e it : Addr} (hne : e ≠ it) (ha : ∀ a ∈ r.adr, a ≠ e ∧ a ≠ it) :
    Turn P w K (.Tuple elts kk tpos) (IteM K r) [e, it] e (fun i h => (∃ old, IsEnum h e it ((i : Nat) : Int) old) ∧ r.it h it i) where
  mem := by simp
  obj := fun i h st b hb => by
    obtain ⟨⟨old, he⟩, hi⟩ := st
    have e' : b = e ∨ b = it := by simpa using hb
    rcases e' with z | z
    · rw [z]; exact ⟨_, he, fun v q => nomatch q⟩
    · rw [z]; exact Src.it_obj hi
  keep := fun i h h' st k => let ⟨⟨old, he⟩, hi⟩ := st; ⟨⟨old, k e (by simp) _ he⟩, Src.it_keep hi fun o q => k it (by simp) o q⟩
  item := by
    intro X hP hw hK hc i pins s σ H E I hf st hg
    subst hP hw hK
    obtain ⟨⟨old, he⟩, hit⟩ := st
    obtain ⟨xs, x, hq, hx⟩ := hg
    obtain ⟨P1, St1, D1, st1, p1, g1⟩ := Src.draws I hc hq hit (fun a h => (ha a h).2)
    have hel : e < s.heap.objs.size := Heap.lt_size he
    have hil : it < s.heap.objs.size := by obtain ⟨_, q, _⟩ := Src.it_obj hit; exact Heap.lt_size q
    have l1 : i < xs.length := (List.getElem?_eq_some_iff.mp hx).1
    have hef : e ∉ (it :: r.adr) := fun h => (List.mem_cons.mp h).elim hne fun q => (ha _ q).1 rfl
    refine wpAny_pyNext_enum_itemD D1 he st1 l1 hne hef fun u h' tk y1 ho hit' hT hsz hk => ?_
    obtain ⟨x', ex, ru⟩ := p1 i u y1
    rw [hx] at ex
    cases ex
    refine ⟨_, rfl, wpAny_letOwnedTupleGo_enum (s := { s with heap := h', toks := tk + 1 }) ho fun h'' he' sb => ?_⟩
    have hT2 : h''.get? s.heap.objs.size = some { cls := .type "tuple", data := .seq #[.int i tk, u] } := (sb.2 _ (Nat.ne_of_gt hel)).trans hT
    have new : ObjOk X.prog X.w (upd H s.heap.objs.size (.tup [.int (i : Nat), x])) h'' s.heap.objs.size (.tup [.int (i : Nat), x]) :=
      ⟨by show 2 ≤ sizeLine; decide, [.int i tk, u], .cons ⟨_, rfl⟩ (.cons ru .nil), ⟨_, hT2, rfl, _, rfl⟩⟩
    have I1 : Inv X pins σ (upd H s.heap.objs.size (.tup [.int (i : Nat), x])) { s with heap := h'', toks := tk + 1 } :=
      I.turnedNew (ch := [e, it]) (fun b ob hb q => (sb.2 b (fun z => hb (by simp [z]))).trans (hk b ob (fun z => hb (by simp [z])) (fun z => hb (by simp [z])) q)) hf (Nat.le_refl _) new
    refine ⟨.ref s.heap.objs.size, _, I1, rfl, ⟨_, x, rfl, I.hok.fresh (Nat.le_refl _), rfl, fun ys hy => by rw [Src.at_inj I hy hq]; exact hx⟩, ⟨⟨u, ?_⟩, Src.it_keep (g1 _ _ hit') fun o q => (sb.2 it (Ne.symm hne)).trans q⟩, fun b hb => ?_⟩
    · have e1 : ((i + 1 : Nat) : Int) = (i : Int) + 1 := by omega
      rw [e1]; exact he'
    · have hb' : b < s.heap.objs.size := by
        have e' : b = e ∨ b = it := by simpa using hb
        rcases e' with z | z
        · rw [z]; exact hel
        · rw [z]; exact hil
      rw [upd_ne (Nat.ne_of_lt hb')]
      exact (hf b hb).1
  done := by
    intro X hP hw hK hc i pins s σ H E I hf st hg
    subst hP hw hK
    obtain ⟨⟨old, he⟩, hit⟩ := st
    obtain ⟨xs, hq, hx⟩ := hg
    obtain ⟨P1, St1, D1, st1, p1, g1⟩ := Src.draws I hc hq hit (fun a h => (ha a h).2)
    obtain ⟨f0, f1, f2, f3, f4, f5⟩ := hf it (by simp)
    rw [← hx] at st1
    exact wpAny_pyNext_enum_endD D1 he st1 fun h' eb => ⟨rfl, I.turned (t' := s.toks) (fun b o hb q => eb b o hb q) f0 f1 f3 f4 f5⟩
  self := fun A i s Q E st h => let ⟨⟨_, he⟩, _⟩ := st; wpAny_pyIter_enum he h
def enumD : Nat → List D → List D
  | _, [] => []
  | n, x :: xs => .tup [.int n, x] :: enumD (n + 1) xs
theorem enumD_len : ∀ (n : Nat) (xs : List D), (enumD n xs).length = xs.length
  | _, [] => rfl
  | n, x :: xs => congrArg (· + 1) (enumD_len (n + 1) xs)
theorem enumD_get : ∀ (n : Nat) (xs : List D) (i : Nat) (d : D), (enumD n xs)[i]? = some d → ∃ x, xs[i]? = some x ∧ d = .tup [.int ((n + i : Nat) : Int), x]
  | _, [], _, _, h => by simp [enumD] at h
  | n, x :: xs, 0, d, h => by cases h; exact ⟨x, rfl, rfl⟩
  | n, x :: xs, i + 1, d, h => by
    obtain ⟨y, h1, h2⟩ := enumD_get (n + 1) xs i d h
    exact ⟨y, h1, by rw [h2, show n + 1 + i = n + (i + 1) by omega]⟩
def iEnum (fs : Ea) : Ea := fun ρ S => (fs ρ S).bind fun q => match q.1 with
  | [d1] => (seqOf d1).bind fun xs => some (enumD 0 xs, q.2)
  | _ => none
theorem mi_enum {X : Cx} {e : Expr} {fs : Ea} {p pos tpos : Pos} {elts : List Expr} {kk : Nat} (hg : Gl X "enumerate") (hm : X.mg "enumerate" = none) (ha : PA X [e] (tOfA (kw X) fs))
    (hs : starEach [e] X.env = [(false, eval e X.env)] := by rfl) :
    PI X (.Tuple elts kk tpos) (.Call (.Name "enumerate" p) [e] [] pos) (tOfI (kw X) (iEnum fs)) := by
  refine ⟨fun pins s σ H R I h => ?_⟩
  obtain ⟨as, O, ρ, S, ds, S', R0, hf, k⟩ := h
  unfold iEnum at hf
  obtain ⟨⟨dd, S1⟩, h1, hf⟩ := Option.bind_eq_some_iff.mp hf
  refine Call_ (ld_blt I hg hm boot_enumerate (PyProof.Rows.callWith_type1 (thn (ha.run pos pins s σ H (fun vs H1 => Stp as H H1 ∧ Cells (kw X) as O H1 S1 ∧ RpL (kw X) as O H1 vs dd) I ⟨as, O, ρ, S, dd, S1, R0, h1, fun vs H' s c r => ⟨s, c, r⟩⟩) fun us s1 ⟨vs, H1, I1, rv, s1', c1, rr⟩ => ?_) hs rfl))
  have w1 := R0.wf.step s1' c1
  split at hf
  case h_2 => cases hf
  case h_1 d1 e =>
  obtain ⟨xs, hx, hf⟩ := Option.bind_eq_some_iff.mp hf
  cases hf
  have e : dd = [d1] := e
  subst e
  cases rr with
  | cons ra rr =>
    cases rr
    cases rv with
    | cons va rv =>
      cases rv
      obtain ⟨r1, v1, rfl, t1, a1⟩ := src_of w1 ra va hx
      have q1 := a1 H1 Kp.refl
      obtain ⟨o1, Hh1, B1, b1, g1, l1⟩ := Src.begins I1 q1
      refine enum_begins1 B1 b1 fun h' he ho hsz hk => wpAny_pyIter_enum he ?_
      have I2 : Inv X pins σ H1 { s1 with heap := h' } := I1.kept (t' := s1.toks) hk
      refine ⟨s1.heap.objs.size + 1, [s1.heap.objs.size + 1, s1.heap.objs.size], _, _, H1, rfl, I2, turn_enumM (r := r1) (it := s1.heap.objs.size) (e := s1.heap.objs.size + 1) (Nat.succ_ne_self _) (fun a ha => ⟨?_, ?_⟩), ⟨⟨.none, he⟩, g1 _ _ ho⟩, fun b hb => ?_, ?_⟩
      · exact Nat.ne_of_lt (Nat.lt_succ_of_lt (l1 a ha))
      · exact Nat.ne_of_lt (l1 a ha)
      · have e' : b = s1.heap.objs.size + 1 ∨ b = s1.heap.objs.size := by simpa using hb
        have hle : s1.heap.objs.size ≤ b := by
          rcases e' with z | z
          · rw [z]; exact Nat.le_add_right _ _
          · rw [z]; exact Nat.le_refl _
        exact I1.fpOk hle (I1.hok.fresh hle)
      · refine k _ H1 s1' c1 fun i H2 kp => ?_
        have b1 := a1 H2 kp
        have n1 := Rp.length t1
        refine ⟨fun hl => ?_, fun d hd => ?_⟩
        · have z := enumD_len 0 xs
          rw [← hl] at z
          exact ⟨_, b1, by omega⟩
        · obtain ⟨x, hx, rfl⟩ := enumD_get _ _ _ _ hd
          obtain ⟨x', ex, rx⟩ := t1.get hx
          refine ⟨⟨_, x', b1, ex⟩, fun v H3 yl => ?_⟩
          obtain ⟨T, x2, rfl, nT, rfl, f1⟩ := yl
          have := f1 _ b1
          rw [ex] at this
          cases this
          have sm := same_new (o := .tup [.int (i : Nat), x']) nT
          have kk : Kp O H1 (upd H2 T (.tup [.int (i : Nat), x'])) := fun a u n e => sm a u (kp a u n e)
          rw [Nat.zero_add]
          exact ⟨sm, .tup (.inl (.inl upd_same)) (RpL.later w1 kk (.cons (.int _) (.cons rx .nil)))⟩
def iAny (f : Ev) : Ea := fun ρ S => (f ρ S).bind fun q => (seqOf q.1).bind fun xs => some (xs, q.2)
theorem mi_any {X : Cx} {tg e : Expr} {f : Ev} (he : PE X e (tOf (kw X) f)) : PI X tg e (tOfI (kw X) (iAny f)) := by
  refine ⟨fun pins s σ H R I h => ?_⟩
  obtain ⟨as, O, ρ, S, ds, S', R0, hf, k⟩ := h
  unfold iAny at hf
  obtain ⟨⟨d, S1⟩, h1, hf⟩ := Option.bind_eq_some_iff.mp hf
  obtain ⟨xs, hx, hf⟩ := Option.bind_eq_some_iff.mp hf
  cases hf
  cases d with
  | lst ys =>
    cases hx
    refine (pi_list he).run pins s σ H R I ⟨as, O, ρ, S, _, S1, R0, h1, fun v H1 s1 c1 r1 => ?_⟩
    have w1 := R0.wf.step s1 c1
    cases r1 with
    | lst n hr t =>
      refine ⟨_, rfl, ⟨_, .inl (.inl hr)⟩, k _ H1 s1 c1 fun i H2 kp => ?_⟩
      have q : SqL (kw X) H2 _ _ := .inl (.inl (kp _ _ n hr))
      refine ⟨fun e => ⟨_, q, by rw [e, Rp.length t]; exact Nat.le_refl _⟩, fun d hd => ?_⟩
      obtain ⟨v, ev, rv⟩ := t.get hd
      refine ⟨⟨_, v, q, ev⟩, fun x H3 y => ?_⟩
      obtain ⟨rfl, f⟩ := y
      have := f _ q
      rw [ev] at this
      cases this
      exact ⟨Same.refl _, Rp.kp (op_nt w1) (op_kp kp) _ _ rv.op⟩
  | tup ys =>
    cases hx
    refine (pi_tup he).run pins s σ H R I ⟨as, O, ρ, S, _, S1, R0, h1, fun v H1 s1 c1 r1 => ?_⟩
    have w1 := R0.wf.step s1 c1
    cases r1 with
    | tup hr t =>
      refine ⟨_, rfl, ⟨_, hr⟩, k _ H1 s1 c1 fun i H2 kp => ?_⟩
      have q : SqT (kw X) H2 _ _ := kp.sqT w1.nt hr
      refine ⟨fun e => ⟨_, q, by rw [e, Rp.length t]; exact Nat.le_refl _⟩, fun d hd => ?_⟩
      obtain ⟨v, ev, rv⟩ := t.get hd
      refine ⟨⟨_, v, q, ev⟩, fun x H3 y => ?_⟩
      obtain ⟨rfl, f⟩ := y
      have := f _ q
      rw [ev] at this
      cases this
      exact ⟨Same.refl _, Rp.kp (op_nt w1) (op_kp kp) _ _ rv.op⟩
  | str x =>
    cases hx
    refine (pi_str he).run pins s σ H R I ⟨as, O, ρ, S, _, S1, R0, h1, fun v H1 s1 c1 r1 => ?_⟩
    cases r1
    refine ⟨x, rfl, k _ H1 s1 c1 fun i H2 kp => ⟨fun e => ?_, fun d hd => ?_⟩⟩
    · show x.cps.size ≤ i
      rw [e]
      simp
    · rw [List.getElem?_map] at hd
      cases q : x.cps.toList[i]? with
      | none => rw [q] at hd; cases hd
      | some c =>
        rw [q] at hd
        cases hd
        have hlt : i < x.cps.size := by simpa using (List.getElem?_eq_some_iff.mp q).1
        refine ⟨hlt, fun v H3 y => ?_⟩
        obtain ⟨rfl, c', e1, rfl⟩ := y
        have : x.cps.toList[i]? = some c' := by simpa using e1
        rw [q] at this
        cases this
        exact ⟨Same.refl _, .str _⟩
  | _ => cases hx
def inWord (i : Int) : Bool := decide (-4611686018427387904 ≤ i) && decide (i < 4611686018427387904)
def rangeD (lo hi : Int) : List D := (List.range (hi - lo).toNat).map fun k => .int (lo + (k : Nat))
def iRange1 (fs : Ea) : Ea := fun ρ S => (fs ρ S).bind fun q => match q.1 with
  | [.int j] => if inWord j = true then some (rangeD 0 j, q.2) else none
  | _ => none
def iRange2 (fs : Ea) : Ea := fun ρ S => (fs ρ S).bind fun q => match q.1 with
  | [.int i, .int j] => if (inWord i && inWord j) = true then some (rangeD i j, q.2) else none
  | _ => none
theorem rangeD_len (lo hi : Int) : (rangeD lo hi).length = (hi - lo).toNat := by simp [rangeD]
theorem rangeD_get {lo hi : Int} {i : Nat} {d : D} (h : (rangeD lo hi)[i]? = some d) : i < (hi - lo).toNat ∧ d = .int (lo + (i : Nat)) := by
  unfold rangeD at h
  rw [List.getElem?_map] at h
  by_cases hi' : i < (hi - lo).toNat
  · rw [List.getElem?_range hi'] at h
    cases h
    exact ⟨hi', rfl⟩
  · rw [List.getElem?_eq_none (by simpa using hi')] at h
    cases h
theorem walk_range {K : KW} {as : List Addr} {O : Addr → Prop} {lo hi : Int} {H1 : Hp} : Walk K as O (Itr lo (hi - lo).toNat) H1 (rangeD lo hi) := fun i H2 kp => by
  refine ⟨fun e => ?_, fun d hd => ?_⟩
  · show (hi - lo).toNat ≤ i
    rw [e, rangeD_len]
    exact Nat.le_refl _
  · obtain ⟨h, rfl⟩ := rangeD_get hd
    refine ⟨h, fun x H3 y => ?_⟩
    obtain ⟨rfl, rfl⟩ := y
    exact ⟨Same.refl _, .int _⟩
theorem mi_range1 {X : Cx} {tg a : Expr} {fs : Ea} {p pos : Pos} (hg : Gl X "range") (hm : X.mg "range" = none) (ha : PA X [a] (tOfA (kw X) fs)) (hs : starEach [a] X.env = [(false, eval a X.env)] := by rfl) :
    PI X tg (.Call (.Name "range" p) [a] [] pos) (tOfI (kw X) (iRange1 fs)) := by
  refine ⟨fun pins s σ H R I h => ?_⟩
  obtain ⟨as, O, ρ, S, ds, S', R0, hf, k⟩ := h
  unfold iRange1 at hf
  obtain ⟨⟨dd, S1⟩, h1, hf⟩ := Option.bind_eq_some_iff.mp hf
  refine (pi_range1 hg hm ha hs).run pins s σ H R I ⟨as, O, ρ, S, dd, S1, R0, h1, fun vs H1 s1 c1 r1 => ?_⟩
  split at hf
  · rename_i j e
    have e : dd = [.int j] := e
    subst e
    split at hf
    · rename_i hw
      cases hf
      cases r1 with
      | cons ra rr =>
        cases rr
        cases ra
        unfold inWord at hw
        simp only [Bool.and_eq_true, decide_eq_true_eq] at hw
        refine ⟨j, rfl, by omega, by omega, ?_⟩
        have q := k (Itr 0 (j - 0).toNat) H1 s1 c1 walk_range
        rw [Int.sub_zero] at q
        exact q
    · cases hf
  · cases hf
theorem mi_range2 {X : Cx} {tg a b : Expr} {fs : Ea} {p pos : Pos} (hg : Gl X "range") (hm : X.mg "range" = none) (ha : PA X [a, b] (tOfA (kw X) fs)) (hs : starEach [a, b] X.env = [(false, eval a X.env), (false, eval b X.env)] := by rfl) (hs2 : starEach [b] X.env = [(false, eval b X.env)] := by rfl) :
    PI X tg (.Call (.Name "range" p) [a, b] [] pos) (tOfI (kw X) (iRange2 fs)) := by
  refine ⟨fun pins s σ H R I h => ?_⟩
  obtain ⟨as, O, ρ, S, ds, S', R0, hf, k⟩ := h
  unfold iRange2 at hf
  obtain ⟨⟨dd, S1⟩, h1, hf⟩ := Option.bind_eq_some_iff.mp hf
  refine (pi_range2 hg hm ha hs hs2).run pins s σ H R I ⟨as, O, ρ, S, dd, S1, R0, h1, fun vs H1 s1 c1 r1 => ?_⟩
  split at hf
  · rename_i i j e
    have e : dd = [.int i, .int j] := e
    subst e
    split at hf
    · rename_i hw
      cases hf
      cases r1 with
      | cons ra rr =>
        cases rr with
        | cons rb rr =>
          cases rr
          cases ra
          cases rb
          unfold inWord at hw
          simp only [Bool.and_eq_true, decide_eq_true_eq] at hw
          exact ⟨i, j, rfl, ⟨by omega, by omega, by omega, by omega⟩, k (Itr i (j - i).toNat) H1 s1 c1 walk_range⟩
    · cases hf
  · cases hf
end DL
namespace DL
open PySem PySem.Spec PyProof.Rows L2
section
variable {K : KW} {as : List Addr} {O : Addr → Prop} {H : Hp} {v : V}
theorem RpB.int {i : Int} (r : RpB K as O H v (.int i)) : v = .int i := by
  rcases r with r | ⟨a, _, _, c⟩
  · cases r; rfl
  · cases c
theorem RpB.bl {i : Bool} (r : RpB K as O H v (.bl i)) : v = .bl i := by
  rcases r with r | ⟨a, _, _, c⟩
  · cases r; rfl
  · cases c
theorem RpB.non (r : RpB K as O H v .non) : v = .non := by
  rcases r with r | ⟨a, _, _, c⟩
  · cases r; rfl
  · cases c
theorem RpB.str {x : Str} (r : RpB K as O H v (.str x)) : v = .str x := by
  rcases r with r | ⟨a, _, _, c⟩
  · cases r; rfl
  · cases c
theorem RpB.tup {xs : List D} (r : RpB K as O H v (.tup xs)) : ∃ a vs, v = .ref a ∧ SqT K H a vs ∧ RpL K as O H vs xs := by
  rcases r with r | ⟨a, _, _, c⟩
  · cases r with
    | tup h t => exact ⟨_, _, rfl, h, t⟩
  · cases c
theorem RpB.lst {xs : List D} (r : RpB K as O H v (.lst xs)) : ∃ a vs, v = .ref a ∧ H a = some (.lst vs) ∧ RpL K as O H vs xs := by
  rcases r with r | ⟨a, e, _, c⟩
  · cases r with
    | lst _ h t => exact ⟨_, _, rfl, h, t⟩
  · cases c with
    | lst h t => exact ⟨a, _, e, h, t⟩
end
def Big : Nat := 2 ^ 8000
def wide (i : Int) : Bool := decide (i.natAbs < Big)
def dAdd : D → D → Option D
  | .int i, .int j => some (.int (i + j))
  | .str x, .str y => if x.length + y.length ≤ 16777216 then some (.str (x ++ y)) else none
  | .tup xs, .tup ys => if xs.length + ys.length ≤ 16777216 then some (.tup (xs ++ ys)) else none
  | .lst xs, .lst ys => if xs.length + ys.length ≤ 16777216 then some (.lst (xs ++ ys)) else none
  | _, _ => none
def dSub : D → D → Option D
  | .int i, .int j => some (.int (i - j))
  | _, _ => none
def small (i : Int) : Bool := decide (i.natAbs < 18446744073709551616)
def dMul : D → D → Option D
  | .int i, .int j => if (small i || small j || (wide i && wide j)) = true then some (.int (i * j)) else none
  | _, _ => none
def dDiv : D → D → Option D
  | .int i, .int j => if (decide (0 < j) && wide j) = true then some (.int (i / j)) else if (decide (j ≠ 0) && decide (j.natAbs < 1073741824)) = true then some (.int (i.fdiv j)) else none
  | _, _ => none
def dMod : D → D → Option D
  | .int i, .int j => if j = 0 then none else some (.int (i.fmod j))
  | _, _ => none
def dPow : D → D → Option D
  | .int i, .int j => if (decide (0 ≤ j) && decide (j ≤ 1000) && decide (i.natAbs < 18446744073709551616)) = true then some (.int (i ^ j.toNat)) else none
  | _, _ => none
def dNeg : D → Option D
  | .int i => some (.int (-i))
  | _ => none
theorem wide_ok {i : Int} (h : wide i = true) : i.natAbs < 2 ^ 8000 := of_decide_eq_true h
section
variable {X : Cx}
theorem rpL_nil_iff {K : KW} {as : List Addr} {O : Addr → Prop} {H : Hp} {vs : List V} {ds : List D} (r : RpL K as O H vs ds) : vs = [] ↔ ds = [] := by
  cases r with
  | nil => exact ⟨fun _ => rfl, fun _ => rfl⟩
  | cons _ _ => exact ⟨fun h => (nomatch h), fun h => (nomatch h)⟩
theorem od_add : OpR X (binaryOp .Add) (r2D (kw X) dAdd) := by
  intro pins s σ H x y v u Q I rx ry h
  obtain ⟨as, O, d, e, r, w, rd, re, hg, k⟩ := h
  unfold dAdd at hg
  split at hg
  · cases hg
    rw [rd.int] at rx
    rw [re.int] at ry
    exact op_add pins s σ H _ _ v u Q I rx ry ⟨_, _, rfl, rfl, k _ H (Same.refl H) (.int _)⟩
  · split at hg
    · rename_i hl
      cases hg
      rw [rd.str] at rx
      rw [re.str] at ry
      exact op_add_str pins s σ H _ _ v u Q I rx ry ⟨_, _, rfl, rfl, by rw [sizeLine_16]; exact hl, k _ H (Same.refl H) (.str _)⟩
    · cases hg
  · split at hg
    · rename_i hl
      cases hg
      obtain ⟨a, vs, rfl, h1, t1⟩ := rd.tup
      obtain ⟨b, ws, rfl, h2, t2⟩ := re.tup
      refine op_catA pins s σ H _ _ v u Q I rx ry ⟨a, b, vs, ws, rfl, rfl, h1, h2, by rw [sizeLine_16, Rp.length t1, Rp.length t2]; exact hl, fun e => ?_, fun ne e => ?_, fun ne ne2 p hp => ?_⟩
      · have e' := (rpL_nil_iff t1).mp e
        subst e'
        exact k _ H (Same.refl H) (.tup h2 t2)
      · have e' := (rpL_nil_iff t2).mp e
        subst e'
        exact k _ H (Same.refl H) (.tup h1 (by rw [List.append_nil]; exact t1))
      · have sm := same_new (o := .tup (vs ++ ws)) hp
        exact k _ _ sm (.tup (.inl (.inl upd_same)) ((t1.append t2).stp w (Same.stp sm)))
    · cases hg
  · split at hg
    · rename_i hl
      cases hg
      obtain ⟨a, vs, rfl, h1, t1⟩ := rd.lst
      obtain ⟨b, ws, rfl, h2, t2⟩ := re.lst
      refine op_cat pins s σ H _ _ v u Q I rx ry ⟨a, b, vs, ws, rfl, rfl, h1, h2, by rw [sizeLine_16, Rp.length t1, Rp.length t2]; exact hl, fun p hp => ?_⟩
      have sm := same_new (o := .lst (vs ++ ws)) hp
      exact k _ _ sm (.lst (w.nel hp) upd_same ((t1.append t2).stp w (Same.stp sm)))
    · cases hg
  · cases hg
theorem od_int {f : Value → Value → Sem Value} {g : D → D → Option D} {C : Int → Int → Prop} {h : Int → Int → V} (ho : OpR X f (rI C h)) (hd : ∀ d e r, g d e = some r → ∃ i j, d = .int i ∧ e = .int j ∧ C i j ∧ (∀ as O H, Rp (kw X) as O H (h i j) r)) : OpR X f (r2D (kw X) g) := by
  intro pins s σ H x y v u Q I rx ry q
  obtain ⟨as, O, d, e, r, w, rd, re, hg, k⟩ := q
  obtain ⟨i, j, rfl, rfl, c, rr⟩ := hd d e r hg
  rw [rd.int] at rx
  rw [re.int] at ry
  exact ho pins s σ H _ _ v u Q I rx ry ⟨i, j, rfl, rfl, c, k _ H (Same.refl H) (rr _ _ _)⟩
theorem od_int0 {f : Value → Value → Sem Value} {g : D → D → Option D} {h : Int → Int → V} (ho : OpR X f (rI0 h)) (hd : ∀ d e r, g d e = some r → ∃ i j, d = .int i ∧ e = .int j ∧ (∀ as O H, Rp (kw X) as O H (h i j) r)) : OpR X f (r2D (kw X) g) := by
  intro pins s σ H x y v u Q I rx ry q
  obtain ⟨as, O, d, e, r, w, rd, re, hg, k⟩ := q
  obtain ⟨i, j, rfl, rfl, rr⟩ := hd d e r hg
  rw [rd.int] at rx
  rw [re.int] at ry
  exact ho pins s σ H _ _ v u Q I rx ry ⟨i, j, rfl, rfl, k _ H (Same.refl H) (rr _ _ _)⟩
theorem od_sub : OpR X (binaryOp .Sub) (r2D (kw X) dSub) := od_int0 op_sub fun d e r h => by
  unfold dSub at h
  split at h
  · cases h; exact ⟨_, _, rfl, rfl, fun _ _ _ => .int _⟩
  · cases h
theorem od_mul : OpR X (binaryOp .Mult) (r2D (kw X) dMul) := by
  have ho : OpR X (binaryOp .Mult) (rI (fun i j => IntMulOk i j) fun i j => .int (i * j)) := opI fun _ _ _ _ _ _ _ hc q => mul_int q hc
  refine od_int ho fun d e r h => ?_
  unfold dMul at h
  split at h
  · split at h
    · rename_i i j hw
      cases h
      refine ⟨_, _, rfl, rfl, ?_, fun _ _ _ => .int _⟩
      rw [Bool.or_eq_true, Bool.or_eq_true, Bool.and_eq_true] at hw
      rcases hw with (hw | hw) | hw
      · have := of_decide_eq_true hw
        exact .of_left (intBits_le_64 (by omega) (by omega))
      · have := of_decide_eq_true hw
        exact .of_right (intBits_le_64 (by omega) (by omega))
      · exact CMulW.ok (wide_mul (wide_ok hw.1) (wide_ok hw.2) (by decide) (by decide) (by decide))
    · cases h
  · cases h
theorem od_div : OpR X (binaryOp .FloorDiv) (r2D (kw X) dDiv) := by
  intro pins s σ H x y v u Q I rx ry q
  obtain ⟨as, O, d, e, r, w, rd, re, hg, k⟩ := q
  unfold dDiv at hg
  split at hg
  · rename_i i j
    rw [rd.int] at rx
    rw [re.int] at ry
    split at hg
    · rename_i hw
      cases hg
      rw [Bool.and_eq_true] at hw
      exact op_fdivW pins s σ H _ _ v u Q I rx ry ⟨_, _, rfl, rfl, wide_div (of_decide_eq_true hw.1) (wide_ok hw.2) (by decide) (by decide), k _ H (Same.refl H) (.int _)⟩
    · split at hg
      · rename_i hw
        cases hg
        rw [Bool.and_eq_true] at hw
        exact op_fdivN pins s σ H _ _ v u Q I rx ry ⟨_, _, rfl, rfl, ⟨of_decide_eq_true hw.1, of_decide_eq_true hw.2⟩, k _ H (Same.refl H) (.int _)⟩
      · cases hg
  · cases hg
theorem od_mod : OpR X (binaryOp .Mod) (r2D (kw X) dMod) := od_int op_modN fun d e r h => by
  unfold dMod at h
  split at h
  · split at h
    · cases h
    · rename_i hj
      cases h
      exact ⟨_, _, rfl, rfl, hj, fun _ _ _ => .int _⟩
  · cases h
theorem od_pow : OpR X (binaryOp .Pow) (r2D (kw X) dPow) := od_int op_pow fun d e r h => by
  unfold dPow at h
  split at h
  · split at h
    · rename_i i j hw
      cases h
      simp only [Bool.and_eq_true, decide_eq_true_eq] at hw
      exact ⟨_, _, rfl, rfl, ⟨hw.1.1, by omega, hw.2⟩, fun _ _ _ => .int _⟩
    · cases h
  · cases h
theorem ud_neg : UnR X (unaryOp .USub) (r1D (kw X) dNeg) := by
  intro pins s σ H x v Q I rx q
  obtain ⟨as, O, d, r, w, rd, hg, k⟩ := q
  unfold dNeg at hg
  split at hg
  · cases hg
    rw [rd.int] at rx
    exact un_neg pins s σ H _ v Q I rx ⟨_, rfl, k _ H (Same.refl H) (.int _)⟩
  · cases hg
def dCmp (p : Int → Int → Bool) : D → D → Option D
  | .int i, .int j => some (.bl (p i j))
  | _, _ => none
theorem dCmp_int {p : Int → Int → Bool} {d e r : D} (h : dCmp p d e = some r) : ∃ i j, d = .int i ∧ e = .int j ∧ r = .bl (p i j) := by
  unfold dCmp at h
  split at h
  · cases h; exact ⟨_, _, rfl, rfl, rfl⟩
  · cases h
abbrev dLt := dCmp fun i j => decide (i < j)
abbrev dLe := dCmp fun i j => decide (i ≤ j)
abbrev dGt := dCmp fun i j => decide (j < i)
abbrev dGe := dCmp fun i j => decide (j ≤ i)
theorem od_lt : OpR X (compareOp .Lt) (r2D (kw X) dLt) := od_int0 op_lt fun d e r h => by
  obtain ⟨i, j, rfl, rfl, rfl⟩ := dCmp_int h
  exact ⟨i, j, rfl, rfl, fun _ _ _ => .bl _⟩
theorem od_le : OpR X (compareOp .LtE) (r2D (kw X) dLe) := od_int0 op_le fun d e r h => by
  obtain ⟨i, j, rfl, rfl, rfl⟩ := dCmp_int h
  exact ⟨i, j, rfl, rfl, fun _ _ _ => .bl _⟩
theorem od_gt : OpR X (compareOp .Gt) (r2D (kw X) dGt) := od_int0 op_gt fun d e r h => by
  obtain ⟨i, j, rfl, rfl, rfl⟩ := dCmp_int h
  exact ⟨i, j, rfl, rfl, fun _ _ _ => .bl _⟩
theorem od_ge : OpR X (compareOp .GtE) (r2D (kw X) dGe) := od_int0 op_ge fun d e r h => by
  obtain ⟨i, j, rfl, rfl, rfl⟩ := dCmp_int h
  exact ⟨i, j, rfl, rfl, fun _ _ _ => .bl _⟩
def isNonD : D → Bool
  | .non => true
  | _ => false
def dIsN : D → D → Option D
  | d, .non => some (.bl (isNonD d))
  | _, _ => none
def dNotN : D → D → Option D
  | d, .non => some (.bl (!isNonD d))
  | _, _ => none
theorem rp_non {K : KW} {as : List Addr} {O : Addr → Prop} {H : Hp} {x : V} {d : D} (r : RpB K as O H x d) : decide (x = .non) = isNonD d := by
  rcases r with r | ⟨a, e, _, c⟩
  · cases r <;> rfl
  · subst e
    cases c <;> rfl
theorem od_isN : OpR X (compareOp .Is) (r2D (kw X) dIsN) := by
  intro pins s σ H x y v u Q I rx ry q
  obtain ⟨as, O, d, e, r, w, rd, re, hg, k⟩ := q
  unfold dIsN at hg
  split at hg
  · cases hg
    rw [re.non] at ry
    exact op_isN pins s σ H _ _ v u Q I rx ry ⟨rfl, by rw [rp_non rd]; exact k _ H (Same.refl H) (.bl _)⟩
  · cases hg
theorem od_notN : OpR X (compareOp .IsNot) (r2D (kw X) dNotN) := by
  intro pins s σ H x y v u Q I rx ry q
  obtain ⟨as, O, d, e, r, w, rd, re, hg, k⟩ := q
  unfold dNotN at hg
  split at hg
  · rename_i d
    cases hg
    rw [re.non] at ry
    refine op_notN pins s σ H _ _ v u Q I rx ry ⟨rfl, ?_⟩
    rw [rp_non rd]
    exact k _ H (Same.refl H) (.bl _)
  · cases hg
mutual
def py : D → PyData
  | .non => .none
  | .bl b => .bool b
  | .int i => .int i
  | .str x => .str x
  | .tup xs => .tuple (pyL xs)
  | .lst xs => .list (pyL xs)
  | .obj _ => .none
  | .dct _ => .none
  | .kd _ => .none
  | .scr _ => .none
def pyL : List D → List PyData
  | [] => []
  | x :: xs => py x :: pyL xs
end
mutual
def okD : Nat → D → Bool
  | _, .non => true
  | _, .bl _ => true
  | _, .int _ => true
  | _, .str x => PyData.strOk x
  | n + 1, .tup xs => okL n xs
  | n + 1, .lst xs => okL n xs
  | _, _ => false
def okL : Nat → List D → Bool
  | _, [] => true
  | n, x :: xs => okD n x && okL n xs
end
mutual
def eqD : D → D → Bool
  | .non, .non => true
  | .bl a, .bl b => a == b
  | .bl a, .int j => (if a then 1 else 0) == j
  | .int i, .bl b => i == (if b then 1 else 0)
  | .int i, .int j => i == j
  | .str x, .str y => x == y
  | .lst xs, .lst ys => eqL xs ys
  | .tup xs, .tup ys => eqL xs ys
  | _, _ => false
def eqL : List D → List D → Bool
  | [], [] => true
  | x :: xs, y :: ys => eqD x y && eqL xs ys
  | _, _ => false
end
mutual
theorem ok_lay : ∀ (n : Nat) (d : D), okD n d = true → (py d).canLay0 = true ∧ (py d).depth ≤ n
  | _, .non, _ => ⟨by simp [py, PyData.canLay0], by simp [py, PyData.depth]⟩
  | _, .bl _, _ => ⟨by simp [py, PyData.canLay0], by simp [py, PyData.depth]⟩
  | _, .int _, _ => ⟨by simp [py, PyData.canLay0], by simp [py, PyData.depth]⟩
  | _, .str x, h => ⟨by simpa [py, PyData.canLay0, okD] using h, by simp [py, PyData.depth]⟩
  | n + 1, .tup xs, h => by
    have q := ok_layL n xs (by simpa [okD] using h)
    refine ⟨by simpa [py, PyData.canLay0] using q.1, ?_⟩
    have := q.2
    simp only [py, PyData.depth]
    omega
  | n + 1, .lst xs, h => by
    have q := ok_layL n xs (by simpa [okD] using h)
    refine ⟨by simpa [py, PyData.canLay0] using q.1, ?_⟩
    have := q.2
    simp only [py, PyData.depth]
    omega
  | 0, .tup _, h => by simp [okD] at h
  | 0, .lst _, h => by simp [okD] at h
  | _, .obj _, h => by simp [okD] at h
  | _, .dct _, h => by simp [okD] at h
  | _, .kd _, h => by simp [okD] at h
  | _, .scr _, h => by simp [okD] at h
theorem ok_layL : ∀ (n : Nat) (ds : List D), okL n ds = true → PyData.canLayAll0 (pyL ds) = true ∧ PyData.depthAll (pyL ds) ≤ n
  | _, [], _ => ⟨by simp [pyL, PyData.canLayAll0], by simp [pyL, PyData.depthAll]⟩
  | n, x :: xs, h => by
    have h' : okD n x = true ∧ okL n xs = true := by simpa [okL] using h
    have a := ok_lay n x h'.1
    have b := ok_layL n xs h'.2
    refine ⟨by simp [pyL, PyData.canLayAll0, a.1, b.1], ?_⟩
    simp only [pyL, PyData.depthAll]
    have := a.2
    have := b.2
    omega
end
mutual
theorem eq_py : ∀ (n : Nat) (d e : D), okD n d = true → okD n e = true → PyData.eqv (py d) (py e) = eqD d e
  | _, .non, .non, _, _ | _, .non, .bl _, _, _ | _, .non, .int _, _, _ | _, .non, .str _, _, _ | _, .non, .tup _, _, _ | _, .non, .lst _, _, _ => by simp [py, PyData.eqv, eqD]
  | _, .bl _, .non, _, _ | _, .bl _, .bl _, _, _ | _, .bl _, .int _, _, _ | _, .bl _, .str _, _, _ | _, .bl _, .tup _, _, _ | _, .bl _, .lst _, _, _ => by simp [py, PyData.eqv, eqD]
  | _, .int _, .non, _, _ | _, .int _, .bl _, _, _ | _, .int _, .int _, _, _ | _, .int _, .str _, _, _ | _, .int _, .tup _, _, _ | _, .int _, .lst _, _, _ => by simp [py, PyData.eqv, eqD]
  | _, .str _, .non, _, _ | _, .str _, .bl _, _, _ | _, .str _, .int _, _, _ | _, .str _, .str _, _, _ | _, .str _, .tup _, _, _ | _, .str _, .lst _, _, _ => by simp [py, PyData.eqv, eqD]
  | _, .tup _, .non, _, _ | _, .tup _, .bl _, _, _ | _, .tup _, .int _, _, _ | _, .tup _, .str _, _, _ | _, .tup _, .lst _, _, _ => by simp [py, PyData.eqv, eqD]
  | _, .lst _, .non, _, _ | _, .lst _, .bl _, _, _ | _, .lst _, .int _, _, _ | _, .lst _, .str _, _, _ | _, .lst _, .tup _, _, _ => by simp [py, PyData.eqv, eqD]
  | n + 1, .tup xs, .tup ys, h, h' => by
    simp only [py, PyData.eqv, eqD]
    exact eq_pyL n xs ys (by simpa [okD] using h) (by simpa [okD] using h')
  | n + 1, .lst xs, .lst ys, h, h' => by
    simp only [py, PyData.eqv, eqD]
    exact eq_pyL n xs ys (by simpa [okD] using h) (by simpa [okD] using h')
  | 0, .tup _, _, h, _ | 0, .lst _, _, h, _ => by simp [okD] at h
  | _, .obj _, _, h, _ | _, .dct _, _, h, _ | _, .kd _, _, h, _ | _, .scr _, _, h, _ => by simp [okD] at h
  | _, _, .obj _, _, h | _, _, .dct _, _, h | _, _, .kd _, _, h | _, _, .scr _, _, h => by simp [okD] at h
theorem eq_pyL : ∀ (n : Nat) (d e : List D), okL n d = true → okL n e = true → PyData.eqvAll (pyL d) (pyL e) = eqL d e
  | _, [], [], _, _ | _, [], _ :: _, _, _ | _, _ :: _, [], _, _ => by simp [pyL, PyData.eqvAll, eqL]
  | n, x :: xs, y :: ys, h, h' => by
    have a : okD n x = true ∧ okL n xs = true := by simpa [okL] using h
    have b : okD n y = true ∧ okL n ys = true := by simpa [okL] using h'
    simp only [pyL, PyData.eqvAll, eqL]
    rw [eq_py n x y a.1 b.1, eq_pyL n xs ys a.2 b.2]
end
theorem ok_shaped {n : Nat} (hn : n ≤ 64) {d : D} (h : okD n d = true) : SeqAt.shaped (py d) = true := by
  have q := ok_lay n d h
  unfold SeqAt.shaped
  rw [q.1, Bool.true_and, decide_eq_true_eq]
  omega
section
variable {K : KW} {as : List Addr} {O : Addr → Prop} {H : Hp}
mutual
theorem Rp.dp : ∀ (n : Nat) (v : V) (d : D), okD n d = true → Rp K as O H v d → Dp K H v (py d)
  | _, _, .non, _, .non => by simpa [py] using Dp.non
  | _, _, .bl b, _, .bl _ => by simpa [py] using Dp.bl b
  | _, _, .int b, _, .int _ => by simpa [py] using Dp.int b
  | _, _, .str b, _, .str _ => by simpa [py] using Dp.str b
  | n + 1, _, .tup xs, h, .tup q t => by
    simp only [py]
    exact .tup q (RpL.dp n _ _ (by simpa [okD] using h) t)
  | n + 1, _, .lst xs, h, .lst _ q t => by
    simp only [py]
    exact .lst (.inl (.inl q)) (RpL.dp n _ _ (by simpa [okD] using h) t)
  | 0, _, .tup _, h, _ => by simp [okD] at h
  | 0, _, .lst _, h, _ => by simp [okD] at h
  | _, _, .obj _, h, _ => by simp [okD] at h
  | _, _, .dct _, h, _ => by simp [okD] at h
  | _, _, .kd _, h, _ => by simp [okD] at h
  | _, _, .scr _, h, _ => by simp [okD] at h
theorem RpL.dp : ∀ (n : Nat) (v : List V) (d : List D), okL n d = true → RpL K as O H v d → DpAll K H v (pyL d)
  | _, _, [], _, .nil => by simpa [pyL] using DpAll.nil
  | n, _, x :: xs, h, .cons r t => by
    have a : okD n x = true ∧ okL n xs = true := by simpa [okL] using h
    simp only [pyL]
    exact .cons (Rp.dp n _ _ a.1 r) (RpL.dp n _ _ a.2 t)
end
theorem RpB.dp {n : Nat} {v : V} {d : D} (h : okD n d = true) (r : RpB K as O H v d) : Dp K H v (py d) := by
  rcases r with r | ⟨a, e, _, c⟩
  · exact r.dp n _ _ h
  · subst e
    cases c with
    | lst q t =>
      cases n with
      | zero => simp [okD] at h
      | succ n =>
        simp only [py]
        exact .lst (.inl (.inl q)) (RpL.dp n _ _ (by simpa [okD] using h) t)
    | dct _ _ _ _ _ => simp [okD] at h
    | kd _ _ _ => simp [okD] at h
end
def dEq : D → D → Option D := fun d e => if (okD 60 d && okD 60 e) = true then some (.bl (eqD d e)) else none
def dNe : D → D → Option D := fun d e => if (okD 60 d && okD 60 e) = true then some (.bl (!eqD d e)) else none
theorem od_eq (hu : X.A.units + 64 < cLine) : OpR X (compareOp .Eq) (r2D (kw X) dEq) := by
  intro pins s σ H x y v u Q I rx ry q
  obtain ⟨as, O, d, e, r, w, rd, re, hg, k⟩ := q
  unfold dEq at hg
  split at hg
  · rename_i hk
    cases hg
    rw [Bool.and_eq_true] at hk
    exact op_eqD hu pins s σ H _ _ v u Q I rx ry ⟨_, _, rd.dp hk.1, re.dp hk.2, ok_shaped (by decide) hk.1, ok_shaped (by decide) hk.2, by rw [eq_py 60 _ _ hk.1 hk.2]; exact k _ H (Same.refl H) (.bl _)⟩
  · cases hg
theorem od_ne (hu : X.A.units + 64 < cLine) : OpR X (compareOp .NotEq) (r2D (kw X) dNe) := by
  intro pins s σ H x y v u Q I rx ry q
  obtain ⟨as, O, d, e, r, w, rd, re, hg, k⟩ := q
  unfold dNe at hg
  split at hg
  · rename_i hk
    cases hg
    rw [Bool.and_eq_true] at hk
    exact op_neD hu pins s σ H _ _ v u Q I rx ry ⟨_, _, rd.dp hk.1, re.dp hk.2, ok_shaped (by decide) hk.1, ok_shaped (by decide) hk.2, by rw [eq_py 60 _ _ hk.1 hk.2]; exact k _ H (Same.refl H) (.bl _)⟩
  · cases hg
def allInt : List D → Bool
  | [] => true
  | .int _ :: xs => allInt xs
  | _ => false
def inI (i : Int) : List D → Bool
  | [] => false
  | .int j :: xs => (j == i) || inI i xs
  | _ :: xs => inI i xs
def inL (d : D) : List D → Bool
  | [] => false
  | x :: xs => eqD x d || inL d xs
def inB : D → D → Option Bool
  | d, .lst xs => if (okD 60 d && okL 60 xs) = true then some (inL d xs) else none
  | .int i, .tup xs => if allInt xs = true then some (inI i xs) else none
  | .str x, .str y => match x.cps.toList with
    | [c] => some (decide (c ∈ y.cps.toList))
    | _ => none
  | _, _ => none
def dIn : D → D → Option D := fun d e => (inB d e).bind fun b => some (.bl b)
def dNi : D → D → Option D := fun d e => (inB d e).bind fun b => some (.bl (!b))
theorem inL_py {n : Nat} {d : D} (h : okD n d = true) : ∀ (xs : List D), okL n xs = true → ((pyL xs).any fun z => PyData.eqv z (py d)) = inL d xs
  | [], _ => by simp [pyL, inL]
  | x :: xs, h' => by
    have a : okD n x = true ∧ okL n xs = true := by simpa [okL] using h'
    simp only [pyL, List.any_cons, inL]
    rw [eq_py n x d a.1 h, inL_py h xs a.2]
theorem inI_v {K : KW} {as : List Addr} {O : Addr → Prop} {H : Hp} {i : Int} : ∀ {vs : List V} {xs : List D}, allInt xs = true → RpL K as O H vs xs → inV (.int i) vs = inI i xs ∧ vs.all flatV = true
  | _, [], _, .nil => ⟨rfl, rfl⟩
  | _, .int j :: xs, h, .cons r t => by
    have q := inI_v (i := i) (xs := xs) (by simpa [allInt] using h) t
    cases r
    refine ⟨?_, ?_⟩
    · have q1 := q.1
      unfold inV at q1 ⊢
      rw [List.any_cons, q1, inI]
      rfl
    · rw [List.all_cons, q.2]; rfl
  | _, .non :: _, h, _ | _, .bl _ :: _, h, _ | _, .str _ :: _, h, _ | _, .tup _ :: _, h, _ | _, .lst _ :: _, h, _ | _, .obj _ :: _, h, _ | _, .dct _ :: _, h, _ | _, .kd _ :: _, h, _ | _, .scr _ :: _, h, _ => by simp [allInt] at h
theorem str_eq1 {x : Str} {c : Nat} (h : x.cps.toList = [c]) : x = ⟨#[c]⟩ := by
  obtain ⟨a⟩ := x
  have : a = #[c] := by rw [← Array.toArray_toList (xs := a)]; simp only at h; rw [h]
  rw [this]
theorem od_in (hu : X.A.units + 65 < cLine) : OpR X (compareOp .In) (r2D (kw X) dIn) := by
  intro pins s σ H x y v u Q I rx ry q
  obtain ⟨as, O, d, e, r, w, rd, re, hg, k⟩ := q
  unfold dIn at hg
  obtain ⟨b, hb, hg⟩ := Option.bind_eq_some_iff.mp hg
  cases hg
  have kk := k _ H (Same.refl H) (.bl b)
  unfold inB at hb
  split at hb
  · split at hb
    · rename_i d' xs hk
      cases hb
      rw [Bool.and_eq_true] at hk
      have ho : okD 61 (.lst xs) = true := by simpa [okD] using hk.2
      have dl := re.dp ho
      simp only [py] at dl
      refine op_inD hu pins s σ H _ _ v u Q I rx ry ⟨_, _, rd.dp hk.1, dl, ok_shaped (by decide) hk.1, ?_, by rw [inL_py hk.1 _ hk.2]; exact kk⟩
      have := ok_shaped (n := 61) (by decide) ho
      simpa [py] using this
    · cases hb
  · split at hb
    · rename_i i' xs hk
      cases hb
      obtain ⟨a, vs, rfl, h1, t1⟩ := re.tup
      have z := inI_v (i := i') hk t1
      have e := rd.int
      subst e
      exact op_in_seq pins s σ H _ _ v u Q I rx ry ⟨a, vs, rfl, .inr h1, rfl, z.2, by rw [if_neg (by decide), z.1]; exact kk⟩
    · cases hb
  · split at hb
    · rename_i c hc
      cases hb
      have e := rd.str
      subst e
      have e := re.str
      subst e
      exact op_in_sign pins s σ H _ _ v u Q I rx ry ⟨_, _, by rw [str_eq1 hc], rfl, kk⟩
    · cases hb
  · cases hb
theorem od_ni (hu : X.A.units + 65 < cLine) : OpR X (compareOp .NotIn) (r2D (kw X) dNi) := by
  intro pins s σ H x y v u Q I rx ry q
  obtain ⟨as, O, d, e, r, w, rd, re, hg, k⟩ := q
  unfold dNi at hg
  obtain ⟨b, hb, hg⟩ := Option.bind_eq_some_iff.mp hg
  cases hg
  have kk := k _ H (Same.refl H) (.bl (!b))
  unfold inB at hb
  split at hb
  · split at hb
    · rename_i d' xs hk
      cases hb
      rw [Bool.and_eq_true] at hk
      have ho : okD 61 (.lst xs) = true := by simpa [okD] using hk.2
      have dl := re.dp ho
      simp only [py] at dl
      refine op_notInD hu pins s σ H _ _ v u Q I rx ry ⟨_, _, rd.dp hk.1, dl, ok_shaped (by decide) hk.1, ?_, by rw [inL_py hk.1 _ hk.2]; exact kk⟩
      have := ok_shaped (n := 61) (by decide) ho
      simpa [py] using this
    · cases hb
  · split at hb
    · rename_i i' xs hk
      cases hb
      obtain ⟨a, vs, rfl, h1, t1⟩ := re.tup
      have z := inI_v (i := i') hk t1
      have e := rd.int
      subst e
      exact op_notIn_seq pins s σ H _ _ v u Q I rx ry ⟨a, vs, rfl, .inr h1, rfl, z.2, by rw [if_pos rfl, z.1]; exact kk⟩
    · cases hb
  · split at hb
    · rename_i c hc
      cases hb
      have e := rd.str
      subst e
      have e := re.str
      subst e
      exact op_notIn_sign pins s σ H _ _ v u Q I rx ry ⟨_, _, by rw [str_eq1 hc], rfl, kk⟩
    · cases hb
  · cases hb
end
end DL
namespace DL
open PySem PySem.Spec PyProof.Rows L2
section
variable {X : Cx} {pos : Pos} {e a b c : Expr} {es : List Expr} {f fa fb : Ev} {fs : Ea} {fc fd : Et} {fr : Bool} {g1 g2 : Sv} {st : Stmt} {sts : List Stmt}
def aS (f : Ev) (fs : Ea) : Ea := fun ρ S => (f ρ S).bind fun p => (match p.1 with
  | .lst xs => some xs
  | .tup xs => some xs
  | _ => none).bind fun xs => (fs ρ p.2).bind fun q => some (xs ++ q.1, q.2)
theorem ma_star {p : Pos} (he : PE X e (tOfB (kw X) f)) (hr : PA X es (tOfA (kw X) fs)) (hs : starEach (.Starred e p :: es) X.env = (true, eval e X.env) :: starEach es X.env := by rfl) : PA X (.Starred e p :: es) (tOfA (kw X) (aS f fs)) :=
  (StX.pa_star he hr hs).weak fun σ H Q q => by
    obtain ⟨as, O, ρ, S, d, S', R, hf, k⟩ := q
    unfold aS at hf
    obtain ⟨⟨d1, S1⟩, h1, hf⟩ := Option.bind_eq_some_iff.mp hf
    obtain ⟨xs, hx, hf⟩ := Option.bind_eq_some_iff.mp hf
    obtain ⟨⟨d2, S2⟩, h2, hf⟩ := Option.bind_eq_some_iff.mp hf
    cases hf
    refine ⟨as, O, ρ, S, d1, S1, R, h1, fun v H1 s1 c1 r1 => ?_⟩
    have R1 := R.step s1 c1
    have fin : ∀ vs, RpL (kw X) as O H1 vs xs → tOfA (kw X) fs σ H1 fun ys H2 => Q (vs ++ ys) H2 := fun vs r => ⟨as, O, ρ, S1, d2, S2, R1, h2, fun ys H2 s2 c2 r2 => k _ H2 (s1.trans s2) c2 ((r.stp R1.wf s2).append r2)⟩
    cases d1 with
    | lst ys =>
      cases hx
      obtain ⟨a, vs, rfl, h, t⟩ := r1.lst
      exact ⟨a, vs, rfl, .inr (.inl (.inl h)), fin vs t⟩
    | tup ys =>
      cases hx
      obtain ⟨a, vs, rfl, h, t⟩ := r1.tup
      exact ⟨a, vs, rfl, .inl h, fin vs t⟩
    | _ => cases hx
def ixD (S : List D) : D → D → Option D
  | .lst xs, .int i => atI xs i
  | .tup xs, .int i => atI xs i
  | .str x, .int i => if x.length ≤ 16777216 then (atI x.cps.toList i).bind fun c => some (.str ⟨#[c]⟩) else none
  | .obj k, .int i => match S[k]? with
    | some (.lst xs) => atI xs i
    | _ => none
  | _, _ => none
def rIxD (K : KW) : R2 := fun x y H Q => ∃ as O d e r S, Wf as O H ∧ Cells K as O H S ∧ RpB K as O H x d ∧ RpB K as O H y e ∧ ixD S d e = some r ∧ ∀ v, Rp K as O H v r → Q v H
theorem RpL.at {K : KW} {as : List Addr} {O : Addr → Prop} {H : Hp} {vs : List V} {ds : List D} {i : Int} {d : D} (r : RpL K as O H vs ds) (h : atI ds i = some d) : ∃ v, atI vs i = some v ∧ Rp K as O H v d := by
  unfold atI at h ⊢
  rw [Rp.length r]
  obtain ⟨j, h1, h2⟩ := Option.bind_eq_some_iff.mp h
  obtain ⟨v, h3, r3⟩ := r.get h2
  exact ⟨v, by rw [h1]; exact h3, r3⟩
theorem ix_D : IxR X (rIxD (kw X)) := by
  intro value slice pins s σ H x y v u Q I rx ry q hs
  obtain ⟨as, O, d, e, r, S, w, cc, rd, re, hg, k⟩ := q
  unfold ixD at hg
  split at hg
  · rw [re.int] at ry
    obtain ⟨a, vs, rfl, h, t⟩ := rd.lst
    obtain ⟨z, h1, r1⟩ := t.at hg
    exact ix_list value slice pins s σ H _ _ v u Q I rx ry ⟨a, vs, _, z, rfl, rfl, .inl (.inl h), h1, k z r1⟩ hs
  · rw [re.int] at ry
    obtain ⟨a, vs, rfl, h, t⟩ := rd.tup
    obtain ⟨z, h1, r1⟩ := t.at hg
    exact ix_tup value slice pins s σ H _ _ v u Q I rx ry ⟨a, vs, _, z, rfl, rfl, h, h1, k z r1⟩ hs
  · rw [re.int] at ry
    rw [rd.str] at rx
    split at hg
    · rename_i hl
      obtain ⟨c, h1, hg⟩ := Option.bind_eq_some_iff.mp hg
      cases hg
      exact ix_str value slice pins s σ H _ _ v u Q I rx ry ⟨_, _, c, rfl, rfl, by rw [sizeLine_16]; exact hl, h1, k _ (.str _)⟩ hs
    · cases hg
  · rename_i k' i
    rw [re.int] at ry
    split at hg
    · rename_i xs hx
      rcases rd with rd | ⟨a, _, _, c⟩
      · cases rd with
        | obj ha =>
          cases cc.ix _ _ _ ha hx with
          | lst h t =>
            obtain ⟨z, h1, r1⟩ := t.at hg
            exact ix_list value slice pins s σ H _ _ v u Q I rx ry ⟨_, _, _, z, rfl, rfl, .inl (.inl h), h1, k z r1⟩ hs
      · cases c
    · cases hg
  · cases hg
def eIx (fa fb : Ev) : Ev := fun ρ S => (fa ρ S).bind fun p => (fb ρ p.2).bind fun q => (ixD q.2 p.1 q.1).bind fun r => some (r, q.2)
theorem me_ix (ha : PE X a (tOfB (kw X) fa)) (hb : PE X b (tOfB (kw X) fb)) (hs : PlainIx b := by intro _ _; rfl) : PE X (.Subscript a b pos) (tOf (kw X) (eIx fa fb)) := (pe_ix ix_D ha hb hs).weak fun σ H Q q => by
  obtain ⟨as, O, ρ, S, d, S', R, hf, k⟩ := q
  unfold eIx at hf
  obtain ⟨⟨d1, S1⟩, h1, hf⟩ := Option.bind_eq_some_iff.mp hf
  obtain ⟨⟨d2, S2⟩, h2, hf⟩ := Option.bind_eq_some_iff.mp hf
  obtain ⟨r, h3, hf⟩ := Option.bind_eq_some_iff.mp hf
  cases hf
  refine ⟨as, O, ρ, S, d1, S1, R, h1, fun v H1 s1 c1 r1 => ?_⟩
  have R1 := R.step s1 c1
  refine ⟨as, O, ρ, S1, d2, S2, R1, h2, fun w H2 s2 c2 r2 => ?_⟩
  have R2 := R1.step s2 c2
  exact ⟨as, O, d1, d2, _, S2, R2.wf, c2, r1.stp R1.wf s2, r2, h3, fun v r => k v H2 (s1.trans s2) c2 r⟩
abbrev Eo := List Slot → List D → Option (Option Int × List D)
def tOfO (K : KW) (f : Eo) : TO := fun σ H Q => ∃ as O ρ S d S', RelE K as O σ H ρ S ∧ f ρ S = some (d, S') ∧ ∀ H', Stp as H H' → Cells K as O H' S' → Q d H'
theorem _root_.L2.PO.weak {X : Cx} {e : Option Expr} {t t' : TO} (h : PO X e t) (k : ∀ σ H Q, t' σ H Q → t σ H Q) : PO X e t' := ⟨fun pins s σ H Q I hw => h.run pins s σ H Q I (k _ _ _ hw)⟩
def oN : Eo := fun _ S => some (none, S)
def oE (f : Ev) : Eo := fun ρ S => (f ρ S).bind fun p => match p.1 with
  | .int i => some (some i, p.2)
  | _ => none
theorem mo_none : PO X none (tOfO (kw X) oN) := po_none.weak fun σ H Q q => by
  obtain ⟨as, O, ρ, S, d, S', R, hf, k⟩ := q
  cases hf
  exact k H Stp.refl R.cells
theorem mo_some (h : PE X e (tOf (kw X) f)) : PO X (some e) (tOfO (kw X) (oE f)) := (po_some h).weak fun σ H Q q => by
  obtain ⟨as, O, ρ, S, d, S', R, hf, k⟩ := q
  unfold oE at hf
  obtain ⟨⟨d1, S1⟩, h1, hf⟩ := Option.bind_eq_some_iff.mp hf
  refine ⟨as, O, ρ, S, d1, S1, R, h1, fun v H1 s1 c1 r1 => ?_⟩
  split at hf
  · rename_i i e
    cases hf
    have e : d1 = .int i := e
    subst e
    cases r1
    exact ⟨i, rfl, k H1 s1 c1⟩
  · cases hf
def cutD (xs : List D) (lo hi : Option Int) : List D := (xs.drop (HT.sIx xs.length 0 lo)).take (HT.sIx xs.length xs.length hi - HT.sIx xs.length 0 lo)
def slD (lo hi : Option Int) : D → Option D
  | .lst xs => some (.lst (cutD xs lo hi))
  | .tup xs => some (.tup (cutD xs lo hi))
  | .str x => if x.length ≤ 16777216 then some (.str (cutS x lo hi)) else none
  | _ => none
theorem RpL.take {K : KW} {as : List Addr} {O : Addr → Prop} {H : Hp} : ∀ (n : Nat) {a : List V} {c : List D}, RpL K as O H a c → RpL K as O H (a.take n) (c.take n)
  | 0, _, _, _ => by simpa using RpL.nil
  | n + 1, _, _, .nil => by simpa using RpL.nil
  | n + 1, _, _, .cons r t => .cons r (RpL.take n t)
theorem RpL.drop {K : KW} {as : List Addr} {O : Addr → Prop} {H : Hp} : ∀ (n : Nat) {a : List V} {c : List D}, RpL K as O H a c → RpL K as O H (a.drop n) (c.drop n)
  | 0, _, _, h => h
  | n + 1, _, _, .nil => by simpa using RpL.nil
  | n + 1, _, _, .cons r t => RpL.drop n t
theorem RpL.cut {K : KW} {as : List Addr} {O : Addr → Prop} {H : Hp} {a : List V} {c : List D} (r : RpL K as O H a c) (lo hi : Option Int) : RpL K as O H (cutV a lo hi) (cutD c lo hi) := by
  unfold cutV cutD
  rw [Rp.length r]
  exact (r.drop _).take _
def rSlD (K : KW) : V → Option Int → Option Int → Hp → VK → Prop := fun x lo hi H Q => ∃ as O d r, Wf as O H ∧ RpB K as O H x d ∧ slD lo hi d = some r ∧ ∀ v H', Same H H' → Rp K as O H' v r → Q v H'
theorem sl_D : SlR X (rSlD (kw X)) := by
  intro pins s σ H x v vl vu lo hi sl Q I rx hs pl pu q
  obtain ⟨as, O, d, r, w, rd, hg, k⟩ := q
  unfold slD at hg
  split at hg
  · cases hg
    obtain ⟨a, vs, rfl, h, t⟩ := rd.lst
    refine sl_list pins s σ H _ v vl vu lo hi sl Q I rx hs pl pu ⟨a, vs, rfl, .inl (.inl h), fun p hp => ?_⟩
    have sm := same_new (o := .lst (cutV vs lo hi)) hp
    exact k _ _ sm (.lst (w.nel hp) upd_same ((t.cut lo hi).stp w (Same.stp sm)))
  · cases hg
    obtain ⟨a, vs, rfl, h, t⟩ := rd.tup
    have tc := t.cut lo hi
    refine sl_tupA pins s σ H _ v vl vu lo hi sl Q I rx hs pl pu ⟨a, vs, rfl, h, fun ⟨e1, e2⟩ => ?_, fun _ p hp => ?_⟩
    · have e : cutV vs lo hi = vs := by unfold cutV; rw [e1, e2]; simp
      rw [e] at tc
      exact k _ H (Same.refl H) (.tup h tc)
    · have sm := same_new (o := .tup (cutV vs lo hi)) hp
      exact k _ _ sm (.tup (.inl (.inl upd_same)) (tc.stp w (Same.stp sm)))
  · split at hg
    · rename_i hl
      cases hg
      have e := rd.str
      subst e
      exact sl_str pins s σ H _ v vl vu lo hi sl Q I rx hs pl pu ⟨_, rfl, by rw [sizeLine_16]; exact hl, k _ H (Same.refl H) (.str _)⟩
    · cases hg
  · cases hg
def eSl (fa : Ev) (lo hi : Eo) : Ev := fun ρ S => (fa ρ S).bind fun p => (lo ρ p.2).bind fun q => (hi ρ q.2).bind fun t => (slD q.1 t.1 p.1).bind fun r => some (r, t.2)
theorem me_sl {lo hi : Option Expr} {p2 : Pos} {fl fh : Eo} (ha : PE X a (tOfB (kw X) fa)) (hl : PO X lo (tOfO (kw X) fl)) (hh : PO X hi (tOfO (kw X) fh)) : PE X (.Subscript a (.Slice lo hi none p2) pos) (tOf (kw X) (eSl fa fl fh)) := (pe_slice sl_D ha hl hh).weak fun σ H Q q => by
  obtain ⟨as, O, ρ, S, d, S', R, hf, k⟩ := q
  unfold eSl at hf
  obtain ⟨⟨d1, S1⟩, h1, hf⟩ := Option.bind_eq_some_iff.mp hf
  obtain ⟨⟨d2, S2⟩, h2, hf⟩ := Option.bind_eq_some_iff.mp hf
  obtain ⟨⟨d3, S3⟩, h3, hf⟩ := Option.bind_eq_some_iff.mp hf
  obtain ⟨r, h4, hf⟩ := Option.bind_eq_some_iff.mp hf
  cases hf
  refine ⟨as, O, ρ, S, d1, S1, R, h1, fun v H1 s1 c1 r1 => ?_⟩
  have R1 := R.step s1 c1
  refine ⟨as, O, ρ, S1, d2, S2, R1, h2, fun H2 s2 c2 => ?_⟩
  have R2 := R1.step s2 c2
  refine ⟨as, O, ρ, S2, d3, S3, R2, h3, fun H3 s3 c3 => ?_⟩
  have R3 := R2.step s3 c3
  exact ⟨as, O, d1, _, R3.wf, (r1.stp R1.wf s2).stp R2.wf s3, h4, fun v H' sm r => k v H' (((s1.trans s2).trans s3).trans (Same.stp sm)) (c3.same R3.wf sm) r⟩
def rC1 (K : KW) (g : D → Option D) : List V → Hp → VK → Prop := fun xs H Q => ∃ as O d r x, xs = [x] ∧ Wf as O H ∧ RpB K as O H x d ∧ g d = some r ∧ ∀ v H', Same H H' → Rp K as O H' v r → Q v H'
def rC2 (K : KW) (g : D → D → Option D) : List V → Hp → VK → Prop := fun xs H Q => ∃ as O d e r x y, xs = [x, y] ∧ Wf as O H ∧ RpB K as O H x d ∧ RpB K as O H y e ∧ g d e = some r ∧ ∀ v H', Same H H' → Rp K as O H' v r → Q v H'
def rF1 (K : KW) (g : D → Option (List D)) : List V → Hp → VK → Prop := fun xs H Q => ∃ as O d r x, xs = [x] ∧ Wf as O H ∧ RpB K as O H x d ∧ g d = some r ∧ ∀ vs p, RpL K as O H vs r → H p = none → Q (.ref p) (upd H p (.lst vs))
theorem c1_weak {K : KW} {g : D → Option D} {σ : L2.St} {H : Hp} {Q : VK} (q : tOf K (eUn g fa) σ H Q) : tCB (rC1 K g) (tCons (tOfB K fa) tNil) σ H Q := by
  obtain ⟨as, O, ρ, S, d, S', R, hf, k⟩ := q
  unfold eUn at hf
  obtain ⟨⟨d1, S1⟩, h1, hf⟩ := Option.bind_eq_some_iff.mp hf
  obtain ⟨r, h3, hf⟩ := Option.bind_eq_some_iff.mp hf
  cases hf
  refine ⟨as, O, ρ, S, d1, S1, R, h1, fun v H1 s1 c1 r1 => ?_⟩
  have R1 := R.step s1 c1
  exact ⟨as, O, d1, _, v, rfl, R1.wf, r1, h3, fun v H' sm r => k v H' (s1.trans (Same.stp sm)) (c1.same R1.wf sm) r⟩
theorem c2_weak {K : KW} {g : D → D → Option D} {σ : L2.St} {H : Hp} {Q : VK} (q : tOf K (eBin g fa fb) σ H Q) : tCB (rC2 K g) (tCons (tOfB K fa) (tCons (tOfB K fb) tNil)) σ H Q := by
  obtain ⟨as, O, ρ, S, d, S', R, hf, k⟩ := q
  unfold eBin at hf
  obtain ⟨⟨d1, S1⟩, h1, hf⟩ := Option.bind_eq_some_iff.mp hf
  obtain ⟨⟨d2, S2⟩, h2, hf⟩ := Option.bind_eq_some_iff.mp hf
  obtain ⟨r, h3, hf⟩ := Option.bind_eq_some_iff.mp hf
  cases hf
  refine ⟨as, O, ρ, S, d1, S1, R, h1, fun v H1 s1 c1 r1 => ?_⟩
  have R1 := R.step s1 c1
  refine ⟨as, O, ρ, S1, d2, S2, R1, h2, fun w H2 s2 c2 r2 => ?_⟩
  have R2 := R1.step s2 c2
  exact ⟨as, O, d1, d2, _, v, w, rfl, R2.wf, r1.stp R1.wf s2, r2, h3, fun v H' sm r => k v H' ((s1.trans s2).trans (Same.stp sm)) (c2.same R2.wf sm) r⟩
theorem new_cells {K : KW} {as : List Addr} {O : Addr → Prop} {H : Hp} {S : List D} {p : Addr} {o : HO} (w : Wf as O H) (cc : Cells K as O H S) (hp : H p = none) : Cells K as (ad O p) (upd H p o) S ∧ ∀ vs ds, RpL K as O H vs ds → RpL K as (ad O p) (upd H p o) vs ds := by
  have sm := same_new (o := o) hp
  have kk : Kp (ad O p) H (upd H p o) := fun a u _ e => sm a u e
  have m1 : ∀ a, ad O p a → Nt (H a) := fun a o => by
    rcases o with o | o
    · exact nt_of_mut (w.mt a o)
    · rw [o, hp]; exact nt_none
  have f : ∀ vs ds, RpL K as O H vs ds → RpL K as (ad O p) (upd H p o) vs ds := fun vs ds r => RpL.kp m1 kk _ _ (RpL.ad hp _ _ r)
  refine ⟨⟨cc.len, fun i a d e1 e2 => ?_⟩, f⟩
  cases cc.ix i a d e1 e2 with
  | lst h r => exact .lst (sm _ _ h) (f _ _ r)
  | dct h r t9 e9 k9 => exact .dct (sm _ _ h) (f _ _ r) (f _ _ t9) e9 k9
  | kd h e9 t9 => exact .kd (sm _ _ h) e9 (f _ _ t9)
def eUnF (g : D → Option (List D)) (fa : Ev) : Ev := fun ρ S => (fa ρ S).bind fun p => (g p.1).bind fun r => some (.lst r, p.2)
theorem RelE.free {K : KW} {as : List Addr} {O : Addr → Prop} {σ : L2.St} {H H1 : Hp} {ρ : List Slot} {S S1 : List D} (R : RelE K as O σ H ρ S) (s1 : Stp as H H1) (c1 : Cells K as O H1 S1) {p : Addr} (hp : H1 p = none) : H p = none := by
  have R1 := R.step s1 c1
  cases q : H p with
  | none => rfl
  | some u =>
    by_cases m : p ∈ as
    · exact absurd hp (R1.wf.trk (R1.wf.sub p m))
    · rw [s1 p u m q] at hp; cases hp
theorem f1_weak {K : KW} {g : D → Option (List D)} {σ : L2.St} {H : Hp} {Q : VK} (q : tOfF K (eUnF g fa) σ H Q) : tCB (rF1 K g) (tCons (tOfB K fa) tNil) σ H Q := by
  obtain ⟨as, O, ρ, S, d, S', R, hf, k⟩ := q
  unfold eUnF at hf
  obtain ⟨⟨d1, S1⟩, h1, hf⟩ := Option.bind_eq_some_iff.mp hf
  obtain ⟨r, h3, hf⟩ := Option.bind_eq_some_iff.mp hf
  cases hf
  refine ⟨as, O, ρ, S, d1, S1, R, h1, fun v H1 s1 c1 r1 => ?_⟩
  have R1 := R.step s1 c1
  refine ⟨as, O, d1, _, v, rfl, R1.wf, r1, h3, fun vs p rv hp => ?_⟩
  have q := new_cells (o := .lst vs) R1.wf c1 hp
  exact k p _ (R.free s1 c1 hp) (s1.trans (Same.stp (same_new hp))) q.1 (.lst upd_same (q.2 _ _ rv))
section
variable {id T : String} {x : Str} {p : Pos}
theorem me_b1 {g : D → Option D} (hc : CallR X (.builtin id) (rC1 (kw X) g)) (hg : Gl X x) (hm : X.mg x = none) (hv : bootBuiltins x = some (.builtin id)) (ha : PE X a (tOfB (kw X) fa)) (hn : x ≠ "__name__" := by decide) (hdb : (x == ("__debug__" : Str)) = false := by decide)
    (he : starEach [a] X.env = (false, eval a X.env) :: starEach [] X.env := by rfl) : PE X (.Call (.Name x p) [a] [] pos) (tOf (kw X) (eUn g fa)) := (pe_callB hc hg hm hv (pa_cons ha pa_nil he) hn hdb he rfl).weak fun _ _ _ => c1_weak
theorem me_t1 {g : D → Option D} (hc : CallR X (.type T) (rC1 (kw X) g)) (hg : Gl X x) (hm : X.mg x = none) (hv : bootBuiltins x = some (.type T)) (ha : PE X a (tOfB (kw X) fa)) (hn : x ≠ "__name__" := by decide) (hdb : (x == ("__debug__" : Str)) = false := by decide)
    (he : starEach [a] X.env = (false, eval a X.env) :: starEach [] X.env := by rfl) : PE X (.Call (.Name x p) [a] [] pos) (tOf (kw X) (eUn g fa)) := (pe_callTy hc hg hm hv (pa_cons ha pa_nil he) hn hdb he rfl).weak fun _ _ _ => c1_weak
theorem me_b2 {g : D → D → Option D} (hc : CallR X (.builtin id) (rC2 (kw X) g)) (hg : Gl X x) (hm : X.mg x = none) (hv : bootBuiltins x = some (.builtin id)) (ha : PE X a (tOfB (kw X) fa)) (hb : PE X b (tOfB (kw X) fb)) (hn : x ≠ "__name__" := by decide) (hdb : (x == ("__debug__" : Str)) = false := by decide)
    (he : starEach [a, b] X.env = (false, eval a X.env) :: starEach [b] X.env := by rfl) (he2 : starEach [b] X.env = (false, eval b X.env) :: starEach [] X.env := by rfl) (hpl : (backTo pos (starEach [b] X.env)).any (·.1) = false := by rfl) : PE X (.Call (.Name x p) [a, b] [] pos) (tOf (kw X) (eBin g fa fb)) :=
  (pe_callB hc hg hm hv (pa_cons ha (pa_cons hb pa_nil he2) he) hn hdb he hpl).weak fun _ _ _ => c2_weak
theorem mf_b1 {g : D → Option (List D)} (hc : CallR X (.builtin id) (rF1 (kw X) g)) (hg : Gl X x) (hm : X.mg x = none) (hv : bootBuiltins x = some (.builtin id)) (ha : PE X a (tOfB (kw X) fa)) (hn : x ≠ "__name__" := by decide) (hdb : (x == ("__debug__" : Str)) = false := by decide)
    (he : starEach [a] X.env = (false, eval a X.env) :: starEach [] X.env := by rfl) : PE X (.Call (.Name x p) [a] [] pos) (tOfF (kw X) (eUnF g fa)) := (pe_callB hc hg hm hv (pa_cons ha pa_nil he) hn hdb he rfl).weak fun _ _ _ => f1_weak
theorem mf_t1 {g : D → Option (List D)} (hc : CallR X (.type T) (rF1 (kw X) g)) (hg : Gl X x) (hm : X.mg x = none) (hv : bootBuiltins x = some (.type T)) (ha : PE X a (tOfB (kw X) fa)) (hn : x ≠ "__name__" := by decide) (hdb : (x == ("__debug__" : Str)) = false := by decide)
    (he : starEach [a] X.env = (false, eval a X.env) :: starEach [] X.env := by rfl) : PE X (.Call (.Name x p) [a] [] pos) (tOfF (kw X) (eUnF g fa)) := (pe_callTy hc hg hm hv (pa_cons ha pa_nil he) hn hdb he rfl).weak fun _ _ _ => f1_weak
end
def dLen : D → Option D
  | .lst xs => some (.int xs.length)
  | .tup xs => some (.int xs.length)
  | .str x => if x.length ≤ 16777216 then some (.int x.length) else none
  | _ => none
theorem cd_len : CallR X (.builtin "len") (rC1 (kw X) dLen) := by
  intro pins s σ H xs us Q I r q
  obtain ⟨as, O, d, rr, x, rfl, w, rd, hg, k⟩ := q
  unfold dLen at hg
  split at hg
  · cases hg
    obtain ⟨a, vs, rfl, h, t⟩ := rd.lst
    refine call_len pins s σ H _ us Q I r ⟨_, vs.length, rfl, .inl ⟨vs, .inl (.inl h), rfl⟩, ?_⟩
    rw [Rp.length t]
    exact k _ H (Same.refl H) (.int _)
  · cases hg
    obtain ⟨a, vs, rfl, h, t⟩ := rd.tup
    refine call_len pins s σ H _ us Q I r ⟨_, vs.length, rfl, .inr ⟨vs, h, rfl⟩, ?_⟩
    rw [Rp.length t]
    exact k _ H (Same.refl H) (.int _)
  · split at hg
    · rename_i hl
      cases hg
      have e := rd.str
      subst e
      exact call_len pins s σ H _ us Q I r ⟨_, _, rfl, ⟨by rw [sizeLine_16]; exact hl, rfl⟩, k _ H (Same.refl H) (.int _)⟩
    · cases hg
  · cases hg
def dAbs : D → Option D
  | .int i => some (.int (if i < 0 then -i else i))
  | _ => none
theorem cd_abs : CallR X (.builtin "abs") (rC1 (kw X) dAbs) := by
  intro pins s σ H xs us Q I r q
  obtain ⟨as, O, d, rr, x, rfl, w, rd, hg, k⟩ := q
  unfold dAbs at hg
  split at hg
  · cases hg
    have e := rd.int
    subst e
    exact call_abs pins s σ H _ us Q I r ⟨_, rfl, k _ H (Same.refl H) (.int _)⟩
  · cases hg
def dInt : D → Option D
  | .int i => some (.int i)
  | .bl k => some (.int (if k then 1 else 0))
  | _ => none
theorem cd_int : CallR X (.type "int") (rC1 (kw X) dInt) := by
  intro pins s σ H xs us Q I r q
  obtain ⟨as, O, d, rr, x, rfl, w, rd, hg, k⟩ := q
  unfold dInt at hg
  split at hg
  · cases hg
    have e := rd.int
    subst e
    exact call_int1 pins s σ H _ us Q I r (.inl ⟨_, rfl, k _ H (Same.refl H) (.int _)⟩)
  · cases hg
    have e := rd.bl
    subst e
    exact call_int1 pins s σ H _ us Q I r (.inr ⟨_, rfl, k _ H (Same.refl H) (.int _)⟩)
  · cases hg
def dMax2 : D → D → Option D
  | .int i, .int j => some (.int (if j > i then j else i))
  | _, _ => none
def dMin2 : D → D → Option D
  | .int i, .int j => some (.int (if j < i then j else i))
  | _, _ => none
theorem cd_max2 (hc : X.calm = true) : CallR X (.builtin "max") (rC2 (kw X) dMax2) := by
  intro pins s σ H xs us Q I r q
  obtain ⟨as, O, d, e, rr, x, y, rfl, w, rd, re, hg, k⟩ := q
  unfold dMax2 at hg
  split at hg
  · cases hg
    have e := rd.int
    subst e
    have e := re.int
    subst e
    exact call_max2 hc pins s σ H _ us Q I r ⟨_, _, rfl, k _ H (Same.refl H) (.int _)⟩
  · cases hg
theorem cd_min2 (hc : X.calm = true) : CallR X (.builtin "min") (rC2 (kw X) dMin2) := by
  intro pins s σ H xs us Q I r q
  obtain ⟨as, O, d, e, rr, x, y, rfl, w, rd, re, hg, k⟩ := q
  unfold dMin2 at hg
  split at hg
  · cases hg
    have e := rd.int
    subst e
    have e := re.int
    subst e
    exact call_min2 hc pins s σ H _ us Q I r ⟨_, _, rfl, k _ H (Same.refl H) (.int _)⟩
  · cases hg
def lOf : D → Option (List D)
  | .lst xs => some xs
  | .tup xs => some xs
  | .scr ns => some (ns.map .int)
  | _ => none
theorem rp_ints {K : KW} {as : List Addr} {O : Addr → Prop} {H : Hp} : ∀ ns : List Int, RpL K as O H (ns.map V.int) (ns.map D.int)
  | [] => .nil
  | n :: ns => .cons (.int n) (rp_ints ns)
theorem cd_list : CallR X (.type "list") (rF1 (kw X) lOf) := by
  intro pins s σ H xs us Q I r q
  obtain ⟨as, O, d, rr, x, rfl, w, rd, hg, k⟩ := q
  unfold lOf at hg
  split at hg
  · cases hg
    obtain ⟨a, vs, rfl, h, t⟩ := rd.lst
    exact call_list_of pins s σ H _ us Q I r ⟨a, vs, rfl, .inl (.inl (.inl h)), fun l hl => k vs l t hl⟩
  · cases hg
    obtain ⟨a, vs, rfl, h, t⟩ := rd.tup
    exact call_list_of pins s σ H _ us Q I r ⟨a, vs, rfl, .inr h, fun l hl => k vs l t hl⟩
  · rename_i ns
    cases hg
    rcases rd with rd | ⟨a, _, _, c⟩
    · cases rd with
      | scr h =>
        refine call_list_of pins s σ H _ us Q I r ⟨_, ns.map V.int, rfl, .inl ?_, fun l hl => k _ l (rp_ints ns) hl⟩
        rcases h with h | h
        · exact .inl h.2
        · exact h H
    · cases c
  · cases hg
def dTup : D → Option D
  | .lst xs => some (.tup xs)
  | .tup xs => some (.tup xs)
  | _ => none
theorem cd_tuple : CallR X (.type "tuple") (rC1 (kw X) dTup) := by
  intro pins s σ H xs us Q I r q
  obtain ⟨as, O, d, rr, x, rfl, w, rd, hg, k⟩ := q
  unfold dTup at hg
  split at hg
  · cases hg
    obtain ⟨a, vs, rfl, h, t⟩ := rd.lst
    refine call_tuple_of pins s σ H _ us Q I r ⟨a, vs, rfl, .inl ⟨.inl (.inl h), fun l hl => ?_⟩⟩
    have sm := same_new (o := .tup vs) hl
    exact k _ _ sm (.tup (.inl (.inl upd_same)) (t.stp w (Same.stp sm)))
  · cases hg
    obtain ⟨a, vs, rfl, h, t⟩ := rd.tup
    exact call_tuple_of pins s σ H _ us Q I r ⟨a, vs, rfl, .inr ⟨h, k _ H (Same.refl H) (.tup h t)⟩⟩
  · cases hg
end
end DL
namespace DL
open PySem PySem.Spec PyProof.Rows L2
section
variable {X : Cx} {pos : Pos} {e a b c : Expr} {es : List Expr} {f fa fb fz : Ev} {fs : Ea} {fc fd : Et} {fr : Bool} {g1 g2 : Sv} {st : Stmt} {sts : List Stmt}
def eChain (g h : D → D → Option D) (fa fb fz : Ev) : Ev := fun ρ S => (fa ρ S).bind fun p => (fb ρ p.2).bind fun q => (g p.1 q.1).bind fun r => match r with
  | .bl true => (fz ρ q.2).bind fun t => (h q.1 t.1).bind fun u => some (u, t.2)
  | .bl false => some (.bl false, q.2)
  | _ => none
theorem chain_weak {K : KW} {g h : D → D → Option D} {σ : L2.St} {H : Hp} {Q : VK} (q : tOf K (eChain g h fa fb fz) σ H Q) : tChain (r2D K g) (r2D K h) (tOfB K fa) (tOfB K fb) (tOfB K fz) σ H Q := by
  obtain ⟨as, O, ρ, S, d, S', R, hf, k⟩ := q
  unfold eChain at hf
  obtain ⟨⟨d1, S1⟩, h1, hf⟩ := Option.bind_eq_some_iff.mp hf
  obtain ⟨⟨d2, S2⟩, h2, hf⟩ := Option.bind_eq_some_iff.mp hf
  obtain ⟨r, h3, hf⟩ := Option.bind_eq_some_iff.mp hf
  refine ⟨as, O, ρ, S, d1, S1, R, h1, fun v H1 s1 c1 r1 => ?_⟩
  have R1 := R.step s1 c1
  refine ⟨as, O, ρ, S1, d2, S2, R1, h2, fun w H2 s2 c2 r2 => ?_⟩
  have R2 := R1.step s2 c2
  refine ⟨as, O, d1, d2, r, R2.wf, r1.stp R1.wf s2, r2, h3, fun z H3 sm rz => ?_⟩
  have R3 := R2.step (Same.stp sm) (c2.same R2.wf sm)
  split at hf
  · obtain ⟨⟨d4, S4⟩, h4, hf⟩ := Option.bind_eq_some_iff.mp hf
    obtain ⟨u, h5, hf⟩ := Option.bind_eq_some_iff.mp hf
    cases hf
    cases rz
    refine ⟨true, rfl, ?_⟩
    rw [if_pos rfl]
    refine ⟨as, O, ρ, S2, d4, S4, R3, h4, fun w' H4 s4 c4 r4 => ?_⟩
    have R4 := R3.step s4 c4
    exact ⟨as, O, d2, d4, _, R4.wf, (r2.stp R2.wf (Same.stp sm)).stp R3.wf s4, r4, h5, fun v H' sm' r => k v H' ((((s1.trans s2).trans (Same.stp sm)).trans s4).trans (Same.stp sm')) (c4.same R4.wf sm') r⟩
  · cases hf
    cases rz
    refine ⟨false, rfl, ?_⟩
    rw [if_neg (by decide)]
    exact k _ H3 ((s1.trans s2).trans (Same.stp sm)) R3.cells (.bl _)
  · cases hf
theorem me_chain {op op' : CmpOp} {g h : D → D → Option D} (ho : OpR X (compareOp op) (r2D (kw X) g)) (ho' : OpR X (compareOp op') (r2D (kw X) h)) (ha : PE X a (tOfB (kw X) fa)) (hb : PE X b (tOfB (kw X) fb)) (hc : PE X c (tOfB (kw X) fz))
    (hm : lastMarks [op, op'] [b, c] = false := by with_unfolding_all rfl) : PE X (.Compare a [op, op'] [b, c] pos) (tOf (kw X) (eChain g h fa fb fz)) := (pe_chain ho ho' ha hb hc hm).weak fun _ _ _ => chain_weak
theorem mt_chain {op op' : CmpOp} {g h : D → D → Option D} (ho : OpR X (compareOp op) (r2D (kw X) g)) (ho' : OpR X (compareOp op') (r2D (kw X) h)) (ha : PE X a (tOfB (kw X) fa)) (hb : PE X b (tOfB (kw X) fb)) (hc : PE X c (tOfB (kw X) fz))
    (hm : lastMarks [op, op'] [b, c] = false := by with_unfolding_all rfl) : PT X (.Compare a [op, op'] [b, c] pos) (tOfT (kw X) (cV (eChain g h fa fb fz))) := (pt_chain ho ho' ha hb hc hm).weak fun σ H Q q => by
  obtain ⟨as, O, ρ, S, d, S', R, hf, k⟩ := q
  unfold cV at hf
  obtain ⟨⟨d1, S1⟩, h1, hf⟩ := Option.bind_eq_some_iff.mp hf
  refine chain_weak ⟨as, O, ρ, S, d1, S1, R, h1, fun v H' s c r => ?_⟩
  cases r with
  | bl b => cases hf; exact ⟨_, rfl, k H' s c⟩
  | _ => cases hf
def tyn : D → Option String
  | .non => some "NoneType"
  | .bl _ => some "bool"
  | .int _ => some "int"
  | .str _ => some "str"
  | .tup _ => some "tuple"
  | .lst _ => some "list"
  | _ => none
theorem ty_of {K : KW} {as : List Addr} {O : Addr → Prop} {H : Hp} {v : V} {d : D} {n : String} (r : RpB K as O H v d) (h : tyn d = some n) : TyX K H v (.type n) := by
  cases d with
  | non => cases h; rw [r.non]; exact .base .non
  | bl b => cases h; rw [r.bl]; exact .base (.bl b)
  | int i => cases h; rw [r.int]; exact .base (.int i)
  | str x => cases h; rw [r.str]; exact .base (.str x)
  | tup xs =>
    cases h
    obtain ⟨a, vs, rfl, h, t⟩ := r.tup
    rcases h with (h | ⟨o, h⟩) | ⟨o, _, _, h, hc, _⟩
    · exact .base (.tup h)
    · exact .fTuple h
    · exact .kTuple h hc
  | lst xs =>
    cases h
    obtain ⟨a, vs, rfl, h, t⟩ := r.lst
    exact .base (.lst h)
  | _ => cases h
def isI : D → Option Bool
  | .bl _ => some true
  | .int _ => some true
  | .non => some false
  | .str _ => some false
  | .tup _ => some false
  | .lst _ => some false
  | _ => none
def isBo : D → Option Bool
  | .bl _ => some true
  | .int _ => some false
  | .non => some false
  | .str _ => some false
  | .tup _ => some false
  | .lst _ => some false
  | _ => none
def isS : D → Option Bool
  | .bl _ => some false
  | .int _ => some false
  | .non => some false
  | .str _ => some true
  | .tup _ => some false
  | .lst _ => some false
  | _ => none
def isTp : D → Option Bool
  | .bl _ => some false
  | .int _ => some false
  | .non => some false
  | .str _ => some false
  | .tup _ => some true
  | .lst _ => some false
  | _ => none
def isL : D → Option Bool
  | .bl _ => some false
  | .int _ => some false
  | .non => some false
  | .str _ => some false
  | .tup _ => some false
  | .lst _ => some true
  | _ => none
def isLT : D → Option Bool
  | .bl _ => some false
  | .int _ => some false
  | .non => some false
  | .str _ => some false
  | .tup _ => some true
  | .lst _ => some true
  | _ => none
def Ans (T : String) (p : D → Option Bool) : Prop := ∀ d b, p d = some b → ∃ n, tyn d = some n ∧ kitB n T = some b
theorem ans_int : Ans "int" isI := fun d b h => by
  cases d <;> first | (cases h; exact ⟨_, rfl, by decide +kernel⟩) | cases h
theorem ans_bool : Ans "bool" isBo := fun d b h => by
  cases d <;> first | (cases h; exact ⟨_, rfl, by decide +kernel⟩) | cases h
theorem ans_str : Ans "str" isS := fun d b h => by
  cases d <;> first | (cases h; exact ⟨_, rfl, by decide +kernel⟩) | cases h
theorem ans_tup : Ans "tuple" isTp := fun d b h => by
  cases d <;> first | (cases h; exact ⟨_, rfl, by decide +kernel⟩) | cases h
theorem ans_lst : Ans "list" isL := fun d b h => by
  cases d <;> first | (cases h; exact ⟨_, rfl, by decide +kernel⟩) | cases h
def dIs (p : D → Option Bool) : D → Option D := fun d => (p d).bind fun b => some (.bl b)
section
variable {p q pT p1 : Pos} {T T1 T2 : Str} {t t1 t2 : String}
theorem isi_weak {K : KW} {g : D → Option Bool} {σ : L2.St} {H : Hp} {Q : VK} (an : Ans t g) (q : tOf K (eUn (dIs g) fa) σ H Q) : tCB (rIsi K) (tCons (tOfB K fa) (tCons (tC (.ty t)) tNil)) σ H Q := by
  obtain ⟨as, O, ρ, S, d, S', R, hf, k⟩ := q
  unfold eUn dIs at hf
  obtain ⟨⟨d1, S1⟩, h1, hf⟩ := Option.bind_eq_some_iff.mp hf
  obtain ⟨r, h2, hf⟩ := Option.bind_eq_some_iff.mp hf
  obtain ⟨b, h3, h2⟩ := Option.bind_eq_some_iff.mp h2
  cases h2
  cases hf
  refine ⟨as, O, ρ, S, d1, S1, R, h1, fun v H1 s1 c1 r1 => ?_⟩
  obtain ⟨n, hn, hk⟩ := an d1 b h3
  exact ⟨v, .ty t, _, _, b, rfl, .ty t, ty_of r1 hn, kit_ty hk, k _ H1 s1 c1 (.bl _)⟩
theorem me_isi {g : D → Option Bool} (an : Ans t g) (hg : Gl X "isinstance") (hm : X.mg "isinstance" = none) (hgT : Gl X T) (hmT : X.mg T = none) (hvT : bootBuiltins T = some (.type t)) (ha : PE X a (tOfB (kw X) fa))
    (hnT : T ≠ "__name__" := by decide) (hdT : (T == ("__debug__" : Str)) = false := by decide)
    (he : starEach [a, .Name T pT] X.env = (false, eval a X.env) :: starEach [.Name T pT] X.env := by rfl) (hpl : (backTo pos (starEach [.Name T pT] X.env)).any (·.1) = false := by rfl) :
    PE X (.Call (.Name "isinstance" p) [a, .Name T pT] [] pos) (tOf (kw X) (eUn (dIs g) fa)) :=
  (pe_callB call_isi hg hm boot_isinstance (pa_cons ha (pa_cons (pe_bltn (v := .ty t) hgT hmT hvT rfl hnT hdT) pa_nil rfl) he) (by decide) (by decide) he hpl).weak fun _ _ _ => isi_weak an
theorem isi2_weak {K : KW} {σ : L2.St} {H : Hp} {Q : VK} (h1 : t1 = "list" ∧ t2 = "tuple" ∨ t1 = "tuple" ∧ t2 = "list") (q : tOf K (eUn (dIs isLT) fa) σ H Q) : tCB (rIsiT K) (tCons (tOfB K fa) (tCons (tTup (tCons (tC (.ty t1)) (tCons (tC (.ty t2)) tNil))) tNil)) σ H Q := by
  obtain ⟨as, O, ρ, S, d, S', R, hf, k⟩ := q
  unfold eUn dIs at hf
  obtain ⟨⟨d1, S1⟩, h2, hf⟩ := Option.bind_eq_some_iff.mp hf
  obtain ⟨r, h3, hf⟩ := Option.bind_eq_some_iff.mp hf
  obtain ⟨b, h4, h3⟩ := Option.bind_eq_some_iff.mp h3
  cases h3
  cases hf
  refine ⟨as, O, ρ, S, d1, S1, R, h2, fun v H1 s1 c1 r1 => ⟨by show 2 ≤ sizeLine; decide, fun tp hp => ?_⟩⟩
  have R1 := R.step s1 c1
  have sm := same_new (o := .tup [.ty t1, .ty t2]) hp
  obtain ⟨n, hn⟩ : ∃ n, tyn d1 = some n := by cases d1 <;> first | exact ⟨_, rfl⟩ | cases h4
  have ty := ty_of (r1.stp R1.wf (Same.stp sm)) hn
  refine ⟨v, tp, [.ty t1, .ty t2], _, [.type t1, .type t2], b, rfl, upd_same, .cons (.ty t1) (.cons (.ty t2) .nil), ty, ?_, k _ _ (s1.trans (Same.stp sm)) (c1.same R1.wf sm) (.bl _)⟩
  have a1 : ∀ b', kitB n t1 = some b' → PySem.W.kitOne K (.type n) (.type t1) = some b' := fun b' h => kit_ty h
  have a2 : ∀ b', kitB n t2 = some b' → PySem.W.kitOne K (.type n) (.type t2) = some b' := fun b' h => kit_ty h
  have fin : ∀ b1 b2, kitB n t1 = some b1 → kitB n t2 = some b2 → (b1 || b2) = b → PySem.W.kitAny K (.type n) [.type t1, .type t2] = some b := fun b1 b2 e1 e2 e => by
    refine kitAny_cons (a1 b1 e1) (fun z => ?_) (fun z => by rw [z] at e; simpa using e.symm)
    refine kitAny_cons (a2 b2 e2) (fun z' => ?_) (fun z' => by rw [z'] at e; simpa using e.symm)
    rw [z, z'] at e
    unfold PySem.W.kitAny
    rw [← e]
    rfl
  obtain ⟨b1, b2, e1, e2, e3⟩ : ∃ b1 b2, isL d1 = some b1 ∧ isTp d1 = some b2 ∧ (b1 || b2) = b := by
    cases d1 <;> first | (cases h4; exact ⟨_, _, rfl, rfl, rfl⟩) | cases h4
  obtain ⟨n1, hn1, k1⟩ := ans_lst d1 b1 e1
  obtain ⟨n2, hn2, k2⟩ := ans_tup d1 b2 e2
  rw [hn] at hn1 hn2
  cases hn1
  cases hn2
  rcases h1 with ⟨rfl, rfl⟩ | ⟨rfl, rfl⟩
  · exact fin _ _ k1 k2 e3
  · exact fin _ _ k2 k1 (by rw [Bool.or_comm]; exact e3)
theorem me_isi2 {x1 : Nat} {pp : Pos} (h12 : t1 = "list" ∧ t2 = "tuple" ∨ t1 = "tuple" ∧ t2 = "list") (hg : Gl X "isinstance") (hm : X.mg "isinstance" = none) (hg1 : Gl X T1) (hm1 : X.mg T1 = none) (hv1 : bootBuiltins T1 = some (.type t1)) (hg2 : Gl X T2) (hm2 : X.mg T2 = none) (hv2 : bootBuiltins T2 = some (.type t2)) (ha : PE X a (tOfB (kw X) fa))
    (hn1 : T1 ≠ "__name__" := by decide) (hd1 : (T1 == ("__debug__" : Str)) = false := by decide) (hn2 : T2 ≠ "__name__" := by decide) (hd2 : (T2 == ("__debug__" : Str)) = false := by decide)
    (he : starEach [a, .Tuple [.Name T1 pT, .Name T2 p1] x1 pp] X.env = (false, eval a X.env) :: starEach [.Tuple [.Name T1 pT, .Name T2 p1] x1 pp] X.env := by rfl) (hpl : (backTo pos (starEach [.Tuple [.Name T1 pT, .Name T2 p1] x1 pp] X.env)).any (·.1) = false := by rfl) :
    PE X (.Call (.Name "isinstance" p) [a, .Tuple [.Name T1 pT, .Name T2 p1] x1 pp] [] pos) (tOf (kw X) (eUn (dIs isLT) fa)) :=
  (pe_callB call_isiT hg hm boot_isinstance (pa_cons ha (pa_cons (pe_tup (pa_cons (pe_bltn (v := .ty t1) hg1 hm1 hv1 rfl hn1 hd1) (pa_cons (pe_bltn (v := .ty t2) hg2 hm2 hv2 rfl hn2 hd2) pa_nil rfl) rfl)) pa_nil rfl) he) (by decide) (by decide) he hpl).weak fun _ _ _ => isi2_weak h12
end
def KD (K : PySem.W.Frag) (v : V) (d : D) : Prop := ∀ (w : World) as O H, Rp ⟨K, w⟩ as O H v d
theorem KD.int {K : PySem.W.Frag} (i : Int) : KD K (.int i) (.int i) := fun _ _ _ _ => .int i
theorem KD.str {K : PySem.W.Frag} (i : Str) : KD K (.str i) (.str i) := fun _ _ _ _ => .str i
theorem me_glob {x : Str} {v : V} {u : Value} {d : D} (hg : Gl X x) (hm : X.mg x = some u) (r : RelV v u) (kd : KD X.K v d) (hd : (x == ("__debug__" : Str)) = false := by decide) : PE X (.Name x pos) (tOf (kw X) (eC d)) := me_con (pe_glob hg hm r hd) (kd X.w)
def sApp (i : Nat) (f : Ev) : Sv := fun ρ S => (f ρ S).bind fun p => match ρ[i]? with
  | some (.own (.lst xs)) => if xs.length < 16777216 then some (.nx (ρ.set i (.own (.lst (xs ++ [p.1])))) p.2) else none
  | _ => none
theorem ms_app (i : Nat) {x : Str} {px apos cpos : Pos} (ho : PE X (.Name x px) (tVar i)) (ha : PE X a (tOf (kw X) fa))
    (hbase : attributeBase (.Name x px) "append" X.env (eval (.Name x px) X.env) = eval (.Name x px) X.env := by rfl)
    (hfew : ((backTo cpos (starEach [a] X.env)).all (fun x => !x.1) && (backToKw cpos (keywordEach [] X.env)).all (fun x => x.1.isSome)
      && decide ([a].length + ([] : List Keyword).length + (if ([] : List Keyword).isEmpty then 0 else 1) < 30)) = true := by rfl)
    (hline : (apos.endLine == cpos.line) = true := by rfl) (hs : starEach [a] X.env = (false, eval a X.env) :: starEach [] X.env := by rfl) (hplain : (backTo cpos (starEach [] X.env)).any (·.1) = false := by rfl)
    (hsw : swapsWith (.Call (.Attribute (.Name x px) "append" apos) [a] [] cpos) none pos.line X.env = pure false := by rfl) :
    PS X (.Expr (.Call (.Attribute (.Name x px) "append" apos) [a] [] cpos) pos) (tOfS fr (kw X) (sApp i fa)) :=
  (ps_expr (pe_bm PySem.F.plainAttrs_list PySem.F.slot_list_append PySem.F.type_list_append mt_append ho (pa_cons ha pa_nil hs) hbase hfew hline hs hplain) hsw).weak fun D σ H q => by
    obtain ⟨as, O, B, G, ρ, S, o, R, hf, k⟩ := q
    unfold sApp at hf
    obtain ⟨⟨d1, S1⟩, h1, hf⟩ := Option.bind_eq_some_iff.mp hf
    split at hf
    · rename_i xs hx
      split at hf
      · rename_i hl
        cases hf
        obtain ⟨p, h2, nb, ng, cp⟩ := R.own i _ hx
        cases cp with
        | @lst ws _ hp t =>
          refine ⟨.ref p, h2, .inl ⟨rfl, _, .inl (.inl hp)⟩, as, _, ρ, S, d1, S1, R.e, h1, fun v H1 s1 c1 r1 => ?_⟩
          have R1 := R.step s1 c1
          have hp1 : H1 p = some (.lst ws) := s1 p _ (R.notas nb) hp
          have t1 := t.stp R.wf s1
          have kk : Kp (OO O ρ σ) H1 (upd H1 p (.lst (ws ++ [v]))) := fun b u n e => by
            rw [upd_ne (fun z => n (by rw [z]; exact .inr ⟨i, _, hx, h2⟩))]
            exact e
          refine ⟨p, _, v, rfl, rfl, hp1, by rw [sizeLine_16, Rp.length t1]; exact hl, ?_⟩
          exact k _ _ (R1.mutOwn (o := .lst (ws ++ [v])) hx h2 trivial (.lst upd_same (RpL.kp R1.wf.nt kk _ _ (t1.append (.cons r1 .nil)))))
      · cases hf
    · cases hf
def sIxO (i : Nat) (f fj : Ev) : Sv := fun ρ S => (f ρ S).bind fun p => (fj ρ p.2).bind fun q => match ρ[i]?, q.1 with
  | some (.own (.lst xs)), .int j => (ixN xs.length j).bind fun n => some (.nx (ρ.set i (.own (.lst (xs.set n p.1)))) q.2)
  | _, _ => none
theorem RpL.set {K : KW} {as : List Addr} {O : Addr → Prop} {H : Hp} {v : V} {d : D} (r : Rp K as O H v d) : ∀ (n : Nat) {vs : List V} {ds : List D}, RpL K as O H vs ds → RpL K as O H (vs.set n v) (ds.set n d)
  | _, _, _, .nil => .nil
  | 0, _, _, .cons _ t => .cons r t
  | n + 1, _, _, .cons q t => .cons q (RpL.set r n t)
theorem ms_ixO (i : Nat) {x : Str} {px tpos : Pos} (ho : PE X (.Name x px) (tVar i)) (hj : PE X b (tOf (kw X) fb)) (he : PE X e (tOf (kw X) f))
    (ha : ∀ v, assign (.Subscript (.Name x px) b tpos) X.env v = (do
      let ov ← holding [v] (eval (.Name x px) X.env)
      let iv ← holding [v, ov] (eval b X.env)
      standAt tpos
      holding [v, ov, iv] (setItem ov iv v)
      release [v, ov, iv] []) := by intro _; rfl)
    (hs : swapsWithSole [.Subscript (.Name x px) b tpos] e pos.line X.env = pure false := by rfl) (hw : swappedStores [.Subscript (.Name x px) b tpos] e X.env = pure none := by rfl)
    (h1 : (assignEach [.Subscript (.Name x px) b tpos] X.env).map (·.2) = [assign (.Subscript (.Name x px) b tpos) X.env] := by rfl) :
    PS X (.Assign [.Subscript (.Name x px) b tpos] e pos) (tOfS fr (kw X) (sIxO i f fb)) :=
  (ps_asg he (pg_sub ho hj set_list ha) hs hw h1).weak fun D σ H q => by
    obtain ⟨as, O, B, G, ρ, S, o, R, hf, k⟩ := q
    unfold sIxO at hf
    obtain ⟨⟨d1, S1⟩, h1, hf⟩ := Option.bind_eq_some_iff.mp hf
    obtain ⟨⟨d2, S2⟩, h2, hf⟩ := Option.bind_eq_some_iff.mp hf
    split at hf
    · rename_i xs j hx hj
      obtain ⟨n, hn, hf⟩ := Option.bind_eq_some_iff.mp hf
      cases hf
      have hj : d2 = .int j := hj
      subst hj
      obtain ⟨p, h3, nb, ng, cp⟩ := R.own i _ hx
      cases cp with
      | @lst ws _ hp t =>
        refine ⟨as, _, ρ, S, d1, S1, R.e, h1, fun v H1 s1 c1 r1 => ⟨.ref p, h3, ?_⟩⟩
        have R1 := R.step s1 c1
        refine ⟨as, _, ρ, S1, .int j, S2, R1.e, h2, fun w H2 s2 c2 r2 => ?_⟩
        have R2 := R1.step s2 c2
        cases r2
        have hp2 : H2 p = some (.lst ws) := s2 p _ (R.notas nb) (s1 p _ (R.notas nb) hp)
        have t2 := (t.stp R.wf s1).stp R1.wf s2
        have r1' := r1.stp R1.wf s2
        have kk : Kp (OO O ρ σ) H2 (upd H2 p (.lst (List.set ws n v))) := fun b u n e => by
          rw [upd_ne (fun z => n (by rw [z]; exact .inr ⟨i, _, hx, h3⟩))]
          exact e
        refine ⟨p, _, j, n, rfl, rfl, hp2, by rw [Rp.length t2]; exact hn, ?_⟩
        exact k _ _ (R2.mutOwn (o := .lst (List.set ws n v)) hx h3 trivial (.lst upd_same (RpL.kp R2.wf.nt kk _ _ (RpL.set r1' n t2))))
    · cases hf
def sIxC (fo f fj : Ev) : Sv := fun ρ S => (f ρ S).bind fun p => (fo ρ p.2).bind fun t => (fj ρ t.2).bind fun q => match t.1, q.1 with
  | .obj k, .int j => match q.2[k]? with
    | some (.lst xs) => (ixN xs.length j).bind fun n => some (.nx ρ (q.2.set k (.lst (xs.set n p.1))))
    | _ => none
  | _, _ => none
theorem ms_ixC {tpos : Pos} {fo : Ev} (ho : PE X a (tOf (kw X) fo)) (hj : PE X b (tOf (kw X) fb)) (he : PE X e (tOf (kw X) f))
    (ha : ∀ v, assign (.Subscript a b tpos) X.env v = (do
      let ov ← holding [v] (eval a X.env)
      let iv ← holding [v, ov] (eval b X.env)
      standAt tpos
      holding [v, ov, iv] (setItem ov iv v)
      release [v, ov, iv] []) := by intro _; rfl)
    (hs : swapsWithSole [.Subscript a b tpos] e pos.line X.env = pure false := by rfl) (hw : swappedStores [.Subscript a b tpos] e X.env = pure none := by rfl)
    (h1 : (assignEach [.Subscript a b tpos] X.env).map (·.2) = [assign (.Subscript a b tpos) X.env] := by rfl) :
    PS X (.Assign [.Subscript a b tpos] e pos) (tOfS fr (kw X) (sIxC fo f fb)) :=
  (ps_asg he (pg_sub ho hj set_list ha) hs hw h1).weak fun D σ H q => by
    obtain ⟨as, O, B, G, ρ, S, o, R, hf, k⟩ := q
    unfold sIxC at hf
    obtain ⟨⟨d1, S1⟩, h1, hf⟩ := Option.bind_eq_some_iff.mp hf
    obtain ⟨⟨d0, S0⟩, h0, hf⟩ := Option.bind_eq_some_iff.mp hf
    obtain ⟨⟨d2, S2⟩, h2, hf⟩ := Option.bind_eq_some_iff.mp hf
    split at hf
    · rename_i kx j hk hj
      have hk : d0 = .obj kx := hk
      have hj : d2 = .int j := hj
      subst hk hj
      split at hf
      · rename_i xs hx
        obtain ⟨n, hn, hf⟩ := Option.bind_eq_some_iff.mp hf
        cases hf
        refine ⟨as, _, ρ, S, d1, S1, R.e, h1, fun v H1 s1 c1 r1 => ?_⟩
        have R1 := R.step s1 c1
        refine ⟨as, _, ρ, S1, .obj kx, S0, R1.e, h0, fun v0 H3 s3 c3 r3 => ?_⟩
        have R3 := R1.step s3 c3
        refine ⟨as, _, ρ, S0, .int j, S2, R3.e, h2, fun w H2 s2 c2 r2 => ?_⟩
        have R2 := R3.step s2 c2
        cases r2
        cases r3 with
        | @obj p _ hp =>
          have hx : S2[kx]? = some (.lst xs) := hx
          cases c2.ix _ _ _ hp hx with
          | @lst ws _ hq t =>
            have r1' := (r1.stp R1.wf s3).stp R3.wf s2
            have kk : Kp (OO O ρ σ) H2 (upd H2 p (.lst (List.set ws n v))) := fun b u nn e => by
              rw [upd_ne (fun z => nn (by rw [z]; exact .inl (R.sub _ (List.mem_of_getElem? hp))))]
              exact e
            refine ⟨_, _, j, n, rfl, rfl, hq, by rw [Rp.length t]; exact hn, ?_⟩
            exact k _ _ (R2.mutCell (o := .lst (List.set ws n v)) hx hp trivial (.lst upd_same (RpL.kp R2.wf.nt kk _ _ (RpL.set r1' n t))))
      · cases hf
    · cases hf
def sFrz (i : Nat) (g : Sv) : Sv := fun ρ S => match ρ[i]? with
  | some (.own d) => g (ρ.set i (.val d)) S
  | _ => none
theorem mss_frz (i : Nat) (h : PSs X sts (tOfS fr (kw X) g1)) : PSs X sts (tOfS fr (kw X) (sFrz i g1)) := h.weak fun D σ H q => by
  obtain ⟨as, O, B, G, ρ, S, o, R, hf, k⟩ := q
  unfold sFrz at hf
  split at hf
  · rename_i d hd
    exact ⟨as, O, B, G, _, S, o, R.freeze hd, hf, k⟩
  · cases hf
def sExp (f : Ev) : Sv := fun ρ S => (f ρ S).bind fun p => some (.nx ρ p.2)
theorem ms_exp (he : PE X e (tOf (kw X) f)) (hsw : swapsWith e none pos.line X.env = pure false := by rfl) : PS X (.Expr e pos) (tOfS fr (kw X) (sExp f)) := (ps_expr he hsw).weak fun D σ H q => by
  obtain ⟨as, O, B, G, ρ, S, o, R, hf, k⟩ := q
  unfold sExp at hf
  obtain ⟨⟨d1, S1⟩, h1, hf⟩ := Option.bind_eq_some_iff.mp hf
  cases hf
  exact ⟨as, _, ρ, S, d1, S1, R.e, h1, fun v H1 s1 c1 r1 => k _ _ (R.step s1 c1)⟩
end
end DL
namespace DL
open PySem PySem.Spec PyProof.Rows L2
structure KC (K : PySem.W.Frag) (mgf : Str → Option Value) (x : Str) (d : D) where
  v : V
  u : Value
  mg : mgf x = some u
  rv : RelV v u
  kd : KD K v d
section
variable {P : Program} {w : World} {K : PySem.W.Frag} {mg : Str → Option Value} {base : Heap}
theorem fnM_none {k : Nat} {x : Str} {f : Addr} {fd : FuncData} {ps : List Str} {fr : Bool} (hg : mg x = some (.ref f)) (kp : PySem.W.keepIn K (.ref f) = true) (bd : Binds K fd ps []) : FnM P w K mg base k x f fd ps fr (fun _ _ => none) :=
  ⟨⟨fun _ _ _ _ h => h.1, fun _ _ _ _ h => by
    obtain ⟨_, _, _, _, _, _, _, _, _, _, h, _⟩ := h
    cases h⟩, hg, kp, bd⟩
theorem FnM.mono {k j : Nat} {x : Str} {f : Addr} {fd : FuncData} {ps : List Str} {fr : Bool} {m : List D → List D → Option (D × List D)} (F : FnM P w K mg base j x f fd ps fr m) (h : j ≤ k) : FnM P w K mg base k x f fd ps fr m := ⟨F.ok.mono h, F.mg, F.kp, F.bd⟩
end
theorem hu65 {A : Around} {k : Nat} (hr : RoomG k A) : A.units + 65 < cLine := by have := hr.rm.un; omega
theorem hu64 {A : Around} {k : Nat} (hr : RoomG k A) : A.units + 64 < cLine := hr.rm.units
section
variable {X : Cx} {pos pos' : Pos} {e : Expr} {f : Ev} {g1 : Sv} {sts : List Stmt} {i : Nat} {x : Str}
def sCell (i : Nat) (f : Ev) (g : Sv) : Sv := fun ρ S => match S with
  | [] => if i < ρ.length then (f ρ []).bind fun p => match p.2 with
    | [] => (g (ρ.set i (.val (.obj 0))) [p.1]).bind fun o => match o with
      | .rt (.bl b) _ => some (.rt (.bl b) [])
      | _ => none
    | _ => none
    else none
  | _ => none
theorem mss_cell (hN : X.N.Nodup) (hi : X.N[i]? = some x) (hx : Loc X.env.scope x) (he : PE X e (tOfF (kw X) f)) (hr : PSs X sts (tOfS false (kw X) g1)) (hs : swapsWith e (some (.Name x pos')) pos.line X.env = pure false := by rfl) (hf : X.fn x = true ∨ X.env.scope.names.lookup x = some .local := by first | exact .inl rfl | exact .inr rfl | assumption) :
    PSs X (.Assign [.Name x pos'] e pos :: sts) (tOfS false (kw X) (sCell i f g1)) := (pss_cons (ps_set hN hi hx he hs hf) hr).weak fun D σ H q => by
  obtain ⟨as, O, B, G, ρ, S, o, R, hf, k⟩ := q
  have las := R.cells.len
  unfold sCell at hf
  split at hf
  case h_2 => cases hf
  case h_1 =>
  split at hf
  case isFalse => cases hf
  case isTrue hi' =>
  obtain ⟨⟨d1, S1⟩, h1, hf⟩ := Option.bind_eq_some_iff.mp hf
  split at hf
  case h_2 => cases hf
  case h_1 hS1 =>
  have hS1 : S1 = [] := hS1
  subst hS1
  obtain ⟨o1, h2, hf⟩ := Option.bind_eq_some_iff.mp hf
  split at hf
  case h_2 => cases hf
  case h_1 b S2 =>
  cases hf
  have eas : as = [] := List.length_eq_zero_iff.mp las
  subst eas
  refine ⟨[], _, ρ, [], d1, [], R.e, h1, fun p H1 n s1 c1 q1 => ?_⟩
  show tOfS false (kw X) g1 D (σ.set i (some (.ref p))) H1
  have R1 := R.setOwn (d := d1) i hi' n s1 c1 q1
  refine ⟨[p], ad O p, fun a => B a ∨ a = p, fun a u => G a u ∧ a ≠ p, ρ.set i (.val (.obj 0)), [d1], .rt (.bl b) S2, ?_, h2, ?_⟩
  · have hl : i < σ.length := by rw [R.len]; exact hi'
    have nB : ¬ B p := fun z => R.bt p z n
    have hp1 : Mut (H1 p) := q1.mt
    have sb : ∀ a, OO (ad O p) (ρ.set i (.val (.obj 0))) (σ.set i (some (.ref p))) a → OO O (ρ.set i (.own d1)) (σ.set i (some (.ref p))) a := fun a h => by
      have ownp : OO O (ρ.set i (.own d1)) (σ.set i (some (.ref p))) p := .inr ⟨i, d1, List.getElem?_set_self hi', List.getElem?_set_self hl⟩
      rcases h with h | ⟨j, e, h3, h4⟩
      · rcases h with h | h
        · exact .inl h
        · rw [h]; exact ownp
      · rcases get_set h3 with ⟨rfl, z⟩ | ⟨ne, z⟩
        · cases z
        · exact .inr ⟨j, e, (List.getElem?_set_ne (Ne.symm ne)).trans z, h4⟩
    have an : ∀ {v : V} {d : DL.D}, Rp (kw X) [] (OO O (ρ.set i (.own d1)) (σ.set i (some (.ref p)))) H1 v d → Rp (kw X) [p] (OO (ad O p) (ρ.set i (.val (.obj 0))) (σ.set i (some (.ref p)))) H1 v d := fun {v d} r => (rpAs (as := []) (bs := [p]) (fun i a h => by cases i <;> cases h)).1 v d (Rp.anti sb _ _ r)
    have anL : ∀ {v : List V} {d : List DL.D}, RpL (kw X) [] (OO O (ρ.set i (.own d1)) (σ.set i (some (.ref p)))) H1 v d → RpL (kw X) [p] (OO (ad O p) (ρ.set i (.val (.obj 0))) (σ.set i (some (.ref p)))) H1 v d := fun {v d} r => (rpAs (as := []) (bs := [p]) (fun i a h => by cases i <;> cases h)).2 v d (RpL.anti sb _ _ r)
    have anC : ∀ {a : Addr} {d : DL.D}, CellR (kw X) [] (OO O (ρ.set i (.own d1)) (σ.set i (some (.ref p)))) H1 a d → CellR (kw X) [p] (OO (ad O p) (ρ.set i (.val (.obj 0))) (σ.set i (some (.ref p)))) H1 a d := fun c => by
      cases c with
      | lst h r => exact .lst h (anL r)
      | dct h r t9 e9 k9 => exact .dct h (anL r) (anL t9) e9 k9
      | kd h e9 t9 => exact .kd h e9 (anL t9)
    refine ⟨fun a m => .inr (by simpa using m), fun a h => h.elim (fun z => .inl (R.ob a z)) .inr, fun a h => ?_, fun a h => ?_, by simp, fun a u h => R1.g a u h.1, fun a u h m => h.2 (by simpa using m), ⟨rfl, fun j a d e1 e2 => ?_⟩, by simp [R.len], fun j d h => ?_, fun j d h => ?_, fun j k' d e a ne h3 h4 h5 => ?_⟩
    · rcases h with h | h
      · exact R1.bt a h
      · rw [h]; intro z; rw [z] at hp1; exact hp1
    · rcases h with h | h
      · exact R1.mt a h
      · rw [h]; exact hp1
    · cases j with
      | zero =>
        cases e1
        cases e2
        obtain ⟨a', ha', _, _, cc⟩ := R1.own i d1 (List.getElem?_set_self hi')
        rw [List.getElem?_set_self hl] at ha'
        cases ha'
        exact anC cc
      | succ j => cases e1
    · rcases get_set h with ⟨rfl, z⟩ | ⟨ne, z⟩
      · cases z
        exact ⟨.ref p, List.getElem?_set_self hl, .obj rfl⟩
      · obtain ⟨v, h3, r⟩ := R1.val j d ((List.getElem?_set_ne (Ne.symm ne)).trans z)
        exact ⟨v, h3, an r⟩
    · rcases get_set h with ⟨rfl, z⟩ | ⟨ne, z⟩
      · cases z
      · obtain ⟨a, h3, nb, ng, cc⟩ := R1.own j d ((List.getElem?_set_ne (Ne.symm ne)).trans z)
        refine ⟨a, h3, fun z => ?_, fun u z => ng u z.1, anC cc⟩
        rcases z with z | z
        · exact nb z
        · subst z
          exact R1.dist i j d1 d a (Ne.symm ne) (List.getElem?_set_self hi') ((List.getElem?_set_ne (Ne.symm ne)).trans ‹_›) (List.getElem?_set_self hl) h3
    · rcases get_set h3 with ⟨rfl, z⟩ | ⟨ne1, z1⟩
      · cases z
      · rcases get_set h4 with ⟨rfl, z⟩ | ⟨ne2, z2⟩
        · cases z
        · exact R1.dist j k' d e a ne ((List.getElem?_set_ne (Ne.symm ne1)).trans z1) ((List.getElem?_set_ne (Ne.symm ne2)).trans z2) h5
  · intro v H2 g r
    obtain ⟨c2, r2, _⟩ := r
    cases r2
    refine k _ H2 (fun a u z => g a u ⟨z, fun e => ?_⟩) ⟨⟨rfl, fun i a d e1 e2 => by cases e2⟩, .bl b, fun z => (nomatch z)⟩
    subst e
    have := R.g a u z
    rw [n] at this
    cases this
end
def natAt (i : Nat) (ρ : List Slot) : Nat := match ρ[i]? with
  | some (.val (.int k)) => k.natAbs
  | _ => 0
theorem law_end {K : KW} {H : Hp} {a : Addr} {ns : List Int} {m : List D → List D → Option (D × List D)} (hS : SqL K H a (ns.map V.int)) (h : m [.scr ns] [] = some (.bl true, [])) :
    spM false K 1 m [.ref a] H (fun v _ => v = .bl true) fun _ _ _ => False := by
  refine ⟨rfl, [], fun _ => False, [.scr ns], [], .bl true, [], ⟨fun _ h => (nomatch h), fun _ h => h.elim, List.nodup_nil⟩, ⟨rfl, fun i a d e1 e2 => by cases e2⟩, .cons (.scr ?_) .nil, h, fun v H' _ _ r _ => by cases r; rfl⟩
  rcases hS with hS | ⟨o, its, n, h1, h2⟩
  · exact .inl ⟨fun h => h, hS⟩
  · exact .inr fun H' => .inr ⟨o, its, n, h1, h2⟩
end DL
namespace DL
open PySem PySem.Spec PyProof.Rows L2
section
variable (ρ : List Slot) (S : List D) (i j n : Nat) (d : D) (f fa fb fz : Ev) (fs : Ea) (c c2 : Et) (g g2 : Sv) (p : Pat) (it : Ea) (vs : List Nat)
theorem ev_C : eC d ρ S = some (d, S) := (rfl)
theorem ev_V : eV i ρ S = (match ρ[i]? with | some (.val d) => some (d, S) | _ => none) := (rfl)
theorem ev_B : eB i ρ S = (match ρ[i]? with | some (.val d) => some (d, S) | some (.own d) => some (d, S) | _ => none) := (rfl)
theorem ev_aN : aN ρ S = some ([], S) := (rfl)
theorem ev_aC : aC f fs ρ S = (f ρ S).bind fun p => (fs ρ p.2).bind fun q => some (p.1 :: q.1, q.2) := (rfl)
theorem ev_Tup : eTup fs ρ S = (fs ρ S).bind fun p => if p.1.length ≤ 16777216 then some (.tup p.1, p.2) else none := (rfl)
theorem ev_Lst : eLst fs ρ S = (fs ρ S).bind fun p => if p.1.length ≤ 16777216 then some (.lst p.1, p.2) else none := (rfl)
theorem ev_Bin (h : D → D → Option D) : eBin h fa fb ρ S = (fa ρ S).bind fun p => (fb ρ p.2).bind fun q => (h p.1 q.1).bind fun r => some (r, q.2) := (rfl)
theorem ev_Un (h : D → Option D) : eUn h fa ρ S = (fa ρ S).bind fun p => (h p.1).bind fun r => some (r, p.2) := (rfl)
theorem ev_UnF (h : D → Option (List D)) : eUnF h fa ρ S = (fa ρ S).bind fun p => (h p.1).bind fun r => some (.lst r, p.2) := (rfl)
theorem ev_cV : cV f ρ S = (f ρ S).bind fun p => match p.1 with | .bl b => some (b, p.2) | _ => none := (rfl)
theorem ev_cAnd : cAnd c c2 ρ S = (c ρ S).bind fun p => if p.1 = true then c2 ρ p.2 else some (false, p.2) := (rfl)
theorem ev_cOr : cOr c c2 ρ S = (c ρ S).bind fun p => if p.1 = true then some (true, p.2) else c2 ρ p.2 := (rfl)
theorem ev_cNot : cNot c ρ S = (c ρ S).bind fun p => some (!p.1, p.2) := (rfl)
theorem ev_cYes : cYes ρ S = some (true, S) := (rfl)
theorem ev_And : eAnd fa fb ρ S = (fa ρ S).bind fun p => match p.1 with | .bl true => fb ρ p.2 | .bl false => some (.bl false, p.2) | _ => none := (rfl)
theorem ev_Or : eOr fa fb ρ S = (fa ρ S).bind fun p => match p.1 with | .bl true => some (.bl true, p.2) | .bl false => fb ρ p.2 | _ => none := (rfl)
theorem ev_Not : eNot fa ρ S = (fa ρ S).bind fun p => match p.1 with | .bl b => some (.bl (!b), p.2) | _ => none := (rfl)
theorem ev_If : eIf c fa fb ρ S = (c ρ S).bind fun p => if p.1 = true then fa ρ p.2 else fb ρ p.2 := (rfl)
theorem ev_Chain (h h2 : D → D → Option D) : eChain h h2 fa fb fz ρ S = (fa ρ S).bind fun p => (fb ρ p.2).bind fun q => (h p.1 q.1).bind fun r => match r with
  | .bl true => (fz ρ q.2).bind fun t => (h2 q.1 t.1).bind fun u => some (u, t.2)
  | .bl false => some (.bl false, q.2)
  | _ => none := (rfl)
theorem ev_Call (m : List D → List D → Option (D × List D)) : eCall n m fs ρ S = (fs ρ S).bind fun q => if q.1.length = n then m q.1 q.2 else none := (rfl)
theorem ev_Ix : eIx fa fb ρ S = (fa ρ S).bind fun p => (fb ρ p.2).bind fun q => (ixD q.2 p.1 q.1).bind fun r => some (r, q.2) := (rfl)
theorem ev_Sl (lo hi : Eo) : eSl fa lo hi ρ S = (fa ρ S).bind fun p => (lo ρ p.2).bind fun q => (hi ρ q.2).bind fun t => (slD q.1 t.1 p.1).bind fun r => some (r, t.2) := (rfl)
theorem ev_oN : oN ρ S = some (none, S) := (rfl)
theorem ev_oE : oE f ρ S = (f ρ S).bind fun p => match p.1 with | .int i => some (some i, p.2) | _ => none := (rfl)
theorem ev_aS : aS f fs ρ S = (f ρ S).bind fun p => (match p.1 with | .lst xs => some xs | .tup xs => some xs | _ => none).bind fun xs => (fs ρ p.2).bind fun q => some (xs ++ q.1, q.2) := (rfl)
theorem ev_Comp : eComp p it c f vs ρ S = (it ρ S).bind fun q => if q.1.length ≤ 16777216 then (compL p c f (wipeD ρ vs) q.1 q.2).bind fun t => some (.lst t.1, t.2) else none := (rfl)
theorem ev_iAny : iAny f ρ S = (f ρ S).bind fun q => (seqOf q.1).bind fun xs => some (xs, q.2) := (rfl)
theorem ev_iRange1 : iRange1 fs ρ S = (fs ρ S).bind fun q => match q.1 with | [.int j] => if inWord j = true then some (rangeD 0 j, q.2) else none | _ => none := (rfl)
theorem ev_iRange2 : iRange2 fs ρ S = (fs ρ S).bind fun q => match q.1 with | [.int i, .int j] => if (inWord i && inWord j) = true then some (rangeD i j, q.2) else none | _ => none := (rfl)
theorem ev_iZip : iZip fs ρ S = (fs ρ S).bind fun q => match q.1 with | [d1, d2] => (seqOf d1).bind fun xs => (seqOf d2).bind fun ys => some (zipD xs ys, q.2) | _ => none := (rfl)
theorem ev_iEnum : iEnum fs ρ S = (fs ρ S).bind fun q => match q.1 with | [d1] => (seqOf d1).bind fun xs => some (enumD 0 xs, q.2) | _ => none := (rfl)
theorem ev_sNil : sNil ρ S = some (.nx ρ S) := (rfl)
theorem ev_sSeq : sSeq g g2 ρ S = (g ρ S).bind fun o => match o with | .nx ρ' S' => g2 ρ' S' | o => some o := (rfl)
theorem ev_sIf : sIf c g g2 ρ S = (c ρ S).bind fun p => if p.1 = true then g ρ p.2 else g2 ρ p.2 := (rfl)
theorem ev_sRet : sRet f ρ S = (f ρ S).bind fun p => some (.rt p.1 p.2) := (rfl)
theorem ev_sRetO : sRetO i ρ S = (match ρ[i]? with | some (.own d) => some (.rt d S) | _ => none) := (rfl)
theorem ev_sRetN : sRetN ρ S = some (.rt .non S) := (rfl)
theorem ev_sAsg : sAsg p f ρ S = (f ρ S).bind fun q => (binds p q.1).bind fun l => some (.nx (putD ρ l) q.2) := (rfl)
theorem ev_sSet : sSet i f ρ S = (f ρ S).bind fun q => some (.nx (ρ.set i (.val q.1)) q.2) := (rfl)
theorem ev_sSetO : sSetO i f ρ S = (f ρ S).bind fun q => if i < ρ.length then some (.nx (ρ.set i (.own q.1)) q.2) else none := (rfl)
theorem ev_sPar : sPar i j fa fb ρ S = (fa ρ S).bind fun p => (fb ρ p.2).bind fun q => some (.nx ((ρ.set i (.val p.1)).set j (.val q.1)) q.2) := (rfl)
theorem ev_sFor : sFor p it g ρ S = (it ρ S).bind fun q => forL p g q.1 ρ q.2 := (rfl)
theorem ev_sWhile (nf : List Slot → Nat) : sWhile nf c g ρ S = whileN c g (nf ρ) ρ S := (rfl)
theorem ev_sApp : sApp i f ρ S = (f ρ S).bind fun p => match ρ[i]? with | some (.own (.lst xs)) => if xs.length < 16777216 then some (.nx (ρ.set i (.own (.lst (xs ++ [p.1])))) p.2) else none | _ => none := (rfl)
theorem ev_sIxO (fj : Ev) : sIxO i f fj ρ S = (f ρ S).bind fun p => (fj ρ p.2).bind fun q => match ρ[i]?, q.1 with | some (.own (.lst xs)), .int j => (ixN xs.length j).bind fun n => some (.nx (ρ.set i (.own (.lst (xs.set n p.1)))) q.2) | _, _ => none := (rfl)
theorem ev_sIxC (fo fj : Ev) : sIxC fo f fj ρ S = (f ρ S).bind fun p => (fo ρ p.2).bind fun t => (fj ρ t.2).bind fun q => match t.1, q.1 with
  | .obj k, .int j => match q.2[k]? with
    | some (.lst xs) => (ixN xs.length j).bind fun n => some (.nx ρ (q.2.set k (.lst (xs.set n p.1))))
    | _ => none
  | _, _ => none := (rfl)
theorem ev_sFrz : sFrz i g ρ S = (match ρ[i]? with | some (.own d) => g (ρ.set i (.val d)) S | _ => none) := (rfl)
theorem ev_sExp : sExp f ρ S = (f ρ S).bind fun p => some (.nx ρ p.2) := (rfl)
theorem ev_sPass : sPass ρ S = some (.nx ρ S) := (rfl)
theorem ev_runB (fr : Bool) (N : Nat) (ds : List D) : runB fr N g ds S = (g (ds.map .val ++ List.replicate (N - ds.length) .non) S).bind fun o => match o with
  | .rt d S' => some (d, S')
  | .nx _ S' => if fr = true then none else some (.non, S')
  | _ => none := (rfl)
theorem ev_while (fb' : Sv) : whileN c fb' (n + 1) ρ S = (c ρ S).bind fun q => if q.1 = true then (fb' ρ q.2).bind fun o => match o with
    | .nx ρ' S' => whileN c fb' n ρ' S'
    | .ct ρ' S' => whileN c fb' n ρ' S'
    | .bk ρ' S' => some (.nx ρ' S')
    | .rt d S' => some (.rt d S')
    else some (.nx ρ q.2) := (rfl)
theorem ev_forN : forL p g [] ρ S = some (.nx ρ S) := (rfl)
theorem ev_forC (x : D) (xs : List D) : forL p g (x :: xs) ρ S = (binds p x).bind fun l => (g (putD ρ l) S).bind fun o => match o with
    | .nx ρ' S' => forL p g xs ρ' S'
    | .ct ρ' S' => forL p g xs ρ' S'
    | .bk ρ' S' => some (.nx ρ' S')
    | .rt d S' => some (.rt d S') := (rfl)
theorem ev_compN : compL p c f ρ [] S = some ([], S) := (rfl)
theorem ev_compC (x : D) (xs : List D) : compL p c f ρ (x :: xs) S = (binds p x).bind fun l => (c (putD ρ l) S).bind fun q => if q.1 = true then (f (putD ρ l) q.2).bind fun r => (compL p c f ρ xs r.2).bind fun t => some (r.1 :: t.1, t.2)
    else compL p c f ρ xs q.2 := (rfl)
theorem ev_put0 : putD ρ [] = ρ := (rfl)
theorem ev_put1 (l : List (Nat × D)) : putD ρ ((i, d) :: l) = putD (ρ.set i (.val d)) l := (rfl)
theorem ev_wipe0 : wipeD ρ [] = ρ := (rfl)
theorem ev_wipe1 : wipeD ρ (n :: vs) = (wipeD ρ vs).set n .non := (rfl)
theorem ev_nat (ρ : List Slot) (i : Nat) : natAt i ρ = (match ρ[i]? with | some (.val (.int k)) => k.natAbs | _ => 0) := (rfl)
theorem ev_bnm : binds (.nm i) d = some [(i, d)] := by unfold binds; rfl
theorem ev_btup (ps : List Pat) (ds : List D) : binds (.tup ps) (.tup ds) = bindsL ps ds := by simp only [binds]
theorem ev_bL0 : bindsL [] [] = some [] := by unfold bindsL; rfl
theorem ev_bL1 (ps : List Pat) (ds : List D) : bindsL (p :: ps) (d :: ds) = (binds p d).bind fun a => (bindsL ps ds).bind fun b => some (a ++ b) := by simp only [bindsL]
end
section
variable (a b : Int) (S : List D) (xs ys : List D) (k : Nat)
theorem dv_add : dAdd (.int a) (.int b) = some (.int (a + b)) := (rfl)
theorem dv_sub : dSub (.int a) (.int b) = some (.int (a - b)) := (rfl)
theorem dv_neg : dNeg (.int a) = some (.int (-a)) := (rfl)
theorem dv_mul (h : (small a || small b || (wide a && wide b)) = true) : dMul (.int a) (.int b) = some (.int (a * b)) := by
  show (if (small a || small b || (wide a && wide b)) = true then some (D.int (a * b)) else none) = _
  rw [if_pos h]
theorem dv_mod (h : 0 < b) : dMod (.int a) (.int b) = some (.int (a % b)) := by
  show (if b = 0 then none else some (D.int (a.fmod b))) = _
  rw [if_neg (by omega), Int.fmod_eq_emod_of_nonneg _ (by omega)]
theorem dv_div (h : 0 < b) (w : wide b = true) : dDiv (.int a) (.int b) = some (.int (a / b)) := by
  show (if (decide (0 < b) && wide b) = true then some (D.int (a / b)) else _) = _
  rw [if_pos (by rw [w, Bool.and_true]; exact decide_eq_true h)]
theorem dv_lt : dLt (.int a) (.int b) = some (.bl (decide (a < b))) := (rfl)
theorem dv_le : dLe (.int a) (.int b) = some (.bl (decide (a ≤ b))) := (rfl)
theorem dv_gt : dGt (.int a) (.int b) = some (.bl (decide (b < a))) := (rfl)
theorem dv_ge : dGe (.int a) (.int b) = some (.bl (decide (b ≤ a))) := (rfl)
theorem dv_int : dInt (.int a) = some (.int a) := (rfl)
theorem dv_abs : dAbs (.int a) = some (.int (a.natAbs : Int)) := by unfold dAbs; simp only [Option.some.injEq, D.int.injEq]; split <;> omega
theorem dv_lenL : dLen (.lst xs) = some (.int xs.length) := (rfl)
theorem dv_lenT : dLen (.tup xs) = some (.int xs.length) := (rfl)
theorem dv_tupL : dTup (.lst xs) = some (.tup xs) := (rfl)
theorem dv_tupT : dTup (.tup xs) = some (.tup xs) := (rfl)
theorem dv_lofL : lOf (.lst xs) = some xs := (rfl)
theorem dv_lofT : lOf (.tup xs) = some xs := (rfl)
theorem dv_lofS (ns : List Int) : lOf (.scr ns) = some (ns.map .int) := (rfl)
theorem dv_seqL : seqOf (.lst xs) = some xs := (rfl)
theorem dv_seqT : seqOf (.tup xs) = some xs := (rfl)
theorem dv_ixL : ixD S (.lst xs) (.int a) = atI xs a := (rfl)
theorem dv_ixT : ixD S (.tup xs) (.int a) = atI xs a := (rfl)
theorem dv_ixO : ixD S (.obj k) (.int a) = (match S[k]? with | some (.lst xs) => atI xs a | _ => none) := (rfl)
theorem atI_nat {α : Type} (ys : List α) (n : Nat) : atI ys (n : Int) = ys[n]? := by
  unfold atI ixN
  rw [if_pos (by omega)]
  by_cases h : n < ys.length
  · rw [if_pos (by omega)]; rfl
  · rw [if_neg (by omega), List.getElem?_eq_none (by omega)]; rfl
theorem atI_0 {α : Type} (ys : List α) : atI ys 0 = ys[0]? := atI_nat ys 0
theorem atI_1 {α : Type} (ys : List α) : atI ys 1 = ys[1]? := atI_nat ys 1
theorem atI_2 {α : Type} (ys : List α) : atI ys 2 = ys[2]? := atI_nat ys 2
end
end DL
namespace DL
open PySem PySem.Spec PyProof.Rows L2
theorem forL_inv0 {p : Pat} {g : Sv} (P : List D → List Slot → List D → Prop) (N : Nat) : ∀ (xs pre : List D) (ρ : List Slot) (S : List D), pre.length + xs.length ≤ N → P pre ρ S →
    (∀ pre x ρ S, x ∈ xs → pre.length < N → P pre ρ S → ∃ l ρ' S', binds p x = some l ∧ g (putD ρ l) S = some (.nx ρ' S') ∧ P (pre ++ [x]) ρ' S') →
    ∃ ρ' S', forL p g xs ρ S = some (.nx ρ' S') ∧ P (pre ++ xs) ρ' S'
  | [], pre, ρ, S, _, h, _ => ⟨ρ, S, rfl, by rw [List.append_nil]; exact h⟩
  | x :: xs, pre, ρ, S, hN, h, step => by
    simp only [List.length_cons] at hN
    obtain ⟨l, ρ1, S1, h1, h2, h3⟩ := step pre x ρ S List.mem_cons_self (by omega) h
    obtain ⟨ρ2, S2, h4, h5⟩ := forL_inv0 P N xs (pre ++ [x]) ρ1 S1 (by simp only [List.length_append, List.length_cons, List.length_nil]; omega) h3 (fun pre y ρ S m => step pre y ρ S (List.mem_cons_of_mem _ m))
    refine ⟨ρ2, S2, ?_, by rw [← List.append_cons] at h5; exact h5⟩
    rw [ev_forC, h1, Option.bind_some, h2, Option.bind_some]
    exact h4
theorem forL_inv {p : Pat} {g : Sv} (P : List D → List Slot → List D → Prop) (xs : List D) (ρ : List Slot) (S : List D) (h : P [] ρ S)
    (step : ∀ pre x ρ S, x ∈ xs → pre.length < xs.length → P pre ρ S → ∃ l ρ' S', binds p x = some l ∧ g (putD ρ l) S = some (.nx ρ' S') ∧ P (pre ++ [x]) ρ' S') :
    ∃ ρ' S', forL p g xs ρ S = some (.nx ρ' S') ∧ P xs ρ' S' := by
  have := forL_inv0 P xs.length xs [] ρ S (by simp) h step
  simpa using this
theorem forL_all {p : Pat} {g : Sv} (P : List Slot → List D → Prop) (xs : List D) (ρ : List Slot) (S : List D) (h : P ρ S)
    (step : ∀ x ρ S, x ∈ xs → P ρ S → ∃ l ρ' S', binds p x = some l ∧ (g (putD ρ l) S = some (.nx ρ' S') ∨ g (putD ρ l) S = some (.ct ρ' S')) ∧ P ρ' S') :
    ∃ ρ' S', forL p g xs ρ S = some (.nx ρ' S') ∧ P ρ' S' := by
  induction xs generalizing ρ S with
  | nil => exact ⟨ρ, S, rfl, h⟩
  | cons x xs ih =>
    obtain ⟨l, ρ1, S1, h1, h2, h3⟩ := step x ρ S List.mem_cons_self h
    obtain ⟨ρ2, S2, h4, h5⟩ := ih ρ1 S1 h3 (fun y ρ S m => step y ρ S (List.mem_cons_of_mem _ m))
    refine ⟨ρ2, S2, ?_, h5⟩
    rcases h2 with h2 | h2 <;> (rw [ev_forC, h1, Option.bind_some, h2, Option.bind_some]; exact h4)
theorem forL_fold {α β : Type} {p : Pat} {g : Sv} (e : β → D) (G : α → List Slot) (F : α → β → α) (S : List D) (ok : α → Prop)
    (step : ∀ a x, ok a → ∃ l, binds p (e x) = some l ∧ g (putD (G a) l) S = some (.nx (G (F a x)) S) ∧ ok (F a x)) : ∀ (xs : List β) (a : α), ok a → forL p g (xs.map e) (G a) S = some (.nx (G (xs.foldl F a)) S) ∧ ok (xs.foldl F a)
  | [], a, h => ⟨rfl, h⟩
  | x :: xs, a, h => by
    obtain ⟨l, h1, h2, h3⟩ := step a x h
    rw [List.map_cons, ev_forC, h1, Option.bind_some, h2, Option.bind_some]
    exact forL_fold e G F S ok step xs (F a x) h3
theorem compL_map {β : Type} {p : Pat} {f : Ev} {ρ : List Slot} {S : List D} (e h : β → D) : ∀ (xs : List β), (∀ x ∈ xs, ∃ l, binds p (e x) = some l ∧ f (putD ρ l) S = some (h x, S)) → compL p cYes f ρ (xs.map e) S = some (xs.map h, S)
  | [], _ => rfl
  | x :: xs, H => by
    obtain ⟨l, h1, h2⟩ := H x List.mem_cons_self
    rw [List.map_cons, ev_compC, h1, Option.bind_some, ev_cYes, Option.bind_some]
    simp only [if_true]
    rw [h2, Option.bind_some, compL_map e h xs (fun y m => H y (List.mem_cons_of_mem _ m)), Option.bind_some]
    rfl
theorem compL_filter {β : Type} {p : Pat} {c : Et} {f : Ev} {ρ : List Slot} {S : List D} (e h : β → D) (t : β → Bool) : ∀ (xs : List β), (∀ x ∈ xs, ∃ l, binds p (e x) = some l ∧ c (putD ρ l) S = some (t x, S) ∧ (t x = true → f (putD ρ l) S = some (h x, S))) → compL p c f ρ (xs.map e) S = some ((xs.filter t).map h, S)
  | [], _ => rfl
  | x :: xs, H => by
    obtain ⟨l, h1, h2, h3⟩ := H x List.mem_cons_self
    have ih := compL_filter e h t xs (fun y m => H y (List.mem_cons_of_mem _ m))
    rw [List.map_cons, ev_compC, h1, Option.bind_some, h2, Option.bind_some]
    cases ht : t x with
    | true =>
      simp only [if_true]
      rw [h3 ht, Option.bind_some, ih, Option.bind_some, List.filter_cons_of_pos ht]
      rfl
    | false =>
      simp only [Bool.false_eq_true, if_false]
      rw [ih, List.filter_cons_of_neg (by rw [ht]; decide)]
theorem rangeD_eq (n : Nat) : rangeD 0 (n : Int) = (List.range n).map fun (k : Nat) => D.int (k : Int) := by
  unfold rangeD
  rw [Int.sub_zero, Int.toNat_natCast]
  simp only [Int.zero_add]
theorem pick_of {xs : List D} {k : Int} (h0 : 0 ≤ k) (h1 : k < (xs.length : Int)) : ∃ d, d ∈ xs ∧ atI xs k = some d := by
  obtain ⟨n, rfl⟩ : ∃ n : Nat, k = n := ⟨k.toNat, by omega⟩
  rw [atI_nat]
  have : n < xs.length := by omega
  exact ⟨xs[n], List.getElem_mem _, List.getElem?_eq_getElem this⟩
mutual
theorem eqD_refl : ∀ d : D, okD 1000 d = true → eqD d d = true
  | .non, _ => rfl
  | .bl b, _ => by simp [eqD]
  | .int i, _ => by simp [eqD]
  | .str x, _ => by simp [eqD]
  | .tup xs, h => by
    simp only [eqD]
    exact eqL_refl xs (okL_mono 999 1000 (by decide) xs (by simpa [okD] using h))
  | .lst xs, h => by
    simp only [eqD]
    exact eqL_refl xs (okL_mono 999 1000 (by decide) xs (by simpa [okD] using h))
  | .obj _, h => by simp [okD] at h
  | .dct _, h => by simp [okD] at h
  | .kd _, h => by simp [okD] at h
  | .scr _, h => by simp [okD] at h
theorem eqL_refl : ∀ d : List D, okL 1000 d = true → eqL d d = true
  | [], _ => rfl
  | x :: xs, h => by
    have a : okD 1000 x = true ∧ okL 1000 xs = true := by simpa [okL] using h
    simp only [eqL]
    rw [eqD_refl x a.1, eqL_refl xs a.2]
    rfl
theorem okD_mono : ∀ (n m : Nat), n ≤ m → ∀ d : D, okD n d = true → okD m d = true
  | _, _, _, .non, _ => by simp [okD]
  | _, _, _, .bl _, _ => by simp [okD]
  | _, _, _, .int _, _ => by simp [okD]
  | _, _, _, .str _, h => by simpa [okD] using h
  | n + 1, m + 1, h, .tup xs, hd => by
    simp only [okD] at hd ⊢
    exact okL_mono n m (by omega) xs hd
  | n + 1, m + 1, h, .lst xs, hd => by
    simp only [okD] at hd ⊢
    exact okL_mono n m (by omega) xs hd
  | 0, _, _, .tup _, h => by simp [okD] at h
  | 0, _, _, .lst _, h => by simp [okD] at h
  | _ + 1, 0, h, .tup _, _ => by omega
  | _ + 1, 0, h, .lst _, _ => by omega
  | _, _, _, .obj _, h => by simp [okD] at h
  | _, _, _, .dct _, h => by simp [okD] at h
  | _, _, _, .kd _, h => by simp [okD] at h
  | _, _, _, .scr _, h => by simp [okD] at h
theorem okL_mono : ∀ (n m : Nat), n ≤ m → ∀ d : List D, okL n d = true → okL m d = true
  | _, _, _, [], _ => by simp [okL]
  | n, m, h, x :: xs, hd => by
    have a : okD n x = true ∧ okL n xs = true := by simpa [okL] using hd
    simp only [okL]
    rw [okD_mono n m h x a.1, okL_mono n m h xs a.2]
    rfl
end
section
variable {ρ ρ' : List Slot} {S S' : List D} {g T a b : Sv} {c : Et} {f fa fb : Ev} {d d2 : D} {o : Out} {i j : Nat} {p : Pat} {it : Ea}
theorem seq_nx (h : g ρ S = some (.nx ρ' S')) : sSeq g T ρ S = T ρ' S' := by rw [ev_sSeq, h, Option.bind_some]
theorem seq_rt (h : g ρ S = some (.rt d S')) : sSeq g T ρ S = some (.rt d S') := by rw [ev_sSeq, h, Option.bind_some]
theorem if_t (h : c ρ S = some (true, S')) : sIf c a b ρ S = a ρ S' := by rw [ev_sIf, h, Option.bind_some]; rfl
theorem if_f (h : c ρ S = some (false, S')) : sIf c a b ρ S = b ρ S' := by rw [ev_sIf, h, Option.bind_some]; rfl
theorem ret_s (h : f ρ S = some (d, S')) : sRet f ρ S = some (.rt d S') := by rw [ev_sRet, h, Option.bind_some]
theorem set_s (h : f ρ S = some (d, S')) : sSet i f ρ S = some (.nx (ρ.set i (.val d)) S') := by rw [ev_sSet, h, Option.bind_some]
theorem par_s {S2 : List D} (h : fa ρ S = some (d, S')) (h2 : fb ρ S' = some (d2, S2)) : sPar i j fa fb ρ S = some (.nx ((ρ.set i (.val d)).set j (.val d2)) S2) := by rw [ev_sPar, h, Option.bind_some, h2, Option.bind_some]
theorem asg_s {l : List (Nat × D)} (h : f ρ S = some (d, S')) (hb : binds p d = some l) : sAsg p f ρ S = some (.nx (putD ρ l) S') := by rw [ev_sAsg, h, Option.bind_some, hb, Option.bind_some]
theorem for_s {ds : List D} (h : it ρ S = some (ds, S')) (h2 : forL p g ds ρ S' = some o) : sFor p it g ρ S = some o := by rw [ev_sFor, h, Option.bind_some]; exact h2
theorem exp_s (h : f ρ S = some (d, S')) : sExp f ρ S = some (.nx ρ S') := by rw [ev_sExp, h, Option.bind_some]
theorem run_rt {fr : Bool} {N : Nat} {ds : List D} (hρ : ds.map .val ++ List.replicate (N - ds.length) .non = ρ) (h : g ρ S = some (.rt d S')) : runB fr N g ds S = some (d, S') := by rw [ev_runB, hρ, h, Option.bind_some]
theorem run_nx {N : Nat} {ds : List D} (hρ : ds.map .val ++ List.replicate (N - ds.length) .non = ρ) (h : g ρ S = some (.nx ρ' S')) : runB false N g ds S = some (.non, S') := by rw [ev_runB, hρ, h, Option.bind_some]; rfl
theorem comp_s {vs : List Nat} {ds : List D} {res : List D} {S2 : List D} (h : it ρ S = some (ds, S')) (hl : ds.length ≤ 16777216) (h2 : compL p c f (wipeD ρ vs) ds S' = some (res, S2)) : eComp p it c f vs ρ S = some (.lst res, S2) := by
  rw [ev_Comp, h, Option.bind_some, if_pos hl, h2, Option.bind_some]
theorem call_s {n : Nat} {m : List D → List D → Option (D × List D)} {fs : Ea} {ds : List D} {r : D × List D} (h : fs ρ S = some (ds, S')) (hn : ds.length = n) (h2 : m ds S' = some r) : eCall n m fs ρ S = some r := by
  rw [ev_Call, h, Option.bind_some, if_pos hn, h2]
theorem bin_s {g : D → D → Option D} {S2 : List D} {r : D} (h : fa ρ S = some (d, S')) (h2 : fb ρ S' = some (d2, S2)) (h3 : g d d2 = some r) : eBin g fa fb ρ S = some (r, S2) := by
  rw [ev_Bin, h, Option.bind_some, h2, Option.bind_some, h3, Option.bind_some]
theorem un_s {g : D → Option D} {r : D} (h : fa ρ S = some (d, S')) (h3 : g d = some r) : eUn g fa ρ S = some (r, S') := by
  rw [ev_Un, h, Option.bind_some, h3, Option.bind_some]
theorem unF_s {g : D → Option (List D)} {r : List D} (h : fa ρ S = some (d, S')) (h3 : g d = some r) : eUnF g fa ρ S = some (.lst r, S') := by
  rw [ev_UnF, h, Option.bind_some, h3, Option.bind_some]
theorem ix_s {S2 : List D} {r : D} (h : fa ρ S = some (d, S')) (h2 : fb ρ S' = some (d2, S2)) (h3 : ixD S2 d d2 = some r) : eIx fa fb ρ S = some (r, S2) := by
  rw [ev_Ix, h, Option.bind_some, h2, Option.bind_some, h3, Option.bind_some]
theorem eif_t (h : c ρ S = some (true, S')) : eIf c fa fb ρ S = fa ρ S' := by rw [ev_If, h, Option.bind_some]; rfl
theorem eif_f (h : c ρ S = some (false, S')) : eIf c fa fb ρ S = fb ρ S' := by rw [ev_If, h, Option.bind_some]; rfl
theorem aC_s {fs : Ea} {ds S2 : List D} (h : f ρ S = some (d, S')) (h2 : fs ρ S' = some (ds, S2)) : aC f fs ρ S = some (d :: ds, S2) := by rw [ev_aC, h, Option.bind_some, h2, Option.bind_some]
theorem tup_s {fs : Ea} {ds : List D} (h : fs ρ S = some (ds, S')) (hl : ds.length ≤ 16777216) : eTup fs ρ S = some (.tup ds, S') := by rw [ev_Tup, h, Option.bind_some, if_pos hl]
theorem lst_s {fs : Ea} {ds : List D} (h : fs ρ S = some (ds, S')) (hl : ds.length ≤ 16777216) : eLst fs ρ S = some (.lst ds, S') := by rw [ev_Lst, h, Option.bind_some, if_pos hl]
theorem cV_s {k : Bool} (h : f ρ S = some (.bl k, S')) : cV f ρ S = some (k, S') := by rw [ev_cV, h, Option.bind_some]
theorem range1_s {fs : Ea} {k : Int} (h : fs ρ S = some ([.int k], S')) (hw : inWord k = true) : iRange1 fs ρ S = some (rangeD 0 k, S') := by rw [ev_iRange1, h, Option.bind_some]; exact if_pos hw
theorem range2_s {fs : Ea} {k l : Int} (h : fs ρ S = some ([.int k, .int l], S')) (hw : inWord k = true) (hw2 : inWord l = true) : iRange2 fs ρ S = some (rangeD k l, S') := by rw [ev_iRange2, h, Option.bind_some]; exact if_pos (by rw [hw, hw2]; rfl)
theorem cNot_s {k : Bool} (h : c ρ S = some (k, S')) : cNot c ρ S = some (!k, S') := by rw [ev_cNot, h, Option.bind_some]
end
end DL
namespace DL
open PySem PySem.Spec PyProof.Rows L2
section
variable {X : Cx} {pos : Pos} {e a b c : Expr} {es : List Expr} {f fa fb fz : Ev} {fs : Ea} {fc fd : Et} {fr : Bool} {g1 g2 : Sv} {st : Stmt} {sts : List Stmt}
def revL : D → Option (List D)
  | .lst xs => some xs.reverse
  | _ => none
theorem RpL.rev {K : KW} {as : List Addr} {O : Addr → Prop} {H : Hp} : ∀ {vs : List V} {ds : List D}, RpL K as O H vs ds → RpL K as O H vs.reverse ds.reverse
  | _, _, .nil => .nil
  | _, _, .cons r t => by
    rw [List.reverse_cons, List.reverse_cons]
    exact (RpL.rev t).append (.cons r .nil)
theorem mf_rev {k : Nat} {p1 p2 p3 : Pos} (ha : PE X a (tOfB (kw X) fa)) : PE X (.Subscript a (.Slice none none (some (.UnaryOp .USub (.Constant (.int 1) k p1) p2)) p3) pos) (tOfF (kw X) (eUnF revL fa)) := (pe_revL ha).weak fun σ H Q q => by
  obtain ⟨as, O, ρ, S, d, S', R, hf, kk⟩ := q
  unfold eUnF at hf
  obtain ⟨⟨d1, S1⟩, h1, hf⟩ := Option.bind_eq_some_iff.mp hf
  obtain ⟨r, h3, hf⟩ := Option.bind_eq_some_iff.mp hf
  cases hf
  refine ⟨as, O, ρ, S, d1, S1, R, h1, fun v H1 s1 c1 r1 => ?_⟩
  have R1 := R.step s1 c1
  unfold revL at h3
  split at h3
  · rename_i xs e
    have e : d1 = .lst xs := e
    subst e
    cases h3
    obtain ⟨p0, vs, rfl, h, t⟩ := RpB.lst r1
    refine ⟨p0, vs, rfl, .inl (.inl h), fun p hp => ?_⟩
    have q := new_cells (o := .lst vs.reverse) R1.wf c1 hp
    exact kk p _ (R.free s1 c1 hp) (s1.trans (Same.stp (same_new hp))) q.1 (.lst upd_same (q.2 _ _ (RpL.rev t)))
  · cases h3
def sPop (i : Nat) (f : Ev) : Sv := fun ρ S => (f ρ S).bind fun p => match ρ[i]?, p.1 with
  | some (.own (.lst xs)), .int j => if -9223372036854775808 ≤ j ∧ j < 9223372036854775808 then (ixN xs.length j).bind fun n => some (.nx (ρ.set i (.own (.lst (xs.eraseIdx n)))) p.2) else none
  | _, _ => none
def sIns (i : Nat) (fj f : Ev) : Sv := fun ρ S => (fj ρ S).bind fun q => (f ρ q.2).bind fun p => match ρ[i]?, q.1 with
  | some (.own (.lst xs)), .int j => if xs.length < 16777216 ∧ 0 ≤ j ∧ j < 9223372036854775808 then some (.nx (ρ.set i (.own (.lst (xs.take j.toNat ++ [p.1] ++ xs.drop j.toNat)))) p.2) else none
  | _, _ => none
theorem RpL.erase {K : KW} {as : List Addr} {O : Addr → Prop} {H : Hp} : ∀ (n : Nat) {vs : List V} {ds : List D}, RpL K as O H vs ds → RpL K as O H (vs.eraseIdx n) (ds.eraseIdx n)
  | _, _, _, .nil => .nil
  | 0, _, _, .cons _ t => t
  | n + 1, _, _, .cons q t => .cons q (RpL.erase n t)
theorem RpL.tk {K : KW} {as : List Addr} {O : Addr → Prop} {H : Hp} : ∀ (n : Nat) {vs : List V} {ds : List D}, RpL K as O H vs ds → RpL K as O H (vs.take n) (ds.take n)
  | n, _, _, .nil => by rw [List.take_nil, List.take_nil]; exact .nil
  | 0, _, _, .cons _ t => .nil
  | n + 1, _, _, .cons q t => .cons q (RpL.tk n t)
theorem RpL.dr {K : KW} {as : List Addr} {O : Addr → Prop} {H : Hp} : ∀ (n : Nat) {vs : List V} {ds : List D}, RpL K as O H vs ds → RpL K as O H (vs.drop n) (ds.drop n)
  | n, _, _, .nil => by rw [List.drop_nil, List.drop_nil]; exact .nil
  | 0, _, _, .cons q t => .cons q t
  | n + 1, _, _, .cons q t => RpL.dr n t
theorem ms_pop (i : Nat) {x : Str} {px apos cpos : Pos} (ho : PE X (.Name x px) (tVar i)) (ha : PE X a (tOf (kw X) fa))
    (hbase : attributeBase (.Name x px) "pop" X.env (eval (.Name x px) X.env) = eval (.Name x px) X.env := by rfl)
    (hfew : ((backTo cpos (starEach [a] X.env)).all (fun x => !x.1) && (backToKw cpos (keywordEach [] X.env)).all (fun x => x.1.isSome)
      && decide ([a].length + ([] : List Keyword).length + (if ([] : List Keyword).isEmpty then 0 else 1) < 30)) = true := by rfl)
    (hline : (apos.endLine == cpos.line) = true := by rfl) (hs : starEach [a] X.env = (false, eval a X.env) :: starEach [] X.env := by rfl) (hplain : (backTo cpos (starEach [] X.env)).any (·.1) = false := by rfl)
    (hsw : swapsWith (.Call (.Attribute (.Name x px) "pop" apos) [a] [] cpos) none pos.line X.env = pure false := by rfl) :
    PS X (.Expr (.Call (.Attribute (.Name x px) "pop" apos) [a] [] cpos) pos) (tOfS fr (kw X) (sPop i fa)) :=
  (ps_expr (pe_bm PySem.F.plainAttrs_list PySem.F.slot_list_pop PySem.F.type_list_pop mt_popAt ho (pa_cons ha pa_nil hs) hbase hfew hline hs hplain) hsw).weak fun D σ H q => by
    obtain ⟨as, O, B, G, ρ, S, o, R, hf, k⟩ := q
    unfold sPop at hf
    obtain ⟨⟨d1, S1⟩, h1, hf⟩ := Option.bind_eq_some_iff.mp hf
    split at hf
    · rename_i xs j hx hj
      have hj : d1 = .int j := hj
      subst hj
      split at hf
      · rename_i hl
        obtain ⟨n, hn, hf⟩ := Option.bind_eq_some_iff.mp hf
        cases hf
        obtain ⟨p, h2, nb, ng, cp⟩ := R.own i _ hx
        cases cp with
        | @lst ws _ hp t =>
          refine ⟨.ref p, h2, .inl ⟨rfl, _, .inl (.inl hp)⟩, as, _, ρ, S, .int j, S1, R.e, h1, fun v H1 s1 c1 r1 => ?_⟩
          have R1 := R.step s1 c1
          cases r1
          have hp1 : H1 p = some (.lst ws) := s1 p _ (R.notas nb) hp
          have t1 := t.stp R.wf s1
          have kk : Kp (OO O ρ σ) H1 (upd H1 p (.lst (ws.eraseIdx n))) := fun b u nn e => by
            rw [upd_ne (fun z => nn (by rw [z]; exact .inr ⟨i, _, hx, h2⟩))]
            exact e
          obtain ⟨q1, q2, _⟩ := ixN_seq hn
          have q3 : n < ws.length := by rw [Rp.length t1]; exact q2
          refine ⟨p, _, j, n, ws[n], rfl, rfl, hp1, by omega, by omega, ?_, List.getElem?_eq_getElem q3, ?_⟩
          · rw [Rp.length t1]; exact q1
          exact k _ _ (R1.mutOwn (o := .lst (ws.eraseIdx n)) hx h2 trivial (.lst upd_same (RpL.kp R1.wf.nt kk _ _ (RpL.erase n t1))))
      · cases hf
    · cases hf
theorem ms_ins (i : Nat) {x : Str} {px apos cpos : Pos} (ho : PE X (.Name x px) (tVar i)) (ha : PE X a (tOf (kw X) fa)) (hb : PE X b (tOf (kw X) fb))
    (hbase : attributeBase (.Name x px) "insert" X.env (eval (.Name x px) X.env) = eval (.Name x px) X.env := by rfl)
    (hfew : ((backTo cpos (starEach [a, b] X.env)).all (fun x => !x.1) && (backToKw cpos (keywordEach [] X.env)).all (fun x => x.1.isSome)
      && decide ([a, b].length + ([] : List Keyword).length + (if ([] : List Keyword).isEmpty then 0 else 1) < 30)) = true := by rfl)
    (hline : (apos.endLine == cpos.line) = true := by rfl) (hs : starEach [a, b] X.env = (false, eval a X.env) :: starEach [b] X.env := by rfl) (hs2 : starEach [b] X.env = (false, eval b X.env) :: starEach [] X.env := by rfl) (hplain : (backTo cpos (starEach [b] X.env)).any (·.1) = false := by rfl)
    (hsw : swapsWith (.Call (.Attribute (.Name x px) "insert" apos) [a, b] [] cpos) none pos.line X.env = pure false := by rfl) :
    PS X (.Expr (.Call (.Attribute (.Name x px) "insert" apos) [a, b] [] cpos) pos) (tOfS fr (kw X) (sIns i fa fb)) :=
  (ps_expr (pe_bm PySem.F.plainAttrs_list PySem.F.slot_list_insert PySem.F.type_list_insert mt_insert ho (pa_cons ha (pa_cons hb pa_nil hs2) hs) hbase hfew hline hs hplain) hsw).weak fun D σ H q => by
    obtain ⟨as, O, B, G, ρ, S, o, R, hf, k⟩ := q
    unfold sIns at hf
    obtain ⟨⟨d1, S1⟩, h1, hf1⟩ := Option.bind_eq_some_iff.mp hf
    clear hf
    obtain ⟨⟨d2, S2⟩, h2, hf⟩ := Option.bind_eq_some_iff.mp hf1
    clear hf1
    split at hf
    · rename_i xs j hx hj
      have hj : d1 = .int j := hj
      subst hj
      split at hf
      · rename_i hl
        cases hf
        obtain ⟨p, h3, nb, ng, cp⟩ := R.own i _ hx
        cases cp with
        | @lst ws _ hp t =>
          refine ⟨.ref p, h3, .inl ⟨rfl, _, .inl (.inl hp)⟩, as, _, ρ, S, .int j, S1, R.e, h1, fun v H1 s1 c1 r1 => ?_⟩
          have R1 := R.step s1 c1
          cases r1
          refine ⟨as, _, ρ, S1, d2, S2, R1.e, h2, fun v H2 s2 c2 r2 => ?_⟩
          have R2 := R1.step s2 c2
          have hp2 : H2 p = some (.lst ws) := s2 p _ (R.notas nb) (s1 p _ (R.notas nb) hp)
          have t2 := (t.stp R.wf s1).stp R1.wf s2
          have kk : Kp (OO O ρ σ) H2 (upd H2 p (.lst (ws.take j.toNat ++ [v] ++ ws.drop j.toNat))) := fun b u nn e => by
            rw [upd_ne (fun z => nn (by rw [z]; exact .inr ⟨i, _, hx, h3⟩))]
            exact e
          refine ⟨p, _, j, v, rfl, rfl, hp2, by rw [sizeLine_16, Rp.length t2]; omega, by omega, by omega, ?_⟩
          exact k _ _ (R2.mutOwn (o := .lst (ws.take j.toNat ++ [v] ++ ws.drop j.toNat)) hx h3 trivial (.lst upd_same (RpL.kp R2.wf.nt kk _ _ (((RpL.tk _ t2).append (.cons r2 .nil)).append (RpL.dr _ t2)))))
      · cases hf
    · cases hf
end
section
variable {ρ ρ' : List Slot} {S S' : List D} {f fj : Ev} {i : Nat}
theorem ev_sPop : sPop i f ρ S = (f ρ S).bind fun p => match ρ[i]?, p.1 with | some (.own (.lst xs)), .int j => if -9223372036854775808 ≤ j ∧ j < 9223372036854775808 then (ixN xs.length j).bind fun n => some (.nx (ρ.set i (.own (.lst (xs.eraseIdx n)))) p.2) else none | _, _ => none := (rfl)
theorem ev_sIns : sIns i fj f ρ S = (fj ρ S).bind fun q => (f ρ q.2).bind fun p => match ρ[i]?, q.1 with | some (.own (.lst xs)), .int j => if xs.length < 16777216 ∧ 0 ≤ j ∧ j < 9223372036854775808 then some (.nx (ρ.set i (.own (.lst (xs.take j.toNat ++ [p.1] ++ xs.drop j.toNat)))) p.2) else none | _, _ => none := (rfl)
end
end DL
namespace DL
open PySem PySem.Spec PyProof.Rows L2
def blsD : List D → Option (List Bool)
  | [] => some []
  | .bl b :: xs => (blsD xs).map (b :: ·)
  | _ :: _ => none
theorem blsD_map : ∀ bs : List Bool, blsD (bs.map D.bl) = some bs
  | [] => rfl
  | b :: bs => by
    show (blsD (bs.map D.bl)).map (b :: ·) = _
    rw [blsD_map bs]; rfl
theorem rp_bls {K : KW} {as : List Addr} {O : Addr → Prop} {H : Hp} : ∀ {vs : List V} {xs : List D} {bs : List Bool}, RpL K as O H vs xs → blsD xs = some bs → vs = bs.map V.bl
  | [], [], bs, .nil, h => by cases h; rfl
  | v :: vs, x :: xs, bs, .cons r t, h => by
    cases x with
    | bl b =>
      have h : (blsD xs).map (b :: ·) = some bs := h
      obtain ⟨cs, h1, h2⟩ := Option.map_eq_some_iff.mp h
      subst h2
      cases r
      rw [rp_bls t h1]; rfl
    | _ => cases h
def dAll : D → Option D
  | .lst xs => (blsD xs).map fun bs => .bl (bs.all id)
  | _ => none
def dAny : D → Option D
  | .lst xs => (blsD xs).map fun bs => .bl (bs.any id)
  | _ => none
def dCount : D → D → Option D
  | .str a, .str b => some (.int (Txt.count a b))
  | _, _ => none
def dIsB : D → D → Option D
  | .bl a, .bl b => some (.bl (decide (a = b)))
  | _, _ => none
section
variable {X : Cx} {pos : Pos} {e a b c : Expr} {es : List Expr} {f fa fb fz : Ev} {fs : Ea} {fc fd : Et} {fr : Bool} {g1 g2 : Sv} {st : Stmt} {sts : List Stmt}
theorem cd_all (hc : X.calm = true) : CallR X (.builtin "all") (rC1 (kw X) dAll) := by
  intro pins s σ H xs us Q I r q
  obtain ⟨as, O, d, rr, x, rfl, w, rd, hg, k⟩ := q
  unfold dAll at hg
  split at hg
  · obtain ⟨bs, h1, h2⟩ := Option.map_eq_some_iff.mp hg
    subst h2
    obtain ⟨a, vs, rfl, h, t⟩ := rd.lst
    have e := rp_bls t h1
    subst e
    exact cr_all hc pins s σ H _ us Q I r ⟨a, bs, rfl, .inl (.inl h), k _ H (Same.refl H) (.bl _)⟩
  · cases hg
theorem cd_any (hc : X.calm = true) : CallR X (.builtin "any") (rC1 (kw X) dAny) := by
  intro pins s σ H xs us Q I r q
  obtain ⟨as, O, d, rr, x, rfl, w, rd, hg, k⟩ := q
  unfold dAny at hg
  split at hg
  · obtain ⟨bs, h1, h2⟩ := Option.map_eq_some_iff.mp hg
    subst h2
    obtain ⟨a, vs, rfl, h, t⟩ := rd.lst
    have e := rp_bls t h1
    subst e
    exact cr_any hc pins s σ H _ us Q I r ⟨a, bs, rfl, .inl (.inl h), k _ H (Same.refl H) (.bl _)⟩
  · cases hg
theorem od_isB : OpR X (compareOp .Is) (r2D (kw X) dIsB) := by
  intro pins s σ H x y v u Q I rx ry q
  obtain ⟨as, O, d, e, r, w, rd, re, hg, k⟩ := q
  unfold dIsB at hg
  split at hg
  · rename_i a b
    cases hg
    have e1 : x = .bl a := by
      rcases rd with rd | ⟨_, _, _, c⟩
      · cases rd; rfl
      · cases c
    have e2 : y = .bl b := by
      rcases re with re | ⟨_, _, _, c⟩
      · cases re; rfl
      · cases c
    subst e1 e2
    exact op_isBl pins s σ H _ _ v u Q I rx ry ⟨a, b, rfl, rfl, k _ H (Same.refl H) (.bl _)⟩
  · cases hg
def rM2 (K : KW) (g : D → D → Option D) : V → List V → Hp → VK → Prop := fun x xs H Q => ∃ as O d e r y, xs = [y] ∧ Wf as O H ∧ RpB K as O H x d ∧ RpB K as O H y e ∧ g d e = some r ∧ ∀ v H', Same H H' → Rp K as O H' v r → Q v H'
theorem md_count : MtR X "str.count" (rM2 (kw X) dCount) := by
  intro pins s σ H x xs v us Q I rx rxs q
  obtain ⟨as, O, d, e, r, y, rfl, w, rd, re, hg, k⟩ := q
  unfold dCount at hg
  split at hg
  · cases hg
    have e1 := rd.str
    have e2 := re.str
    subst e1 e2
    exact mt_count pins s σ H _ _ v us Q I rx rxs ⟨_, _, rfl, rfl, k _ H (Same.refl H) (.int _)⟩
  · cases hg
def strD : D → Bool
  | .str _ => true
  | _ => false
def eMs (g : D → D → Option D) (fo fa : Ev) : Ev := fun ρ S => (fo ρ S).bind fun p => if strD p.1 then (fa ρ p.2).bind fun q => (g p.1 q.1).bind fun r => some (r, q.2) else none
theorem me_ms {o : Expr} {fo : Ev} {name : Str} {apos cpos : Pos} {id : String} {g : D → D → Option D} (slot : PySem.Slot "str" name id) (hty : typeOf (.builtin id) = pure (.type "method_descriptor")) (hm : MtR X id (rM2 (kw X) g)) (ho : PE X o (tOfB (kw X) fo)) (ha : PE X a (tOfB (kw X) fa))
    (hbase : attributeBase o name X.env (eval o X.env) = eval o X.env := by rfl)
    (hfew : ((backTo cpos (starEach [a] X.env)).all (fun x => !x.1) && (backToKw cpos (keywordEach [] X.env)).all (fun x => x.1.isSome)
      && decide ([a].length + ([] : List Keyword).length + (if ([] : List Keyword).isEmpty then 0 else 1) < 30)) = true := by rfl)
    (hline : (apos.endLine == cpos.line) = true := by rfl) (hs : starEach [a] X.env = (false, eval a X.env) :: starEach [] X.env := by rfl) (hplain : (backTo cpos (starEach [] X.env)).any (·.1) = false := by rfl) :
    PE X (.Call (.Attribute o name apos) [a] [] cpos) (tOf (kw X) (eMs g fo fa)) := (pe_bm PySem.F.plainAttrs_str slot hty hm ho (pa_cons ha pa_nil hs) hbase hfew hline hs hplain).weak fun σ H Q q => by
  obtain ⟨as, O, ρ, S, d, S', R, hf, k⟩ := q
  unfold eMs at hf
  obtain ⟨⟨d1, S1⟩, h1, hf1⟩ := Option.bind_eq_some_iff.mp hf
  clear hf
  split at hf1
  · rename_i hstr
    obtain ⟨⟨d2, S2⟩, h2, hf⟩ := Option.bind_eq_some_iff.mp hf1
    obtain ⟨r, h3, hf⟩ := Option.bind_eq_some_iff.mp hf
    cases hf
    refine ⟨as, O, ρ, S, d1, S1, R, h1, fun v H1 s1 c1 r1 => ?_⟩
    have R1 := R.step s1 c1
    obtain ⟨z, rfl⟩ : ∃ z, d1 = .str z := by
      cases d1 <;> first | exact ⟨_, rfl⟩ | cases hstr
    have e1 := RpB.str r1
    subst e1
    refine ⟨rfl, as, O, ρ, S1, d2, S2, R1, h2, fun w H2 s2 c2 r2 => ?_⟩
    have R2 := R1.step s2 c2
    exact ⟨as, O, .str z, d2, _, w, rfl, R2.wf, r1.stp R1.wf s2, r2, h3, fun v H' sm r => k v H' ((s1.trans s2).trans (Same.stp sm)) (c2.same R2.wf sm) r⟩
  · cases hf1
end
section
variable {ρ : List Slot} {S : List D}
theorem ev_Ms {g : D → D → Option D} {fo fa : Ev} : eMs g fo fa ρ S = (fo ρ S).bind fun p => if strD p.1 then (fa ρ p.2).bind fun q => (g p.1 q.1).bind fun r => some (r, q.2) else none := (rfl)
end
end DL
namespace DL
open PySem PySem.Spec PyProof.Rows L2
def intsD : List D → Option (List Int)
  | [] => some []
  | .int i :: xs => (intsD xs).map (i :: ·)
  | _ :: _ => none
theorem intsD_map : ∀ is : List Int, intsD (is.map D.int) = some is
  | [] => rfl
  | i :: is => by
    show (intsD (is.map D.int)).map (i :: ·) = _
    rw [intsD_map is]; rfl
theorem rp_intsD {K : KW} {as : List Addr} {O : Addr → Prop} {H : Hp} : ∀ {vs : List V} {xs : List D} {is : List Int}, RpL K as O H vs xs → intsD xs = some is → vs = is.map V.int
  | [], [], is, .nil, h => by cases h; rfl
  | v :: vs, x :: xs, is, .cons r t, h => by
    cases x with
    | int i =>
      have h : (intsD xs).map (i :: ·) = some is := h
      obtain ⟨cs, h1, h2⟩ := Option.map_eq_some_iff.mp h
      subst h2
      cases r
      rw [rp_intsD t h1]; rfl
    | _ => cases h
def dSum : D → Option D
  | .lst xs => (intsD xs).map fun is => .int is.sum
  | _ => none
def sortI : D → Option (List D)
  | .lst xs => (intsD xs).map fun is => (is.mergeSort (· ≤ ·)).map .int
  | _ => none
theorem sort_one {a b : List Int} (h : a.Perm b) (p : a.Pairwise (· ≤ ·)) : a = b.mergeSort (· ≤ ·) := by
  have q : (b.mergeSort (· ≤ ·)).Pairwise (fun x y => (decide (x ≤ y)) = true) := List.pairwise_mergeSort (fun a b c h1 h2 => by simp only [decide_eq_true_eq] at *; omega) (fun a b => by simp only [Bool.or_eq_true, decide_eq_true_eq]; omega) b
  refine List.Perm.eq_of_pairwise (le := fun x y : Int => x ≤ y) (fun x y _ _ h1 h2 => by omega) p (q.imp fun h => of_decide_eq_true h) ?_
  exact h.trans (List.mergeSort_perm b _).symm
section
variable {X : Cx}
theorem cd_sum (hc : X.calm = true) : CallR X (.builtin "sum") (rC1 (kw X) dSum) := by
  intro pins s σ H xs us Q I r q
  obtain ⟨as, O, d, rr, x, rfl, w, rd, hg, k⟩ := q
  unfold dSum at hg
  split at hg
  · obtain ⟨is, h1, h2⟩ := Option.map_eq_some_iff.mp hg
    subst h2
    obtain ⟨a, vs, rfl, h, t⟩ := rd.lst
    have e := rp_intsD t h1
    subst e
    exact cr_sum hc pins s σ H _ us Q I r ⟨a, is, rfl, .inl (.inl h), k _ H (Same.refl H) (.int _)⟩
  · cases hg
theorem cd_sortI : CallR X (.builtin "sorted") (rF1 (kw X) sortI) := by
  intro pins s σ H xs us Q I r q
  obtain ⟨as, O, d, rr, x, rfl, w, rd, hg, k⟩ := q
  unfold sortI at hg
  split at hg
  · obtain ⟨is, h1, h2⟩ := Option.map_eq_some_iff.mp hg
    subst h2
    obtain ⟨a, vs, rfl, h, t⟩ := rd.lst
    have e := rp_intsD t h1
    subst e
    refine cr_sortedI pins s σ H _ us Q I r ⟨a, is, rfl, .inl (.inl h), fun ns' p hp hs hn => ?_⟩
    rw [sort_one hp hs]
    exact k _ p (rp_ints _) hn
  · cases hg
end
def natFst (i : Nat) (ρ : List Slot) : Nat := match ρ[i]? with
  | some (.val (.tup (.int k :: _))) => k.natAbs
  | _ => 0
theorem ev_natFst (ρ : List Slot) (i : Nat) : natFst i ρ = (match ρ[i]? with | some (.val (.tup (.int k :: _))) => k.natAbs | _ => 0) := (rfl)
end DL
namespace DL
open PySem PySem.Spec PyProof.Rows L2
section
variable {P : Program} {w : World} {A : Around} {E : Value → Shared → Prop} {s : Shared}
abbrev mtS (w : World) : Obj := { cls := .type "set", dict := none, data := .set #[] 0 (.fresh 0 0 (!w.params.followText "set-order")) }
def SetDone (w : World) (s : Shared) (ns : List Int) (z : Shared) : Prop := ∃ h' tk c, z = { s with heap := h', toks := tk } ∧ SetR w h' s.heap.objs.size (fun j => decide (j ∈ ns)) c ∧ c ≤ ns.length ∧ ∀ b o, s.heap.get? b = some o → h'.get? b = some o
theorem set_of_ints {l : Addr} {its : Array Value} (ns : List Int) {Q : Value → Shared → Prop} (nh : A.handled = none) (hl : s.heap.IsList l its) (hi : IntsAre its.toList ns) (few : ns.length + 1 < scanBound)
    (k : ∀ z, SetDone w s ns z → Q (.ref s.heap.objs.size) z) : wpAny (model P w) A (call (.type "set") [.ref l]) Q E s := by
  have sz : its.size = ns.length := (Array.length_toList).symm.trans (IntsAre.length hi)
  obtain ⟨c0, tl, hmro⟩ := F.called_set.mro
  have f1 := F.called_set.made
  have f2 := F.called_set.sub
  have f3 := F.called_set.notType
  have f4 := F.called_set.canCreate
  have f5 := F.typeCall_set_1 (.ref l)
  have f6 := F.called_set.init.lookup
  refine wpAny_call (codeAny_of_tree (show wpAny _ _ (callAny (.type "set") _) _ _ _ from wpAny_pure ⟨Code.quiet_builtin _ (by decide +kernel), codeAny_builtin F.entry_type_call ?_⟩))
  rw [Around.under_plain (weight_type_call_type "set" [.ref l] []) rfl]
  repeat (any_goals (first | assumption | wp_step))
  refine codeAny_mono (code_set_led1 (.ref l) (E := E) (Q₁ := fun o z => o = .ref s.heap.objs.size ∧ z = { s with heap := s.heap.push (mtS w) }) ⟨rfl, rfl⟩) fun r z hr => ?_
  cases r with
  | error e => exact hr
  | ok fl =>
  cases fl with
  | ret o =>
    obtain ⟨rfl, rfl⟩ := hr
    have g0 : (s.heap.push (mtS w)).get? s.heap.objs.size = some (mtS w) := Heap.get?_push_size _ rfl
    have ty : Shared.TypeIs { s with heap := s.heap.push (mtS w) } (.ref s.heap.objs.size) "set" := ⟨_, g0, rfl⟩
    have f7 := F.called_set.init.bind (.ref s.heap.objs.size)
    repeat (any_goals (first | assumption | wp_step))
    refine codeAny_mono (codeAny_call_builtin (R := wants (fun r z => r = .none ∧ SetDone w s ns z) E) F.called_set.init.plain F.entry_set_init (check_set_init_1 ty ?_)) fun r z hz => ?_
    · obtain ⟨⟨oc, od, oda, os⟩, ho, hc, nl, hd⟩ := hl
      dsimp only at hc hd
      subst hc hd
      have ho' := Heap.get?_push_of_some (mtS w) ho
      have p1 := F.sub_list_set
      have p2 := F.sub_list_frozenset
      have p3 : (Value.type "list" == Value.type "dict") = false := by decide
      have lst : (s.heap.push (mtS w)).IsList l its := ⟨_, ho', rfl, nl, rfl⟩
      have lt := Heap.lt_size ho
      have z1 : (s.heap.push (mtS w)).objs.size = s.heap.objs.size + 1 := Heap.size_push ..
      unfold Builtin.«set.__init__» noKeywords Builtin.Frozenset.updateFrom
      generalize hG : pyIter = G
      wp_walk
      subst hG
      refine wpAny_pyIter_list lst (wpAny_bind (wpAny_runValue ?_))
      have nh3 : A.in1.in1.in1.handled = none := by simp [nh]
      have ne1 : l ≠ (s.heap.push (mtS w)).objs.size := by rw [z1]; exact Nat.ne_of_lt (Nat.lt_succ_of_lt lt)
      have out : s.heap.objs.size ∉ [(s.heap.push (mtS w)).objs.size, l] := by
        rw [z1]
        simp only [List.mem_cons, List.not_mem_nil, or_false, not_or]
        exact ⟨Nat.ne_of_lt (Nat.lt_succ_self _), Nat.ne_of_gt lt⟩
      have val : ∀ (i : Nat) (v : Value), its[i]? = some v → ∃ k t, ns[i]? = some k ∧ v = .int k t := fun i v hv => by
        have li : i < ns.length := by rw [← sz]; exact (Array.getElem?_eq_some_iff.mp hv).1
        obtain ⟨t, e⟩ := PyProof.Rows.IntsAre.int_at hi i v (by rw [Array.getElem?_toList]; exact hv)
        exact ⟨ns[i], t, List.getElem?_eq_getElem li, by rw [e, List.getD_eq_getElem?_getD, List.getElem?_eq_getElem li] <;> rfl⟩
      refine set_update_ints ((Walks.list nh3 _ l ne1 its).toS) s.heap.objs.size out ns sz few val (its.size - 0) 0 _ (by omega) (Nat.zero_le _) ⟨⟨_, Heap.get?_push_size _ rfl, rfl, rfl⟩, lst.push _⟩
        ⟨0, Nat.le_refl 0, setR_new_at (Heap.get?_push_of_some _ g0)⟩ fun z c' hm hc' hS' => ?_
      obtain ⟨h', g2, d', tk', os'⟩ := z
      have e1 : g2 = s.gens := hm.gens
      have e2 : d' = s.drawn := hm.drawn
      have e3 : os' = s.os := hm.os
      subst e1 e2 e3
      rw [sz] at hc'
      refine wpAny_pure (show wpAny _ _ (ret Value.none) _ _ _ from wpAny_pure ⟨rfl, h', tk', c', rfl, hS', hc', fun b o e => ?_⟩)
      have lb := Heap.lt_size e
      refine hm.heap b o ?_ (Heap.get?_push_of_some _ (Heap.get?_push_of_some _ e))
      simp only [List.mem_cons, List.not_mem_nil, or_false, not_or]
      exact ⟨Nat.ne_of_lt lb, by rw [z1]; exact Nat.ne_of_lt (Nat.lt_succ_of_lt lb)⟩
    · cases r with
      | error e => exact hz
      | ok fl =>
        cases fl with
        | ret r =>
          obtain ⟨rfl, d⟩ := hz
          repeat (any_goals (first | assumption | wp_step))
          exact k _ d
        | _ => exact hz.elim
  | _ => exact hr.elim
end
end DL
namespace DL
open PySem PySem.Spec PyProof.Rows L2
def compL2 (p : Pat) (c : Et) (it2 : Ea) (p2 : Pat) (c2 : Et) (f : Ev) (vs1 : List Nat) (ρ : List Slot) : List D → List D → Option (List D × List D)
  | [], S => some ([], S)
  | x :: xs, S => (binds p x).bind fun l => (c (putD ρ l) S).bind fun q => if q.1 = true then (it2 (putD ρ l) q.2).bind fun r => (compL p2 c2 f (wipeD (putD ρ l) vs1) r.1 r.2).bind fun t => (compL2 p c it2 p2 c2 f vs1 ρ xs t.2).bind fun u => some (t.1 ++ u.1, u.2)
    else compL2 p c it2 p2 c2 f vs1 ρ xs q.2
def eComp2 (p : Pat) (it : Ea) (c : Et) (it2 : Ea) (p2 : Pat) (c2 : Et) (f : Ev) (vs vs1 : List Nat) : Ev := fun ρ S => (it ρ S).bind fun q => (compL2 p c it2 p2 c2 f vs1 (wipeD ρ vs) q.1 q.2).bind fun t => if t.1.length ≤ 16777216 then some (.lst t.1, t.2) else none
section
variable {K : KW} {as : List Addr} {O : Addr → Prop} {σ : L2.St} {H0 H1 H H' : Hp} {q : Addr} {vs : List Nat} {ρ : List Slot} {acc S S' : List D}
theorem CompS.push' (C : CompS K as O σ H1 q vs ρ H acc S) (hq : q ∉ as) (no : ∀ (i : Nat) (d : D), (wipeD ρ vs)[i]? = some (.own d) → (wipe σ vs)[i]? ≠ some (some (.ref q))) {xs : List V} {y : V} {d : D} (h : H q = some (.lst xs)) (r : RpL K as (ad O q) H xs acc) (ry : Rp K as (ad O q) H y d) :
    CompS K as O σ H1 q vs ρ (upd H q (.lst (xs ++ [y]))) (acc ++ [d]) S := by
  have kk : Kp (ad O q) H (upd H q (.lst (xs ++ [y]))) := fun a u n e => by
    rw [upd_ne (fun z => n (by rw [z]; exact .inr rfl))]
    exact e
  exact ⟨C.rel.growL (.inr rfl) hq no trivial, ⟨_, upd_same, RpL.kp C.rel.wf.nt kk _ _ (r.append (.cons ry .nil))⟩, fun a u n m e => (upd_ne m).trans (C.kept a u n m e)⟩
theorem putD_own : ∀ {l : List (Nat × D)} {ρ : List Slot} {i : Nat} {d : D}, (putD ρ l)[i]? = some (.own d) → ρ[i]? = some (.own d) ∧ i ∉ l.map (·.1)
  | [], _, _, _, h => ⟨h, by simp⟩
  | (j, e) :: l, ρ, i, d, h => by
    obtain ⟨h1, h2⟩ := putD_own (l := l) (ρ := ρ.set j (.val e)) h
    rcases get_set h1 with ⟨_, z⟩ | ⟨ne, z⟩
    · cases z
    · exact ⟨z, by simp only [List.map_cons, List.mem_cons, not_or]; exact ⟨ne, h2⟩⟩
theorem putV_out : ∀ {l : List (Nat × V)} {σ : L2.St} {i : Nat}, i ∉ l.map (·.1) → (putV σ l)[i]? = σ[i]?
  | [], _, _, _ => rfl
  | (j, e) :: l, σ, i, h => by
    simp only [List.map_cons, List.mem_cons, not_or] at h
    unfold putV
    rw [putV_out h.2, List.getElem?_set_ne (Ne.symm h.1)]
end
section
variable {X : Cx} {pos : Pos} {f : Ev} {fc fc2 : Et} {it it2 : Ea} {p p2 : Pat} {fr : Bool}
theorem comp2_weak {σ : L2.St} {H0 : Hp} {Q : VK} {vs vs1 : List Nat} (hv : p.ixs.all (fun i => decide (i ∈ vs)) = true) (hv1 : p2.ixs.all (fun i => decide (i ∈ vs1)) = true)
    (h : tOfF (kw X) (eComp2 p it fc it2 p2 fc2 f vs vs1) σ H0 Q) : tLc2 (tOfI (kw X) it) (gOf (kw X) p) (tOfT (kw X) fc) (tOfI (kw X) it2) (gOf (kw X) p2) (tOfT (kw X) fc2) (tOf (kw X) f) vs vs1 σ H0 Q := by
  obtain ⟨as, O, ρ, S, d, S', R, hf, k⟩ := h
  unfold eComp2 at hf
  obtain ⟨⟨ds, S1⟩, h1, hf⟩ := Option.bind_eq_some_iff.mp hf
  obtain ⟨⟨ys, S2⟩, h2, hf⟩ := Option.bind_eq_some_iff.mp hf
  split at hf
  case isFalse => cases hf
  case isTrue hl =>
  cases hf
  refine ⟨as, O, ρ, S, ds, S1, R, h1, fun J H1 s1 c1 wk D hD => ?_⟩
  have R1 := R.step s1 c1
  have hDas : D ∉ as := fun m => R1.wf.trk (R1.wf.sub D m) hD
  have hD0 : H0 D = none := R.free s1 c1 hD
  have own0 := own_ne R1 hD
  refine ⟨fun i m H => m = ds.length - i ∧ i ≤ ds.length ∧ ∃ acc S rest, CompS (kw X) as O σ H1 D vs ρ H acc S ∧ compL2 p fc it2 p2 fc2 f vs1 (wipeD ρ vs) (ds.drop i) S = some (rest, S2) ∧ acc ++ rest = ys, ⟨ds.length, rfl, Nat.zero_le _, [], S1, ys, CompS.start R1 hD, h2, rfl⟩, ?_⟩
  rintro i m H ⟨rfl, hi, acc, Sx, rest, C, hc, hr⟩
  have kp : Kp O H1 H := fun a u n e => C.kept a u (fun m => n (R1.wf.sub a m)) (fun z => by rw [z, hD] at e; cases e) e
  obtain ⟨wstop, wgo⟩ := wk i H kp
  by_cases hlt : i < ds.length
  · rw [List.drop_eq_getElem_cons hlt] at hc
    unfold compL2 at hc
    obtain ⟨l, hb, hc⟩ := Option.bind_eq_some_iff.mp hc
    obtain ⟨⟨b, S3⟩, hb2, hc⟩ := Option.bind_eq_some_iff.mp hc
    obtain ⟨go, yld⟩ := wgo ds[i] (List.getElem?_eq_getElem hlt)
    refine .inr ⟨go, fun H' => ∃ acc S rest, CompS (kw X) as O σ H1 D vs ρ H' acc S ∧ compL2 p fc it2 p2 fc2 f vs1 (wipeD ρ vs) (ds.drop (i + 1)) S = some (rest, S2) ∧ acc ++ rest = ys, fun H' h' => ⟨ds.length - (i + 1), by omega, rfl, hlt, h'⟩, fun x H2 y => ?_⟩
    obtain ⟨sm, rx⟩ := yld x H2 y
    have C2 := C.step hDas (Same.stp sm) (C.rel.cells.same C.rel.wf sm)
    have rx2 : Rp (kw X) as (ad O D) H2 x ds[i] := Rp.anti (fun a o => o.elim .inl fun z => .inr (z ▸ hD)) _ _ rx
    refine ⟨as, _, ds[i], l, rx2, hb, fun vl rv => ⟨?_, ?_⟩⟩
    · rw [wipe_put, wipe_idem]
      rw [rv.ix, binds_ix _ _ _ hb]
      intro j hj
      exact of_decide_eq_true (List.all_eq_true.mp hv j hj)
    have R2 := C2.rel.put rv
    refine ⟨as, _, putD (wipeD ρ vs) l, Sx, b, S3, R2, hb2, fun H3 s3 c3 => ?_⟩
    have C3 := C2.step hDas s3 c3
    cases b with
    | false => exact ⟨acc, S3, rest, C3, hc, hr⟩
    | true =>
    simp only [if_true] at hc
    obtain ⟨⟨ds2, S4⟩, h4, hc⟩ := Option.bind_eq_some_iff.mp hc
    obtain ⟨⟨t, S5⟩, h5, hc⟩ := Option.bind_eq_some_iff.mp hc
    obtain ⟨⟨u, S6⟩, h6, hc⟩ := Option.bind_eq_some_iff.mp hc
    cases hc
    have R3 := R2.step s3 c3
    refine ⟨as, _, putD (wipeD ρ vs) l, S3, ds2, S4, R3, h4, fun J1 H4 s4 c4 wk1 => ?_⟩
    have R4 := R3.step s4 c4
    have C4 := C3.step hDas s4 c4
    have no1 : ∀ (i : Nat) (d : DL.D), (wipeD (putD (wipeD ρ vs) l) vs1)[i]? = some (.own d) → (wipe (putV (wipe σ vs) vl) vs1)[i]? ≠ some (some (.ref D)) := fun i d h e => by
      obtain ⟨q1, q2⟩ := wipeD_some (x := .own d) (fun z => nomatch z) h
      obtain ⟨q3, q4⟩ := putD_own q1
      obtain ⟨q5, q6⟩ := wipeD_some (x := .own d) (fun z => nomatch z) q3
      rw [wipe_out q2, putV_out (by rw [rv.ix]; exact q4), wipe_out q6] at e
      exact own0 i d q5 e
    have no0 : ∀ (i : Nat) (d : DL.D), (wipeD ρ vs)[i]? = some (.own d) → (wipe σ vs)[i]? ≠ some (some (.ref D)) := fun i d h e => by
      obtain ⟨q5, q6⟩ := wipeD_some (x := .own d) (fun z => nomatch z) h
      rw [wipe_out q6] at e
      exact own0 i d q5 e
    refine ⟨fun j m H => m = ds2.length - j ∧ j ≤ ds2.length ∧ ∃ acc S rest2, CompS (kw X) as O σ H1 D vs ρ H acc S ∧ CompS (kw X) as O (putV (wipe σ vs) vl) H4 D vs1 (putD (wipeD ρ vs) l) H acc S ∧ compL p2 fc2 f (wipeD (putD (wipeD ρ vs) l) vs1) (ds2.drop j) S = some (rest2, S5) ∧ acc ++ (rest2 ++ u) = ys,
      ⟨ds2.length, rfl, Nat.zero_le _, acc, S4, t, C4, ⟨R4.wipe vs1, C4.lst, fun a u _ _ e => e⟩, h5, hr⟩, ?_⟩
    rintro j m H5 ⟨rfl, hj, acc1, Sy, rest2, Co, Ci, hc1, hr1⟩
    have kp1 : Kp (ad O D) H4 H5 := fun a u n e => Ci.kept a u (fun m => n (.inl (R1.wf.sub a m))) (fun z => n (.inr z)) e
    obtain ⟨wstop1, wgo1⟩ := wk1 j H5 kp1
    by_cases hlt1 : j < ds2.length
    · rw [List.drop_eq_getElem_cons hlt1] at hc1
      unfold compL at hc1
      obtain ⟨l1, hb1, hc1⟩ := Option.bind_eq_some_iff.mp hc1
      obtain ⟨⟨b1, S7⟩, hb3, hc1⟩ := Option.bind_eq_some_iff.mp hc1
      obtain ⟨go1, yld1⟩ := wgo1 ds2[j] (List.getElem?_eq_getElem hlt1)
      refine .inr ⟨go1, fun H' => ∃ acc S rest2, CompS (kw X) as O σ H1 D vs ρ H' acc S ∧ CompS (kw X) as O (putV (wipe σ vs) vl) H4 D vs1 (putD (wipeD ρ vs) l) H' acc S ∧ compL p2 fc2 f (wipeD (putD (wipeD ρ vs) l) vs1) (ds2.drop (j + 1)) S = some (rest2, S5) ∧ acc ++ (rest2 ++ u) = ys,
        fun H' h' => ⟨ds2.length - (j + 1), by omega, rfl, hlt1, h'⟩, fun x1 H6 y1 => ?_⟩
      obtain ⟨sm1, rx1⟩ := yld1 x1 H6 y1
      have Co2 := Co.step hDas (Same.stp sm1) (Co.rel.cells.same Co.rel.wf sm1)
      have Ci2 := Ci.step hDas (Same.stp sm1) (Ci.rel.cells.same Ci.rel.wf sm1)
      have rx3 : Rp (kw X) as (ad O D) H6 x1 ds2[j] := Rp.anti (fun a o => .inl o) _ _ rx1
      refine ⟨as, _, ds2[j], l1, rx3, hb1, fun vl1 rv1 => ⟨?_, ?_⟩⟩
      · rw [wipe_put, wipe_idem]
        rw [rv1.ix, binds_ix _ _ _ hb1]
        intro j hj
        exact of_decide_eq_true (List.all_eq_true.mp hv1 j hj)
      have R5 := Ci2.rel.put rv1
      refine ⟨as, _, _, Sy, b1, S7, R5, hb3, fun H7 s7 c7 => ?_⟩
      have Co3 := Co2.step hDas s7 c7
      have Ci3 := Ci2.step hDas s7 c7
      cases b1 with
      | false => exact ⟨acc1, S7, rest2, Co3, Ci3, hc1, hr1⟩
      | true =>
        obtain ⟨⟨d, S8⟩, h8, hc1⟩ := Option.bind_eq_some_iff.mp hc1
        obtain ⟨⟨t9, S9⟩, h9, hc1⟩ := Option.bind_eq_some_iff.mp hc1
        cases hc1
        refine ⟨as, _, _, S7, d, S8, R5.step s7 c7, h8, fun y H8 s8 c8 ry => ?_⟩
        have Co4 := Co3.step hDas s8 c8
        have Ci4 := Ci3.step hDas s8 c8
        obtain ⟨xs, hx, rx⟩ := Co4.lst
        have hlen : xs.length = acc1.length := Rp.length rx
        refine ⟨xs, hx, ?_, acc1 ++ [d], S8, t9, Co4.push' hDas no0 hx rx ry, Ci4.push' hDas no1 hx rx ry, h9, ?_⟩
        · have q : ys.length ≤ 16777216 := hl
          rw [← hr1] at q
          simp only [List.length_append, List.length_cons] at q
          rw [hlen, sizeLine_16]
          omega
        · rw [← hr1, List.append_assoc]
          rfl
    · have e : j = ds2.length := by omega
      subst e
      rw [List.drop_length] at hc1
      unfold compL at hc1
      cases hc1
      exact .inl ⟨wstop1 rfl, acc1, _, _, Co, h6, hr1⟩
  · have e : i = ds.length := by omega
    subst e
    rw [List.drop_length] at hc
    unfold compL2 at hc
    cases hc
    obtain ⟨xs, hx, rx⟩ := C.lst
    refine .inl ⟨wstop rfl, k D H hD0 (s1.trans fun a u n e => ?_) C.rel.cells (.lst hx (by rw [← hr, List.append_nil]; exact rx))⟩
    exact C.kept a u n (fun z => by rw [z, hD] at e; cases e) e
section
variable {tg iter tg1 iter1 elt : Expr} {ifs ifs1 : List Expr} {scope : Scope} {own : List (Str × Nat)} {vs vs1 : List Nat}
theorem mf_comp2 (hc : X.calm = true) (hN : X.N.Nodup) (hi : PI X tg iter (tOfI (kw X) it)) (ok : BlkOk X.N X.env.scope scope own) (hv0 : ∀ i ∈ vs1, i ∈ own.map (·.2))
    (hg : ∀ (s : Shared) (H : Hp) (C : Addr) (cl : List (Str × Addr)) (fp : List Addr), PG (X.blk s H scope (compEnvC scope cl C X.env) fp) tg (gOf (kw X) p))
    (ht : ∀ (s : Shared) (H : Hp) (C : Addr) (cl : List (Str × Addr)) (fp : List Addr), PTs (X.blk s H scope (compEnvC scope cl C X.env) fp) ifs (tOfT (kw X) fc))
    (hi1 : ∀ (s : Shared) (H : Hp) (C : Addr) (cl : List (Str × Addr)) (fp : List Addr), PI (X.blk s H scope (compEnvC scope cl C X.env) fp) tg1 iter1 (tOfI (kw X) it2))
    (hg1 : ∀ (s : Shared) (H : Hp) (C : Addr) (cl : List (Str × Addr)) (fp : List Addr), PG (X.blk s H scope (compEnvC scope cl C X.env) fp) tg1 (gOf (kw X) p2))
    (ht1 : ∀ (s : Shared) (H : Hp) (C : Addr) (cl : List (Str × Addr)) (fp : List Addr), PTs (X.blk s H scope (compEnvC scope cl C X.env) fp) ifs1 (tOfT (kw X) fc2))
    (he : ∀ (s : Shared) (H : Hp) (C : Addr) (cl : List (Str × Addr)) (fp : List Addr), PE (X.blk s H scope (compEnvC scope cl C X.env) fp) elt (tOf (kw X) f))
    (ev : own.map (·.2) = vs := by rfl) (hv : p.ixs.all (fun i => decide (i ∈ vs)) = true := by rfl) (hv1 : p2.ixs.all (fun i => decide (i ∈ vs1)) = true := by rfl) (hs : ∀ x, foldedSetIterable iter X.env x = pure x := by intro _; rfl) (hs1 : ∀ env x, foldedSetIterable iter1 env x = pure x := by intro _ _; rfl) :
    PE X (.ListComp elt [⟨tg, iter, ifs, 0⟩, ⟨tg1, iter1, ifs1, 0⟩] scope pos) (tOfF (kw X) (eComp2 p it fc it2 p2 fc2 f vs vs1)) :=
  (pe_lc2 hc hN hi ok hv0 hg ht hi1 hg1 ht1 he hs hs1).weak fun σ H Q h => by
    rw [ev]
    exact comp2_weak hv hv1 h
theorem ms_setC2 {i : Nat} {y : Str} {py spos : Pos} (hc : X.calm = true) (hN : X.N.Nodup) (hy : X.N[i]? = some y) (hyl : X.env.scope.names.lookup y = some .local)
    (hsw : swapsWith (.ListComp elt [⟨tg, iter, ifs, 0⟩, ⟨tg1, iter1, ifs1, 0⟩] scope pos) (some (.Name y py)) spos.line X.env = pure true) (hi : PI X tg iter (tOfI (kw X) it)) (ok : BlkOk X.N X.env.scope scope own) (hv0 : ∀ i ∈ vs1, i ∈ own.map (·.2))
    (hg : ∀ (s : Shared) (H : Hp) (C : Addr) (cl : List (Str × Addr)) (fp : List Addr), PG (X.blk s H scope (compEnvC scope cl C X.env) fp) tg (gOf (kw X) p))
    (ht : ∀ (s : Shared) (H : Hp) (C : Addr) (cl : List (Str × Addr)) (fp : List Addr), PTs (X.blk s H scope (compEnvC scope cl C X.env) fp) ifs (tOfT (kw X) fc))
    (hi1 : ∀ (s : Shared) (H : Hp) (C : Addr) (cl : List (Str × Addr)) (fp : List Addr), PI (X.blk s H scope (compEnvC scope cl C X.env) fp) tg1 iter1 (tOfI (kw X) it2))
    (hg1 : ∀ (s : Shared) (H : Hp) (C : Addr) (cl : List (Str × Addr)) (fp : List Addr), PG (X.blk s H scope (compEnvC scope cl C X.env) fp) tg1 (gOf (kw X) p2))
    (ht1 : ∀ (s : Shared) (H : Hp) (C : Addr) (cl : List (Str × Addr)) (fp : List Addr), PTs (X.blk s H scope (compEnvC scope cl C X.env) fp) ifs1 (tOfT (kw X) fc2))
    (he : ∀ (s : Shared) (H : Hp) (C : Addr) (cl : List (Str × Addr)) (fp : List Addr), PE (X.blk s H scope (compEnvC scope cl C X.env) fp) elt (tOf (kw X) f))
    (ev : own.map (·.2) = vs := by rfl) (hv : p.ixs.all (fun i => decide (i ∈ vs)) = true := by rfl) (hv1 : p2.ixs.all (fun i => decide (i ∈ vs1)) = true := by rfl) (hs : ∀ x, foldedSetIterable iter X.env x = pure x := by intro _; rfl) (hs1 : ∀ env x, foldedSetIterable iter1 env x = pure x := by intro _ _; rfl) :
    PS X (.Assign [.Name y py] (.ListComp elt [⟨tg, iter, ifs, 0⟩, ⟨tg1, iter1, ifs1, 0⟩] scope pos) spos) (tOfS fr (kw X) (sSet i (eComp2 p it fc it2 p2 fc2 f vs vs1))) :=
  (ps_setLc2 hc hN hy hyl hsw hi ok hv0 hg ht hi1 hg1 ht1 he hs hs1).weak fun D σ H h => by
    rw [ev]
    obtain ⟨as, O, B, G, ρ, S, o, R, hf, k⟩ := h
    unfold sSet at hf
    obtain ⟨⟨d1, S1⟩, h1, hf⟩ := Option.bind_eq_some_iff.mp hf
    cases hf
    refine comp2_weak hv hv1 ⟨as, _, ρ, S, d1, S1, R.e, h1, fun q H1 n s1 c1 r1 => ?_⟩
    exact k _ _ ((R.step s1 (c1.anti ad_sub)).set i (r1.val (R.wf.nel n) ad_sub))
end
end
theorem ev_Comp2 {p : Pat} {it : Ea} {c : Et} {it2 : Ea} {p2 : Pat} {c2 : Et} {f : Ev} {vs vs1 : List Nat} {ρ : List Slot} {S : List D} : eComp2 p it c it2 p2 c2 f vs vs1 ρ S = (it ρ S).bind fun q => (compL2 p c it2 p2 c2 f vs1 (wipeD ρ vs) q.1 q.2).bind fun t => if t.1.length ≤ 16777216 then some (.lst t.1, t.2) else none := (rfl)
end DL
namespace DL
open PySem PySem.Spec PyProof.Rows L2
open PySem.W (EachIs alike dataLt sortLe SortsAt)
def tupC : D → Bool
  | .tup (_ :: _) => true
  | _ => false
def flatC : D → Bool
  | .bl _ => true
  | .int _ => true
  | .str _ => true
  | .lst _ => true
  | _ => false
def sortOk (xs : List D) : Bool := okL 60 xs && xs.all (fun a => xs.all fun b => alike (py a) (py b)) && (xs.all tupC || xs.all flatC)
def leD (a b : D) : Bool := !(dataLt (py b) (py a))
def sortD : D → Option (List D)
  | .lst xs => if sortOk xs = true then some (xs.mergeSort leD) else none
  | _ => none
theorem okL_mem {n : Nat} : ∀ {xs : List D}, okL n xs = true → ∀ x ∈ xs, okD n x = true
  | y :: ys, h, x, hx => by
    have q : okD n y = true ∧ okL n ys = true := by simpa [okL] using h
    rcases List.mem_cons.mp hx with rfl | hx
    · exact q.1
    · exact okL_mem q.2 x hx
theorem sortable_of {xs : List D} (h : (xs.all tupC || xs.all flatC) = true) : PySem.W.Sortable (xs.map py) := by
  rw [Bool.or_eq_true] at h
  rcases h with h | h
  · refine .inl fun d hd => ?_
    obtain ⟨x, hx, rfl⟩ := List.mem_map.mp hd
    have q := List.all_eq_true.mp h x hx
    cases x with
    | tup ys =>
      cases ys with
      | nil => cases q
      | cons y ys => exact ⟨py y, pyL ys, by simp only [py, pyL]⟩
    | _ => cases q
  · refine .inr fun d hd => ?_
    obtain ⟨x, hx, rfl⟩ := List.mem_map.mp hd
    have q := List.all_eq_true.mp h x hx
    cases x with
    | bl _ => exact ⟨fun z => (by simp only [py] at z; cases z), fun ys z => (by simp only [py] at z; cases z)⟩
    | int _ => exact ⟨fun z => (by simp only [py] at z; cases z), fun ys z => (by simp only [py] at z; cases z)⟩
    | str _ => exact ⟨fun z => (by simp only [py] at z; cases z), fun ys z => (by simp only [py] at z; cases z)⟩
    | lst _ => exact ⟨fun z => (by simp only [py] at z; cases z), fun ys z => (by simp only [py] at z; cases z)⟩
    | _ => cases q
theorem rp_sel {K : KW} {as : List Addr} {O : Addr → Prop} {H : Hp} : ∀ {l : List (V × D)}, (∀ p ∈ l, Rp K as O H p.1 p.2) → RpL K as O H (l.map (·.1)) (l.map (·.2))
  | [], _ => .nil
  | p :: l, h => .cons (h p List.mem_cons_self) (rp_sel fun q hq => h q (List.mem_cons_of_mem _ hq))
theorem rp_zip {K : KW} {as : List Addr} {O : Addr → Prop} {H : Hp} : ∀ {vs : List V} {ds : List D}, RpL K as O H vs ds → (∀ p ∈ vs.zip ds, Rp K as O H p.1 p.2) ∧ (vs.zip ds).map (·.1) = vs ∧ (vs.zip ds).map (·.2) = ds
  | _, _, .nil => ⟨fun _ h => (nomatch h), rfl, rfl⟩
  | _, _, .cons r t => by
    obtain ⟨a, b, c⟩ := rp_zip t
    refine ⟨fun p hp => ?_, ?_, ?_⟩
    · rw [List.zip_cons_cons] at hp
      rcases List.mem_cons.mp hp with rfl | hp
      · exact r
      · exact a p hp
    · rw [List.zip_cons_cons, List.map_cons, b]
    · rw [List.zip_cons_cons, List.map_cons, c]
theorem vals_each {us : List Value} {l : List (V × D)} (h : Vals (l.map (·.1)) us) : EachIs (fun u p => RelV p.1 u) us l := by
  induction l generalizing us with
  | nil => cases h; exact .nil
  | cons p l ih => cases h with
    | cons a b => exact .cons a (ih b)
theorem each_vals {us : List Value} {l : List (V × D)} (h : EachIs (fun u p => RelV p.1 u) us l) : Vals (l.map (·.1)) us := by
  induction h with
  | nil => exact .nil
  | cons a _ ih => exact .cons a ih
section
variable {X : Cx}
theorem cd_sortD (hu : X.A.units + 65 < cLine) : CallR X (.builtin "sorted") (rF1 (kw X) sortD) := by
  intro pins s σ H xs us Q I r q
  obtain ⟨as, O, d, rr, x, rfl, w, rd, hg, k⟩ := q
  unfold sortD at hg
  split at hg
  · rename_i xs
    split at hg
    · rename_i hs
      cases hg
      unfold sortOk at hs
      rw [Bool.and_eq_true, Bool.and_eq_true] at hs
      obtain ⟨⟨hok, hal⟩, hsh⟩ := hs
      obtain ⟨a, vs, rfl, h, t⟩ := rd.lst
      obtain ⟨its, rv, hl, hz⟩ := I.list (.inl (.inl h))
      obtain ⟨u, rfl, ru⟩ := vals1 r
      obtain rfl : u = Value.ref a := ru
      obtain ⟨z1, z2, z3⟩ := rp_zip t
      have e1 : EachIs (fun u p => RelV p.1 u) its (vs.zip xs) := vals_each (by rw [z2]; exact rv)
      have lz : (vs.zip xs).length = vs.length := by rw [← List.length_map (f := fun p : V × D => p.1), z2]
      have er : EachIs (fun u p => ∃ as, Reads s.heap u (py p.2) as) its (vs.zip xs) := (PySem.W.each_mem e1).mono fun u p hp => by
        have m2 : p.2 ∈ xs := by rw [← z3]; exact List.mem_map.mpr ⟨p, hp.2, rfl⟩
        exact Dp.reads I (py p.2) p.1 u (Rp.dp 60 _ _ (okL_mem hok _ m2) (z1 p hp.2)) hp.1
      have em : (vs.zip xs).map (fun p => py p.2) = xs.map py := by
        have q := congrArg (List.map py) z3
        rw [List.map_map] at q
        exact q
      refine PySem.W.sorted_data (enc := fun p : V × D => py p.2) hl.isList e1 er ?_ ?_ (by rw [lz]; exact hz) (fun p hp => ?_) fun out ho hb => ?_
      · rw [em]
        intro d hd d' hd'
        obtain ⟨x, hx, rfl⟩ := List.mem_map.mp hd
        obtain ⟨y, hy, rfl⟩ := List.mem_map.mp hd'
        exact List.all_eq_true.mp (List.all_eq_true.mp hal x hx) y hy
      · rw [em]; exact sortable_of hsh
      · have m2 : p.2 ∈ xs := by rw [← z3]; exact List.mem_map.mpr ⟨p, hp, rfl⟩
        have := (ok_lay 60 p.2 (okL_mem hok _ m2)).2
        show X.A.units + 2 + (py p.2).depth < cLine
        omega
      · have hp : H (s.heap.objs.size + 1) = none := I.hok.fresh (Nat.le_succ _)
        have e2 : (((vs.zip xs).mergeSort (PySem.W.dataLe false fun p : V × D => py p.2)).map (·.2)) = xs.mergeSort leD := by
          rw [List.map_mergeSort (s := leD) (f := fun p : V × D => p.2), z3]
          intro a _ b _
          rfl
        have rp : RpL (kw X) as O H (((vs.zip xs).mergeSort (PySem.W.dataLe false fun p : V × D => py p.2)).map (·.1)) (xs.mergeSort leD) := by
          rw [← e2]
          exact rp_sel fun p hp => z1 p ((List.mergeSort_perm _ _).mem_iff.mp hp)
        obtain ⟨n, hn⟩ := sortedAll_at s.heap its (List.toArray out)
        refine ⟨.ref (s.heap.objs.size + 1), upd H (s.heap.objs.size + 1) (.lst (((vs.zip xs).mergeSort (PySem.W.dataLe false fun p : V × D => py p.2)).map (·.1))), I.laid (t' := s.toks) (fun b o e => sortedAll_old e) (Nat.le_succ _) ⟨?_, out, n, each_vals hb, hn⟩, rfl, k _ _ rp hp⟩
        rw [List.length_map, (List.mergeSort_perm _ _).length_eq, lz]
        exact hz
    · cases hg
  · cases hg
end
end DL
namespace DL
open PySem PySem.Spec PyProof.Rows L2
def ddI : List Int → List Int
  | [] => []
  | x :: xs => if x ∈ xs then ddI xs else x :: ddI xs
theorem mem_ddI : ∀ {xs : List Int} {k : Int}, k ∈ ddI xs ↔ k ∈ xs
  | [], k => Iff.rfl
  | x :: xs, k => by
    unfold ddI
    split
    · rw [mem_ddI, List.mem_cons]
      constructor
      · exact .inr
      · rintro (rfl | h)
        · assumption
        · exact h
    · rw [List.mem_cons, List.mem_cons, mem_ddI]
theorem nodup_ddI : ∀ (xs : List Int), (ddI xs).Nodup
  | [] => List.nodup_nil
  | x :: xs => by
    unfold ddI
    split
    · exact nodup_ddI xs
    · rw [List.nodup_cons]
      exact ⟨fun h => ‹¬ x ∈ xs› (mem_ddI.mp h), nodup_ddI xs⟩
def sortSet : D → Option (List D)
  | .lst xs => (intsD xs).bind fun is => if (ddI is).length < 64 ∧ is.length < 4095 then some (((ddI is).mergeSort (· ≤ ·)).map .int) else none
  | _ => none
theorem asc_one {a b : List Int} (h : ∀ k, k ∈ a ↔ k ∈ b) (p : a.Pairwise (· < ·)) (hb : b.Nodup) : a = b.mergeSort (· ≤ ·) := by
  have na : a.Nodup := p.imp fun h => by omega
  exact sort_one ((List.perm_ext_iff_of_nodup na hb).mpr h) (p.imp fun h => by omega)
section
variable {X : Cx} {pos p1 p2 q : Pos} {a : Expr} {fa : Ev}
def rSetL (K : KW) (w : World) : List V → Hp → VK → Prop := fun xs H Q => ∃ (a : Addr) (ns : List Int), xs = [.ref a] ∧ SqL K H a (ns.map V.int) ∧ ns.length + 1 < scanBound ∧ ∀ p, H p = none → Q (.ref p) (upd H p (SetO w p (fun j => decide (j ∈ ns)) (ddI ns).length))
theorem setR_card {w : World} {h : Heap} {a : Addr} {ns : List Int} {c : Nat} (R : SetR w h a (fun j => decide (j ∈ ns)) c) : c = (ddI ns).length := by
  obtain ⟨o, es, ep, t, h1, h2, h3, h4, h5, h6, h7, h8, h9, h10⟩ := R
  have q : (es.toList.map keyOf).Perm (ddI ns) := (List.perm_ext_iff_of_nodup h5 (nodup_ddI ns)).mpr fun k => by
    rw [mem_ddI, ← h6 k, decide_eq_true_eq]
  have := q.length_eq
  rw [List.length_map, Array.length_toList] at this
  omega
theorem cr_setL (hc : X.calm = true) : CallR X (.type "set") (rSetL (kw X) X.w) := by
  intro pins s σ H xs us Q I r h
  obtain ⟨a, ns, rfl, hs, few, k⟩ := h
  obtain ⟨its, rv, hl, hz⟩ := I.list hs
  rw [Vals.ref1 r]
  have hi : IntsAre its.toArray.toList ns := intsAre_of rv
  refine set_of_ints ns (I.ok.hd hc) hl.isList hi few fun z hz => ?_
  obtain ⟨h', tk, c, rfl, R, hc', kp⟩ := hz
  have e := setR_card R
  have hn : H s.heap.objs.size = none := I.hok.fresh (Nat.le_refl _)
  refine ⟨.ref s.heap.objs.size, upd H s.heap.objs.size (SetO X.w s.heap.objs.size (fun j => decide (j ∈ ns)) (ddI ns).length), I.laid (t' := tk) kp (Nat.le_refl _) (setO_new (by rw [← e]; exact R)), rfl, k _ hn⟩
theorem mf_sortSet (hc : X.calm = true) (hg : Gl X "sorted") (hm : X.mg "sorted" = none) (hg2 : Gl X "set") (hm2 : X.mg "set" = none) (ha : PE X a (tOfB (kw X) fa))
    (he : starEach [a] X.env = (false, eval a X.env) :: starEach [] X.env := by rfl) (he2 : starEach [Expr.Call (.Name "set" p2) [a] [] q] X.env = (false, eval (Expr.Call (.Name "set" p2) [a] [] q) X.env) :: starEach [] X.env := by rfl) :
    PE X (.Call (.Name "sorted" p1) [.Call (.Name "set" p2) [a] [] q] [] pos) (tOfF (kw X) (eUnF sortSet fa)) :=
  (pe_callB (cr_sortedSet hc) hg hm boot_sorted (pa_cons (pe_callTy (cr_setL hc) hg2 hm2 boot_set (pa_cons ha pa_nil he) (by decide) (by decide) he rfl) pa_nil he2) (by decide) (by decide) he2 rfl).weak fun σ H Q h => by
    obtain ⟨as, O, ρ, S, d, S', R, hf, k⟩ := h
    unfold eUnF at hf
    obtain ⟨⟨d1, S1⟩, h1, hf⟩ := Option.bind_eq_some_iff.mp hf
    obtain ⟨r, h3, hf⟩ := Option.bind_eq_some_iff.mp hf
    cases hf
    refine ⟨as, O, ρ, S, d1, S1, R, h1, fun v H1 s1 c1 r1 => ?_⟩
    have R1 := R.step s1 c1
    unfold sortSet at h3
    split at h3
    · rename_i xs e
      have e : d1 = .lst xs := e
      subst e
      obtain ⟨is, h4, h3⟩ := Option.bind_eq_some_iff.mp h3
      split at h3
      · rename_i hlen
        cases h3
        obtain ⟨a1, vs, rfl, h5, t⟩ := RpB.lst r1
        have ev := rp_intsD t h4
        subst ev
        refine ⟨a1, is, rfl, .inl (.inl h5), by show is.length + 1 < 4096; omega, fun p hp => ?_⟩
        refine ⟨p, _, _, rfl, upd_same, hlen.1, fun ns p' asc mem ln hp' => ?_⟩
        have ens : ns = (ddI is).mergeSort (· ≤ ·) := asc_one (fun k => by rw [mem k, mem_ddI, decide_eq_true_eq]) asc (nodup_ddI is)
        subst ens
        have s2 := same_new (o := SetO X.w p (fun j => decide (j ∈ is)) (ddI is).length) hp
        have R2 := R1.step (Same.stp s2) (R1.cells.same R1.wf s2)
        have c2 := R2.cells
        have q := new_cells (o := .lst (((ddI is).mergeSort (· ≤ ·)).map V.int)) R2.wf c2 hp'
        have s12 := s1.trans (Same.stp s2)
        exact k p' _ (R.free s12 c2 hp') (s12.trans (Same.stp (same_new hp'))) q.1 (.lst upd_same (q.2 _ _ (rp_ints _)))
      · cases h3
    · cases h3
end
end DL
namespace DL
open PySem PySem.Spec PyProof.Rows L2
section
variable {K : KW} {as : List Addr} {O O' : Addr → Prop} {H : Hp}
mutual
theorem Rp.bare : ∀ (n : Nat) (v : V) (d : D), okD n d = true → Rp K as O H v d → Rp K [] (fun _ => False) H v d
  | _, _, .non, _, .non => .non
  | _, _, .bl b, _, .bl _ => .bl b
  | _, _, .int i, _, .int _ => .int i
  | _, _, .str x, _, .str _ => .str x
  | _, _, .obj _, h, _ => by simp [okD] at h
  | _, _, .scr _, h, _ => by simp [okD] at h
  | _, _, .dct _, h, _ => by simp [okD] at h
  | _, _, .kd _, h, _ => by simp [okD] at h
  | 0, _, .tup _, h, _ => by simp [okD] at h
  | 0, _, .lst _, h, _ => by simp [okD] at h
  | n + 1, _, .tup xs, h, .tup q r => .tup q (RpL.bare n _ _ (by simpa [okD] using h) r)
  | n + 1, _, .lst xs, h, .lst _ q r => .lst (fun z => z) q (RpL.bare n _ _ (by simpa [okD] using h) r)
theorem RpL.bare : ∀ (n : Nat) (vs : List V) (ds : List D), okL n ds = true → RpL K as O H vs ds → RpL K [] (fun _ => False) H vs ds
  | _, _, [], _, .nil => .nil
  | n, _, d :: ds, h, .cons r t => by
    have q : okD n d = true ∧ okL n ds = true := by simpa [okL] using h
    exact .cons (Rp.bare n _ _ q.1 r) (RpL.bare n _ _ q.2 t)
end
theorem RpB.bare {n : Nat} {v : V} {d : D} (h : okD n d = true) (r : RpB K as O H v d) : Rp K [] (fun _ => False) H v d := by
  rcases r with r | ⟨a, e, _, c⟩
  · exact Rp.bare n _ _ h r
  · subst e
    cases c with
    | lst hh t =>
      cases n with
      | zero => simp [okD] at h
      | succ n => exact .lst (fun z => z) hh (RpL.bare n _ _ (by simpa [okD] using h) t)
    | dct _ _ _ _ _ => simp [okD] at h
    | kd _ _ _ => simp [okD] at h
inductive RpBL (K : KW) (as : List Addr) (O : Addr → Prop) (H : Hp) : List V → List D → Prop
  | nil : RpBL K as O H [] []
  | cons {v : V} {vs : List V} {d : D} {ds : List D} : RpB K as O H v d → RpBL K as O H vs ds → RpBL K as O H (v :: vs) (d :: ds)
theorem RpBL.stp {H' : Hp} (w : Wf as O H) (s : Stp as H H') : ∀ {vs : List V} {ds : List D}, RpBL K as O H vs ds → RpBL K as O H' vs ds
  | _, _, .nil => .nil
  | _, _, .cons r t => .cons (r.stp w s) (RpBL.stp w s t)
theorem RpBL.bare {n : Nat} : ∀ {vs : List V} {ds : List D}, okL n ds = true → RpBL K as O H vs ds → RpL K [] (fun _ => False) H vs ds
  | _, _, _, .nil => .nil
  | _, _ :: _, h, .cons r t => by
    rw [okL, Bool.and_eq_true] at h
    exact .cons (r.bare h.1) (RpBL.bare h.2 t)
theorem RpBL.len : ∀ {vs : List V} {ds : List D}, RpBL K as O H vs ds → vs.length = ds.length
  | _, _, .nil => rfl
  | _, _, .cons _ t => congrArg (· + 1) (RpBL.len t)
end
def tOfAB (K : KW) (f : Ea) : TA := fun σ H Q => ∃ as O ρ S ds S', RelE K as O σ H ρ S ∧ f ρ S = some (ds, S') ∧
  ∀ vs H', Stp as H H' → Cells K as O H' S' → RpBL K as O H' vs ds → Q vs H'
def flatD : D → Bool
  | .non => true
  | .bl _ => true
  | .int _ => true
  | .str _ => true
  | _ => false
theorem rp_flat {K : KW} {as as' : List Addr} {O O' : Addr → Prop} {H H' : Hp} {v : V} {d : D} (h : flatD d = true) (r : Rp K as O H v d) : Rp K as' O' H' v d := by
  cases r with
  | non => exact .non
  | bl b => exact .bl b
  | int b => exact .int b
  | str b => exact .str b
  | _ => cases h
def eCallP (n : Nat) (m : List D → List D → Option (D × List D)) (fs : Ea) : Ev := fun ρ S => (fs ρ S).bind fun q => if q.1.length = n ∧ okL 60 q.1 = true then (m q.1 []).bind fun r => if flatD r.1 = true then some (r.1, q.2) else none else none
section
variable {X : Cx} {pos pp : Pos} {e a b c : Expr} {es : List Expr} {f fa fb fz : Ev} {fs : Ea} {fr : Bool}
theorem mab_nil : PA X [] (tOfAB (kw X) aN) := pa_nil.weak fun σ H Q q => by
  obtain ⟨as, O, ρ, S, d, S', R, hf, k⟩ := q
  cases hf
  exact k [] H Stp.refl R.cells .nil
theorem mab_cons (ha : PE X e (tOfB (kw X) f)) (hs : PA X es (tOfAB (kw X) fs)) (he : starEach (e :: es) X.env = (false, eval e X.env) :: starEach es X.env := by rfl) : PA X (e :: es) (tOfAB (kw X) (aC f fs)) := (pa_cons ha hs he).weak fun σ H Q q => by
  obtain ⟨as, O, ρ, S, d, S', R, hf, k⟩ := q
  unfold aC at hf
  obtain ⟨⟨d1, S1⟩, h1, hf⟩ := Option.bind_eq_some_iff.mp hf
  obtain ⟨⟨d2, S2⟩, h2, hf⟩ := Option.bind_eq_some_iff.mp hf
  cases hf
  refine ⟨as, O, ρ, S, d1, S1, R, h1, fun v H1 s1 c1 r1 => ?_⟩
  have R1 := R.step s1 c1
  exact ⟨as, O, ρ, S1, d2, S2, R1, h2, fun vs H2 s2 c2 r2 => k _ H2 (s1.trans s2) c2 (.cons (r1.stp R1.wf s2) r2)⟩
theorem me_callP {k : Nat} {x : Str} {fad : Addr} {fd : FuncData} {ps : List Str} {m : List D → List D → Option (D × List D)} (F : FnM X.prog X.w X.K X.mg X.base k x fad fd ps fr m) (hr : RoomG k X.A) (hg : Gl X x) (ha : PA X (e :: es) (tOfAB (kw X) fs))
    (hdb : (x == ("__debug__" : Str)) = false := by decide) (he : starEach (e :: es) X.env = (false, eval e X.env) :: starEach es X.env := by rfl) (hpl : (backTo pos (starEach es X.env)).any (·.1) = false := by rfl) {n : Nat} (hn : ps.length = n := by rfl) :
    PE X (.Call (.Name x pp) (e :: es) [] pos) (tOf (kw X) (eCallP n m fs)) :=
  (pe_callG F.ok hr hg F.mg F.kp F.bd ha hdb he hpl).weak fun σ H Q q => by
    subst hn
    obtain ⟨as, O, ρ, S, d, S', R, hf, kk⟩ := q
    unfold eCallP at hf
    obtain ⟨⟨ds, S1⟩, h1, hf⟩ := Option.bind_eq_some_iff.mp hf
    split at hf
    · rename_i hl
      obtain ⟨⟨r, S2⟩, h2, hf⟩ := Option.bind_eq_some_iff.mp hf
      split at hf
      · rename_i hfl
        cases hf
        refine ⟨as, O, ρ, S, ds, _, R, h1, fun vs H1 s1 c1 r1 => ?_⟩
        have R1 := R.step s1 c1
        show spM _ (kw X) ps.length m (vs ++ []) H1 Q E0
        rw [List.append_nil]
        refine ⟨r1.len.trans hl.1, [], fun _ => False, ds, [], r, S2, ⟨fun _ h => (nomatch h), fun _ h => h.elim, List.nodup_nil⟩, ⟨rfl, fun i a d e1 e2 => by cases e2⟩, r1.bare hl.2, h2, fun v H' s c r _ => ?_⟩
        have sm : Same H1 H' := fun a u h => s a u (fun m => nomatch m) h
        exact kk v H' (s1.trans (Same.stp sm)) (c1.same R1.wf sm) (rp_flat hfl r)
      · cases hf
    · cases hf
def sParO (i j : Nat) (fa fb : Ev) : Sv := fun ρ S => (fa ρ S).bind fun p => (fb ρ p.2).bind fun q => if i < ρ.length ∧ i ≠ j then some (.nx ((ρ.set j (.val q.1)).set i (.own p.1)) q.2) else none
theorem RelE.beside {K : KW} {as : List Addr} {O : Addr → Prop} {σ : L2.St} {H H' : Hp} {ρ : List Slot} {S S' : List D} {p : Addr} {d : D} (R : RelE K as O σ H ρ S) (hp : H p = none) (s : Stp as H H') (c : Cells K as (ad O p) H' S') (q : CellR K as (ad O p) H' p d) : RelE K as (ad O p) σ H' ρ S' := by
  have kk : Kp (ad O p) H H' := fun a u n e => s a u (fun m => n (.inl (R.wf.sub a m))) e
  have m1 : ∀ a, ad O p a → Nt (H a) := fun a o => by
    rcases o with o | o
    · exact R.wf.nt a o
    · rw [o, hp]; exact nt_none
  have w1 := R.wf.step s (c.anti ad_sub)
  refine ⟨⟨fun a m => .inl (R.wf.sub a m), fun a o => ?_, R.wf.nd⟩, c, R.len, fun i d h => ?_, fun i d h => ?_⟩
  · rcases o with o | o
    · exact w1.mt a o
    · rw [o]; exact q.mt
  · obtain ⟨v, h2, r⟩ := R.val i d h
    exact ⟨v, h2, Rp.kp m1 kk _ _ (Rp.ad hp _ _ r)⟩
  · obtain ⟨a, h2, n, cc⟩ := R.own i d h
    refine ⟨a, h2, n, ?_⟩
    cases cc with
    | lst hh r => exact .lst (s a _ n hh) (RpL.kp m1 kk _ _ (RpL.ad hp _ _ r))
    | dct hh r t9 e9 k9 => exact .dct (s a _ n hh) (RpL.kp m1 kk _ _ (RpL.ad hp _ _ r)) (RpL.kp m1 kk _ _ (RpL.ad hp _ _ t9)) e9 k9
    | kd hh e9 t9 => exact .kd (s a _ n hh) e9 (RpL.kp m1 kk _ _ (RpL.ad hp _ _ t9))
def tOfPF (K : KW) (fa fb : Ev) : TA := fun σ H Q => ∃ as O ρ S d1 S1 d2 S2, RelE K as O σ H ρ S ∧ fa ρ S = some (d1, S1) ∧ fb ρ S1 = some (d2, S2) ∧
  ∀ p v H', H p = none → Stp as H H' → Cells K as (ad O p) H' S2 → CellR K as (ad O p) H' p d1 → Rp K as (ad O p) H' v d2 → Q [.ref p, v] H'
theorem mpf (ha : PE X a (tOfF (kw X) fa)) (hb : PE X b (tOf (kw X) fb)) (s1 : starEach [a, b] X.env = (false, eval a X.env) :: starEach [b] X.env) (s2 : starEach [b] X.env = (false, eval b X.env) :: starEach [] X.env) : PA X [a, b] (tOfPF (kw X) fa fb) :=
  (pa_cons ha (pa_cons hb pa_nil s2) s1).weak fun σ H Q q => by
    obtain ⟨as, O, ρ, S, d1, S1, d2, S2, R, h1, h2, k⟩ := q
    refine ⟨as, O, ρ, S, d1, S1, R, h1, fun p H1 n t1 c1 q1 => ?_⟩
    have R1 := R.beside n t1 c1 q1
    refine ⟨as, ad O p, ρ, S1, d2, S2, R1, h2, fun v H2 t2 c2 r2 => ?_⟩
    have np : p ∉ as := fun m => R.wf.trk (R.wf.sub p m) n
    exact k p v H2 n (t1.trans t2) c2 (q1.stp R1.wf t2 np) r2
theorem ms_parO {i j : Nat} {x y : Str} {px py pt : Pos} {kt k2 pt2} (hc : X.calm = true) (hN : X.N.Nodup) (hi : X.N[i]? = some x) (hj : X.N[j]? = some y) (hij : i ≠ j)
    (hx : X.env.scope.names.lookup x = some .local) (hy : X.env.scope.names.lookup y = some .local) (ha : PE X a (tOfF (kw X) fa)) (hb : PE X b (tOf (kw X) fb))
    (hw : swappedStores [.Tuple [.Name x px, .Name y py] kt pt] (.Tuple [a, b] k2 pt2) X.env = pure (some [x, y]))
    (s1 : starEach [a, b] X.env = (false, eval a X.env) :: starEach [b] X.env := by rfl) (s2 : starEach [b] X.env = (false, eval b X.env) :: starEach [] X.env := by rfl)
    (hs : swapsWithSole [.Tuple [.Name x px, .Name y py] kt pt] (.Tuple [a, b] k2 pt2) pos.line X.env = pure false := by rfl) :
    PS X (.Assign [.Tuple [.Name x px, .Name y py] kt pt] (.Tuple [a, b] k2 pt2) pos) (tOfS fr (kw X) (sParO i j fa fb)) :=
  (ps_par hc hN hi hj hij hx hy (mpf ha hb s1 s2) hw hs).weak fun D σ H q => by
    obtain ⟨as, O, B, G, ρ, S, o, R, hf, k⟩ := q
    unfold sParO at hf
    obtain ⟨⟨d1, S1⟩, h1, hf⟩ := Option.bind_eq_some_iff.mp hf
    obtain ⟨⟨d2, S2⟩, h2, hf⟩ := Option.bind_eq_some_iff.mp hf
    split at hf
    · rename_i hil
      cases hf
      refine ⟨as, _, ρ, S, d1, S1, d2, S2, R.e, h1, h2, fun p v H1 n t1 c1 q1 r1 => ⟨_, _, rfl, ?_⟩⟩
      rw [List.set_comm _ _ hij]
      have R1 := R.setOwn i hil.1 n t1 c1 q1
      have sb : ∀ b, OO O (ρ.set i (.own d1)) (σ.set i (some (.ref p))) b → ad (OO O ρ σ) p b := fun b h => by
        rcases h with h | ⟨l, e, h1, h2⟩
        · exact .inl (.inl h)
        · rcases get_set h1 with ⟨rfl, z⟩ | ⟨ne, z⟩
          · rcases get_set h2 with ⟨_, y⟩ | ⟨y, _⟩
            · exact .inr (by cases y; rfl)
            · exact absurd rfl y
          · rw [List.getElem?_set_ne (Ne.symm ne)] at h2
            exact .inl (.inr ⟨l, e, z, h2⟩)
      have R2 := R1.set j (Rp.anti sb _ _ r1)
      have e1 : (σ.set j (some v)).set i (some (.ref p)) = (σ.set i (some (.ref p))).set j (some v) := List.set_comm _ _ (Ne.symm hij)
      have e2 : (ρ.set j (.val d2)).set i (.own d1) = (ρ.set i (.own d1)).set j (.val d2) := List.set_comm _ _ (Ne.symm hij)
      rw [e1]
      have k : ∀ σ H, Rel (kw X) as O B G σ H ((ρ.set j (.val d2)).set i (.own d1)) S2 → D.nx σ H := k
      rw [e2] at k
      exact k _ _ R2
    · cases hf
def sPar3 (i j l : Nat) (fa fb fz : Ev) : Sv := fun ρ S => (fa ρ S).bind fun p => (fb ρ p.2).bind fun q => (fz ρ q.2).bind fun r => some (.nx (((ρ.set i (.val p.1)).set j (.val q.1)).set l (.val r.1)) r.2)
theorem ms_par3 {i j l : Nat} {x y z : Str} {px py pz pt : Pos} {kt k2 pt2} (hc : X.calm = true) (hN : X.N.Nodup) (hi : X.N[i]? = some x) (hj : X.N[j]? = some y) (hl : X.N[l]? = some z) (hij : i ≠ j) (hil : i ≠ l) (hjl : j ≠ l)
    (hx : X.env.scope.names.lookup x = some .local) (hy : X.env.scope.names.lookup y = some .local) (hz : X.env.scope.names.lookup z = some .local) (ha : PE X a (tOf (kw X) fa)) (hb : PE X b (tOf (kw X) fb)) (hcc : PE X c (tOf (kw X) fz))
    (hw : swappedStores [.Tuple [.Name x px, .Name y py, .Name z pz] kt pt] (.Tuple [a, b, c] k2 pt2) X.env = pure (some [x, y, z]))
    (s1 : starEach [a, b, c] X.env = (false, eval a X.env) :: starEach [b, c] X.env := by rfl) (s2 : starEach [b, c] X.env = (false, eval b X.env) :: starEach [c] X.env := by rfl) (s3 : starEach [c] X.env = (false, eval c X.env) :: starEach [] X.env := by rfl)
    (hs : swapsWithSole [.Tuple [.Name x px, .Name y py, .Name z pz] kt pt] (.Tuple [a, b, c] k2 pt2) pos.line X.env = pure false := by rfl) :
    PS X (.Assign [.Tuple [.Name x px, .Name y py, .Name z pz] kt pt] (.Tuple [a, b, c] k2 pt2) pos) (tOfS fr (kw X) (sPar3 i j l fa fb fz)) :=
  (ps_par3 hc hN hi hj hl hij hil hjl hx hy hz (ma_cons ha (ma_cons hb (ma_cons hcc ma_nil s3) s2) s1) hw hs).weak fun D σ H q => by
    obtain ⟨as, O, B, G, ρ, S, o, R, hf, k⟩ := q
    unfold sPar3 at hf
    obtain ⟨⟨d1, S1⟩, h1, hf⟩ := Option.bind_eq_some_iff.mp hf
    obtain ⟨⟨d2, S2⟩, h2, hf⟩ := Option.bind_eq_some_iff.mp hf
    obtain ⟨⟨d3, S3⟩, h3, hf⟩ := Option.bind_eq_some_iff.mp hf
    cases hf
    refine ⟨as, _, ρ, S, [d1, d2, d3], S3, R.e, ?_, fun vs H1 s1 c1 r1 => ?_⟩
    · simp only [aC, aN, h1, h2, h3, Option.bind_some]
    · cases r1 with
      | cons r1 t1 =>
        cases t1 with
        | cons r2 t2 =>
          cases t2 with
          | cons r3 t3 =>
            cases t3
            refine ⟨_, _, _, rfl, ?_⟩
            have R1 := (R.step s1 c1).set i r1
            have R2 := R1.set j (Rp.anti (oo_set (y := .val _) fun _ z => nomatch z) _ _ r2)
            exact k _ _ (R2.set l (Rp.anti (oo_set (y := .val _) fun _ z => nomatch z) _ _ (Rp.anti (oo_set (y := .val _) fun _ z => nomatch z) _ _ r3)))
end
inductive CD where
  | int (i : Int) | str (x : Str) | tup (cs : List CD)
mutual
def CD.d : CD → D
  | .int i => .int i
  | .str x => .str x
  | .tup cs => .tup (CD.ds cs)
def CD.ds : List CD → List D
  | [] => []
  | c :: cs => c.d :: CD.ds cs
end
mutual
def cB (K : PySem.W.Frag) : CD → Value → Bool
  | .int i, .int j _ => decide (i = j)
  | .str x, .str y _ => decide (x = y)
  | .tup cs, .ref a => (match K.lookup a with
    | some ⟨.type c, _, .seq its _, _⟩ => decide (c = "tuple") && (decide (its.size ≤ sizeLine) && cBL K cs its.toList)
    | _ => false)
  | _, _ => false
def cBL (K : PySem.W.Frag) : List CD → List Value → Bool
  | [], [] => true
  | c :: cs, u :: us => cB K c u && cBL K cs us
  | _, _ => false
end
mutual
theorem cB_ok {K : PySem.W.Frag} : ∀ (c : CD) (u : Value), cB K c u = true → ∃ v, RelV v u ∧ KD K v c.d
  | .int i, u, h => by
    cases u with
    | int j t =>
      unfold cB at h
      have e := of_decide_eq_true h
      subst e
      exact ⟨.int i, ⟨t, rfl⟩, by unfold CD.d; exact KD.int i⟩
    | _ => unfold cB at h; cases h
  | .str x, u, h => by
    cases u with
    | str y t =>
      unfold cB at h
      have e := of_decide_eq_true h
      subst e
      exact ⟨.str x, ⟨t, rfl⟩, by unfold CD.d; exact KD.str x⟩
    | _ => unfold cB at h; cases h
  | .tup cs, u, h => by
    cases u with
    | ref a =>
      unfold cB at h
      cases q : K.lookup a with
      | none =>
        rw [q] at h
        cases h
      | some o =>
        obtain ⟨oc, od, dt, osl⟩ := o
        rw [q] at h
        cases oc with
        | type c =>
          cases dt with
          | seq its n =>
            have h : (decide (c = "tuple") && (decide (its.size ≤ sizeLine) && cBL K cs its.toList)) = true := h
            rw [Bool.and_eq_true, Bool.and_eq_true] at h
            obtain ⟨h1, h2, h3⟩ := h
            obtain ⟨vs, r1, r2⟩ := cBL_ok cs its.toList h3
            refine ⟨.ref a, rfl, fun w as O H => ?_⟩
            unfold CD.d
            exact .tup (.inr ⟨_, its, n, q, congrArg Value.type (of_decide_eq_true h1), rfl, of_decide_eq_true h2, r1⟩) (r2 w as O H)
          | _ => cases h
        | _ => cases dt <;> cases h
    | _ => unfold cB at h; cases h
theorem cBL_ok {K : PySem.W.Frag} : ∀ (cs : List CD) (us : List Value), cBL K cs us = true → ∃ vs, Vals vs us ∧ ∀ (w : World) as O H, RpL ⟨K, w⟩ as O H vs (CD.ds cs)
  | [], [], _ => ⟨[], .nil, fun _ _ _ _ => by unfold CD.ds; exact .nil⟩
  | c :: cs, u :: us, h => by
    unfold cBL at h
    rw [Bool.and_eq_true] at h
    obtain ⟨v, r, k⟩ := cB_ok c u h.1
    obtain ⟨vs, rs, ks⟩ := cBL_ok cs us h.2
    exact ⟨v :: vs, .cons r rs, fun w as O H => by unfold CD.ds; exact .cons (k w as O H) (ks w as O H)⟩
  | [], _ :: _, h => by unfold cBL at h; cases h
  | _ :: _, [], h => by unfold cBL at h; cases h
end
end DL
namespace DL
open PySem PySem.Spec PyProof.Rows L2
def txOk (K : PySem.W.Frag) (tx : List (Str × CD)) : Bool := tx.all fun t => match PySem.W.nsIn K mainGlobals t.1 with
  | some (some u) => cB K t.2 u
  | _ => false
def obsE (n : Nat) (fa : List He.Fa) (fn : List He.DefD) (tx : List (Str × CD)) (g : Addr → Option Obj) : He.AlD × Bool := (He.obsDG n fa fn g, txOk (He.frG g (He.asD g n)) tx)
def hookE (n : Nat) (fa : List He.Fa) (fn : List He.DefD) (tx : List (Str × CD)) : PySem.W.Hook where
  α := He.AlD × Bool
  obs := fun s => obsE n fa fn tx s.heap.get?
  val := fun _ => (He.valD fn, true)
  says := fun _ h => ∃ K : PySem.W.Frag, K.In h ∧ He.SaysD fa fn K ∧ txOk K tx = true
  of := fun _ _ e => ⟨_, He.frG_in, congrArg (Prod.fst (α := He.AlD) (β := Bool)) e, congrArg (Prod.snd (α := He.AlD) (β := Bool)) e⟩
  keeps := fun _ _ _ ⟨K, hK, c⟩ k => ⟨K, PySem.W.Frag.In.keeps hK k, c⟩
theorem obsE_eq {n : Nat} {fa : List He.Fa} {fn : List He.DefD} {tx : List (Str × CD)} {g : Addr → Option Obj} {s : Shared} (h : ∀ a, g a = s.heap.get? a) : obsE n fa fn tx g = (hookE n fa fn tx).obs s := by
  have e : g = s.heap.get? := funext h
  rw [e] <;> rfl
theorem tx_ok {K : PySem.W.Frag} {h : Heap} {mg : Str → Option Value} {tx : List (Str × CD)} (X : K.In h) (G : h.Ns mainGlobals mg) (c : txOk K tx = true) {x : Str} {d : CD} (i : Nat) (hi : tx[i]? = some (x, d)) : ∃ v u, mg x = some u ∧ RelV v u ∧ KD K v d.d := by
  have q := List.all_eq_true.mp c (x, d) (List.mem_of_getElem? hi)
  cases e : PySem.W.nsIn K mainGlobals x with
  | none =>
    simp only [e] at q
    cases q
  | some o =>
    cases o with
    | none =>
      simp only [e] at q
      cases q
    | some u =>
      simp only [e] at q
      obtain ⟨v, r, k⟩ := cB_ok d u q
      exact ⟨v, u, PySem.W.mg_of X G e, r, k⟩
def natGap (i j : Nat) (ρ : List Slot) : Nat := match ρ[i]?, ρ[j]? with
  | some (.val (.int a)), some (.val (.int b)) => (b - a).toNat
  | _, _ => 0
theorem ev_natGap (i j : Nat) (ρ : List Slot) : natGap i j ρ = (match ρ[i]?, ρ[j]? with | some (.val (.int a)), some (.val (.int b)) => (b - a).toNat | _, _ => 0) := (rfl)
end DL
namespace DL
open PySem (PyData)
def tokD (d : D) : List (Int ⊕ List Nat) := PySem.W.keyToks (py d)
theorem leD_total : PySem.W.TotalLe leD := PySem.W.sortLe_total (PyProof.Rows.listOrd PyProof.Rows.itemOrd) false tokD
theorem leD_anti {a b : D} (h1 : leD a b = true) (h2 : leD b a = true) : tokD a = tokD b := by
  have h1' : (!PyProof.Rows.lexLt PyProof.Rows.itemOrd (tokD b) (tokD a)) = true := h1
  have h2' : (!PyProof.Rows.lexLt PyProof.Rows.itemOrd (tokD a) (tokD b)) = true := h2
  rw [Bool.not_eq_true'] at h1' h2'
  exact PyProof.Rows.lex_total (O := PyProof.Rows.itemOrd) _ _ h2' h1'
def sortBy {α : Type} (e : α → D) (l : List α) : List α := l.mergeSort fun x y => leD (e x) (e y)
theorem sortBy_perm {α : Type} (e : α → D) (l : List α) : (sortBy e l).Perm l := List.mergeSort_perm _ _
theorem sortBy_srt {α : Type} (e : α → D) (l : List α) : (sortBy e l).Pairwise fun x y => leD (e x) (e y) = true :=
  List.pairwise_mergeSort (le := fun x y => leD (e x) (e y)) (fun a b c h1 h2 => leD_total.trans (e a) (e b) (e c) h1 h2) (fun a b => by
    rcases leD_total.total (e a) (e b) with h | h
    · rw [h]; rfl
    · rw [h, Bool.or_true]) l
theorem sortBy_iff {α : Type} {e : α → D} (inj : ∀ x y, tokD (e x) = tokD (e y) → x = y) (a b : List α) : sortBy e a = sortBy e b ↔ a.Perm b := by
  constructor
  · intro h
    exact (sortBy_perm e a).symm.trans (h ▸ sortBy_perm e b)
  · intro h
    refine List.Perm.eq_of_pairwise (le := fun x y => leD (e x) (e y) = true) (fun x y _ _ h1 h2 => inj x y (leD_anti h1 h2)) (sortBy_srt e a) (sortBy_srt e b) ?_
    exact ((sortBy_perm e a).trans h).trans (sortBy_perm e b).symm
theorem sortBy_map {α : Type} (e : α → D) (l : List α) : (l.map e).mergeSort leD = (sortBy e l).map e := (List.map_mergeSort (r := fun x y => leD (e x) (e y)) (s := leD) (f := e) (fun _ _ _ _ => rfl)).symm
theorem all_tup {α : Type} {e : α → D} (l : List α) (h : ∀ x ∈ l, tupC (e x) = true) : ((l.map e).all tupC) = true := by
  rw [List.all_map]
  exact List.all_eq_true.mpr h
theorem okL_of {n : Nat} : ∀ {xs : List D}, (∀ x ∈ xs, okD n x = true) → okL n xs = true
  | [], _ => by simp [okL]
  | x :: xs, h => by
    simp only [okL, h x List.mem_cons_self, okL_of (fun y hy => h y (List.mem_cons_of_mem _ hy)), Bool.and_self]
theorem sortOk_of {α : Type} {e : α → D} (l : List α) (ok : ∀ x ∈ l, okD 60 (e x) = true) (al : ∀ x ∈ l, ∀ y ∈ l, PySem.W.alike (py (e x)) (py (e y)) = true) (k : (∀ x ∈ l, tupC (e x) = true) ∨ ∀ x ∈ l, flatC (e x) = true) : sortOk (l.map e) = true := by
  unfold sortOk
  rw [Bool.and_eq_true, Bool.and_eq_true]
  refine ⟨⟨okL_of fun d hd => ?_, ?_⟩, ?_⟩
  · obtain ⟨x, hx, rfl⟩ := List.mem_map.mp hd
    exact ok x hx
  · refine List.all_eq_true.mpr fun d hd => List.all_eq_true.mpr fun d' hd' => ?_
    obtain ⟨x, hx, rfl⟩ := List.mem_map.mp hd
    obtain ⟨y, hy, rfl⟩ := List.mem_map.mp hd'
    exact al x hx y hy
  · rw [Bool.or_eq_true]
    rcases k with k | k
    · exact .inl (all_tup l k)
    · refine .inr ?_
      rw [List.all_map]
      exact List.all_eq_true.mpr k
theorem sortD_eq {α : Type} {e : α → D} (l : List α) (ok : ∀ x ∈ l, okD 60 (e x) = true) (al : ∀ x ∈ l, ∀ y ∈ l, PySem.W.alike (py (e x)) (py (e y)) = true) (k : (∀ x ∈ l, tupC (e x) = true) ∨ ∀ x ∈ l, flatC (e x) = true) : sortD (.lst (l.map e)) = some ((sortBy e l).map e) := by
  show (if sortOk (l.map e) = true then some ((l.map e).mergeSort leD) else none) = _
  rw [if_pos (sortOk_of l ok al k), sortBy_map]
end DL
namespace DL
theorem forL_st {α β : Type} {p : Pat} {g : Sv} (e : β → D) (P : α → List Slot → Prop) (f : α → β → α) (S : List D) : ∀ (xs : List β), (∀ a x ρ, x ∈ xs → P a ρ → ∃ l ρ', binds p (e x) = some l ∧ g (putD ρ l) S = some (.nx ρ' S) ∧ P (f a x) ρ') →
    ∀ a ρ, P a ρ → ∃ ρ', forL p g (xs.map e) ρ S = some (.nx ρ' S) ∧ P (xs.foldl f a) ρ'
  | [], _, a, ρ, h => ⟨ρ, rfl, h⟩
  | x :: xs, step, a, ρ, h => by
    obtain ⟨l, ρ1, h1, h2, h3⟩ := step a x ρ List.mem_cons_self h
    obtain ⟨ρ2, h4, h5⟩ := forL_st e P f S xs (fun a y ρ m => step a y ρ (List.mem_cons_of_mem _ m)) (f a x) ρ1 h3
    refine ⟨ρ2, ?_, h5⟩
    rw [List.map_cons, ev_forC, h1, Option.bind_some, h2, Option.bind_some]
    exact h4
section
variable {ρ : List Slot} {S S' S2 : List D} {f : Ev} {fs : Ea} {d r : D} {ds xs : List D} {i n : Nat} {m : List D → List D → Option (D × List D)}
theorem setO_s (h : f ρ S = some (d, S')) (hi : i < ρ.length) : sSetO i f ρ S = some (.nx (ρ.set i (.own d)) S') := by
  rw [ev_sSetO, h, Option.bind_some, if_pos hi]
theorem app_s (h : f ρ S = some (d, S')) (ho : ρ[i]? = some (.own (.lst xs))) (hl : xs.length < 16777216) : sApp i f ρ S = some (.nx (ρ.set i (.own (.lst (xs ++ [d])))) S') := by
  rw [ev_sApp, h, Option.bind_some, ho]
  exact if_pos hl
theorem callP_s (h : fs ρ S = some (ds, S')) (hn : ds.length = n) (ok : okL 60 ds = true) (hm : m ds [] = some (r, S2)) (hf : flatD r = true) : eCallP n m fs ρ S = some (r, S') := by
  unfold eCallP
  rw [h, Option.bind_some]
  simp only [hn, ok, and_self, if_true, hm, Option.bind_some, hf]
end
theorem cutD_take (xs : List D) (k : Nat) : cutD xs none (some (k : Int)) = xs.take k := by
  unfold cutD
  rw [HT.sIx_none, HT.sIx_nat, List.drop_zero, Nat.sub_zero, Nat.min_def]
  split
  · rfl
  · rw [List.take_of_length_le (Nat.le_refl _), List.take_of_length_le (by omega)]
end DL
namespace DL
open PySem PySem.Spec PyProof.Rows L2
section
variable {X : Cx} {pos : Pos} {a b : Expr} {fa fb : Ev} {fr : Bool}
def gRg : D → Option (List D)
  | .int n => if (decide (0 ≤ n) && decide (n ≤ 16777216)) = true then some (rangeD 0 n) else none
  | _ => none
theorem rp_rg {K : KW} {as : List Addr} {O : Addr → Prop} {H : Hp} (n : Int) : RpL K as O H (L2.rgV 0 n) (rangeD 0 n) := by
  unfold L2.rgV rangeD
  generalize List.range (n - 0).toNat = l
  induction l with
  | nil => exact .nil
  | cons k l ih => exact .cons (.int _) ih
section
variable {p p2 pos2 : Pos}
theorem mf_listRg (hc : X.calm = true) (hg : Gl X "list") (hm : X.mg "list" = none) (hg2 : Gl X "range") (hm2 : X.mg "range" = none) (ha : PE X a (tOfB (kw X) fa))
    (na2 : starEach [a] X.env = (false, eval a X.env) :: starEach [] X.env := by rfl) (na : starEach [.Call (.Name "range" p2) [a] [] pos2] X.env = (false, eval (.Call (.Name "range" p2) [a] [] pos2) X.env) :: starEach [] X.env := by rfl) :
    PE X (.Call (.Name "list" p) [.Call (.Name "range" p2) [a] [] pos2] [] pos) (tOfF (kw X) (eUnF gRg fa)) :=
  (L2.pe_listRg hc hg hm (L2.prg_1 hg2 hm2 ha na2) na).weak fun σ H Q q => by
    obtain ⟨as, O, ρ, S, d, S', R, hf, k⟩ := q
    unfold eUnF at hf
    obtain ⟨⟨d1, S1⟩, h1, hf2⟩ := Option.bind_eq_some_iff.mp hf
    obtain ⟨r, h3, hf3⟩ := Option.bind_eq_some_iff.mp hf2
    clear hf hf2
    cases hf3
    refine ⟨as, O, ρ, S, d1, S1, R, h1, fun v H1 s1 c1 r1 => ?_⟩
    have R1 := R.step s1 c1
    have h3 : gRg d1 = some r := h3
    unfold gRg at h3
    split at h3
    · rename_i n _
      split at h3
      · rename_i hb
        cases h3
        rw [Bool.and_eq_true] at hb
        have b0 := of_decide_eq_true hb.1
        have b1 := of_decide_eq_true hb.2
        have e := r1.int
        subst e
        refine ⟨n, rfl, L2.RgOk.of_le (Int.le_refl 0) b1 (by decide) b0, fun p hp => ?_⟩
        have q := new_cells (o := .lst (L2.rgV 0 n)) R1.wf c1 hp
        exact k p _ (R.free s1 c1 hp) (s1.trans (Same.stp (same_new hp))) q.1 (.lst upd_same (q.2 _ _ (rp_rg n)))
      · cases h3
    · cases h3
end
def sParV (i j : Nat) (fa fb : Ev) : Sv := fun ρ S => (fa ρ S).bind fun p => (fb ρ p.2).bind fun q => if j < ρ.length ∧ i ≠ j then some (.nx ((ρ.set i (.val p.1)).set j (.own q.1)) q.2) else none
def tOfPV (K : KW) (fa fb : Ev) : TA := fun σ H Q => ∃ as O ρ S d1 S1 d2 S2, RelE K as O σ H ρ S ∧ fa ρ S = some (d1, S1) ∧ fb ρ S1 = some (d2, S2) ∧
  ∀ v p H1 H2, Stp as H H1 → Cells K as O H1 S1 → H1 p = none → Stp as H1 H2 → Cells K as (ad O p) H2 S2 → CellR K as (ad O p) H2 p d2 → Rp K as (ad O p) H2 v d1 → Q [v, .ref p] H2
theorem mpv (ha : PE X a (tOf (kw X) fa)) (hb : PE X b (tOfF (kw X) fb)) (s1 : starEach [a, b] X.env = (false, eval a X.env) :: starEach [b] X.env) (s2 : starEach [b] X.env = (false, eval b X.env) :: starEach [] X.env) : PA X [a, b] (tOfPV (kw X) fa fb) :=
  (pa_cons ha (pa_cons hb pa_nil s2) s1).weak fun σ H Q q => by
    obtain ⟨as, O, ρ, S, d1, S1, d2, S2, R, h1, h2, k⟩ := q
    refine ⟨as, O, ρ, S, d1, S1, R, h1, fun v H1 t1 c1 r1 => ?_⟩
    have R1 := R.step t1 c1
    refine ⟨as, O, ρ, S1, d2, S2, R1, h2, fun p H2 n t2 c2 q2 => ?_⟩
    have kk : Kp (ad O p) H1 H2 := fun a u nn e => t2 a u (fun m => nn (.inl (R1.wf.sub a m))) e
    have m1 : ∀ a, ad O p a → Nt (H1 a) := fun a o => by
      rcases o with o | o
      · exact R1.wf.nt a o
      · rw [o, n]; exact nt_none
    exact k v p H1 H2 t1 c1 n t2 c2 q2 (Rp.kp m1 kk _ _ (Rp.ad n _ _ r1))
theorem ms_parV {i j : Nat} {x y : Str} {px py pt : Pos} {kt k2 pt2} (hc : X.calm = true) (hN : X.N.Nodup) (hi : X.N[i]? = some x) (hj : X.N[j]? = some y) (hij : i ≠ j)
    (hx : X.env.scope.names.lookup x = some .local) (hy : X.env.scope.names.lookup y = some .local) (ha : PE X a (tOf (kw X) fa)) (hb : PE X b (tOfF (kw X) fb))
    (hw : swappedStores [.Tuple [.Name x px, .Name y py] kt pt] (.Tuple [a, b] k2 pt2) X.env = pure (some [x, y]))
    (s1 : starEach [a, b] X.env = (false, eval a X.env) :: starEach [b] X.env := by rfl) (s2 : starEach [b] X.env = (false, eval b X.env) :: starEach [] X.env := by rfl)
    (hs : swapsWithSole [.Tuple [.Name x px, .Name y py] kt pt] (.Tuple [a, b] k2 pt2) pos.line X.env = pure false := by rfl) :
    PS X (.Assign [.Tuple [.Name x px, .Name y py] kt pt] (.Tuple [a, b] k2 pt2) pos) (tOfS fr (kw X) (sParV i j fa fb)) :=
  (ps_par hc hN hi hj hij hx hy (mpv ha hb s1 s2) hw hs).weak fun D σ H q => by
    obtain ⟨as, O, B, G, ρ, S, o, R, hf, k⟩ := q
    unfold sParV at hf
    obtain ⟨⟨d1, S1⟩, h1, hf⟩ := Option.bind_eq_some_iff.mp hf
    obtain ⟨⟨d2, S2⟩, h2, hf⟩ := Option.bind_eq_some_iff.mp hf
    split at hf
    · rename_i hil
      cases hf
      refine ⟨as, _, ρ, S, d1, S1, d2, S2, R.e, h1, h2, fun v p H1 H2 t1 c1 n t2 c2 q2 r1 => ⟨_, _, rfl, ?_⟩⟩
      have R1 := (R.step t1 c1).setOwn j hil.1 n t2 c2 q2
      have sb : ∀ b, OO O (ρ.set j (.own d2)) (σ.set j (some (.ref p))) b → ad (OO O ρ σ) p b := fun b h => by
        rcases h with h | ⟨l, e, h1, h2⟩
        · exact .inl (.inl h)
        · rcases get_set h1 with ⟨rfl, z⟩ | ⟨ne, z⟩
          · rcases get_set h2 with ⟨_, y⟩ | ⟨y, _⟩
            · exact .inr (by cases y; rfl)
            · exact absurd rfl y
          · rw [List.getElem?_set_ne (Ne.symm ne)] at h2
            exact .inl (.inr ⟨l, e, z, h2⟩)
      have R2 := R1.set i (Rp.anti sb _ _ r1)
      have e1 : (σ.set i (some v)).set j (some (.ref p)) = (σ.set j (some (.ref p))).set i (some v) := List.set_comm _ _ hij
      have e2 : (ρ.set i (.val d1)).set j (.own d2) = (ρ.set j (.own d2)).set i (.val d1) := List.set_comm _ _ hij
      rw [e1]
      have k : ∀ σ H, Rel (kw X) as O B G σ H ((ρ.set i (.val d1)).set j (.own d2)) S2 → D.nx σ H := k
      rw [e2] at k
      exact k _ _ R2
    · cases hf
theorem parV_s {ρ : List Slot} {S S' S2 : List D} {i j : Nat} {d d2 : D} (h : fa ρ S = some (d, S')) (h2 : fb ρ S' = some (d2, S2)) (hj : j < ρ.length) (hij : i ≠ j) : sParV i j fa fb ρ S = some (.nx ((ρ.set i (.val d)).set j (.own d2)) S2) := by
  unfold sParV
  rw [h, Option.bind_some, h2, Option.bind_some]
  exact if_pos ⟨hj, hij⟩
theorem parO_s {ρ : List Slot} {S S' S2 : List D} {i j : Nat} {d d2 : D} (h : fa ρ S = some (d, S')) (h2 : fb ρ S' = some (d2, S2)) (hi : i < ρ.length) (hij : i ≠ j) : sParO i j fa fb ρ S = some (.nx ((ρ.set j (.val d2)).set i (.own d)) S2) := by
  unfold sParO
  rw [h, Option.bind_some, h2, Option.bind_some]
  exact if_pos ⟨hi, hij⟩
end
end DL
namespace DL
open PySem PySem.Spec PyProof.Rows L2
section
variable {X : Cx} {pos : Pos} {a b : Expr} {fa fb : Ev} {fr : Bool}
variable {c : Expr} {fz : Ev}
def sPar3V (i j l : Nat) (fa fb fz : Ev) : Sv := fun ρ S => (fa ρ S).bind fun p => (fb ρ p.2).bind fun q => (fz ρ q.2).bind fun r => if l < ρ.length ∧ i ≠ l ∧ j ≠ l then some (.nx (((ρ.set i (.val p.1)).set j (.val q.1)).set l (.own r.1)) r.2) else none
def tOfPVV (K : KW) (fa fb fz : Ev) : TA := fun σ H Q => ∃ as O ρ S d1 S1 d2 S2 d3 S3, RelE K as O σ H ρ S ∧ fa ρ S = some (d1, S1) ∧ fb ρ S1 = some (d2, S2) ∧ fz ρ S2 = some (d3, S3) ∧
  ∀ v w p H1 H2, Stp as H H1 → Cells K as O H1 S2 → H1 p = none → Stp as H1 H2 → Cells K as (ad O p) H2 S3 → CellR K as (ad O p) H2 p d3 → Rp K as (ad O p) H2 v d1 → Rp K as (ad O p) H2 w d2 → Q [v, w, .ref p] H2
theorem mpvv (ha : PE X a (tOf (kw X) fa)) (hb : PE X b (tOf (kw X) fb)) (hz : PE X c (tOfF (kw X) fz)) (s1 : starEach [a, b, c] X.env = (false, eval a X.env) :: starEach [b, c] X.env) (s2 : starEach [b, c] X.env = (false, eval b X.env) :: starEach [c] X.env) (s3 : starEach [c] X.env = (false, eval c X.env) :: starEach [] X.env) : PA X [a, b, c] (tOfPVV (kw X) fa fb fz) :=
  (pa_cons ha (pa_cons hb (pa_cons hz pa_nil s3) s2) s1).weak fun σ H Q q => by
    obtain ⟨as, O, ρ, S, d1, S1, d2, S2, d3, S3, R, h1, h2, h3, k⟩ := q
    refine ⟨as, O, ρ, S, d1, S1, R, h1, fun v H1 t1 c1 r1 => ?_⟩
    have R1 := R.step t1 c1
    refine ⟨as, O, ρ, S1, d2, S2, R1, h2, fun w H2 t2 c2 r2 => ?_⟩
    have R2 := R1.step t2 c2
    refine ⟨as, O, ρ, S2, d3, S3, R2, h3, fun p H3 n t3 c3 q3 => ?_⟩
    have kk : Kp (ad O p) H2 H3 := fun a u nn e => t3 a u (fun m => nn (.inl (R2.wf.sub a m))) e
    have m1 : ∀ a, ad O p a → Nt (H2 a) := fun a o => by
      rcases o with o | o
      · exact R2.wf.nt a o
      · rw [o, n]; exact nt_none
    have r1' := Rp.kp R1.wf.nt (fun a u nn e => t2 a u (fun m => nn (R1.wf.sub a m)) e) _ _ r1
    exact k v w p H2 H3 (t1.trans t2) c2 n t3 c3 q3 (Rp.kp m1 kk _ _ (Rp.ad n _ _ r1')) (Rp.kp m1 kk _ _ (Rp.ad n _ _ r2))
theorem ms_par3V {i j l : Nat} {x y z : Str} {px py pz pt : Pos} {kt k2 pt2} (hc : X.calm = true) (hN : X.N.Nodup) (hi : X.N[i]? = some x) (hj : X.N[j]? = some y) (hl : X.N[l]? = some z) (hij : i ≠ j) (hil : i ≠ l) (hjl : j ≠ l)
    (hx : X.env.scope.names.lookup x = some .local) (hy : X.env.scope.names.lookup y = some .local) (hz : X.env.scope.names.lookup z = some .local) (ha : PE X a (tOf (kw X) fa)) (hb : PE X b (tOf (kw X) fb)) (hcc : PE X c (tOfF (kw X) fz))
    (hw : swappedStores [.Tuple [.Name x px, .Name y py, .Name z pz] kt pt] (.Tuple [a, b, c] k2 pt2) X.env = pure (some [x, y, z]))
    (s1 : starEach [a, b, c] X.env = (false, eval a X.env) :: starEach [b, c] X.env := by rfl) (s2 : starEach [b, c] X.env = (false, eval b X.env) :: starEach [c] X.env := by rfl) (s3 : starEach [c] X.env = (false, eval c X.env) :: starEach [] X.env := by rfl)
    (hs : swapsWithSole [.Tuple [.Name x px, .Name y py, .Name z pz] kt pt] (.Tuple [a, b, c] k2 pt2) pos.line X.env = pure false := by rfl) :
    PS X (.Assign [.Tuple [.Name x px, .Name y py, .Name z pz] kt pt] (.Tuple [a, b, c] k2 pt2) pos) (tOfS fr (kw X) (sPar3V i j l fa fb fz)) :=
  (ps_par3 hc hN hi hj hl hij hil hjl hx hy hz (mpvv ha hb hcc s1 s2 s3) hw hs).weak fun D σ H q => by
    obtain ⟨as, O, B, G, ρ, S, o, R, hf, k⟩ := q
    unfold sPar3V at hf
    obtain ⟨⟨d1, S1⟩, h1, hf⟩ := Option.bind_eq_some_iff.mp hf
    obtain ⟨⟨d2, S2⟩, h2, hf⟩ := Option.bind_eq_some_iff.mp hf
    obtain ⟨⟨d3, S3⟩, h3, hf⟩ := Option.bind_eq_some_iff.mp hf
    split at hf
    · rename_i hll
      cases hf
      refine ⟨as, _, ρ, S, d1, S1, d2, S2, d3, S3, R.e, h1, h2, h3, fun v w p H1 H2 t1 c1 n t2 c2 q2 r1 r2 => ⟨_, _, _, rfl, ?_⟩⟩
      have R1 := (R.step t1 c1).setOwn l hll.1 n t2 c2 q2
      have sb : ∀ b, OO O (ρ.set l (.own d3)) (σ.set l (some (.ref p))) b → ad (OO O ρ σ) p b := fun b h => by
        rcases h with h | ⟨l, e, h1, h2⟩
        · exact .inl (.inl h)
        · rcases get_set h1 with ⟨rfl, z⟩ | ⟨ne, z⟩
          · rcases get_set h2 with ⟨_, y⟩ | ⟨y, _⟩
            · exact .inr (by cases y; rfl)
            · exact absurd rfl y
          · rw [List.getElem?_set_ne (Ne.symm ne)] at h2
            exact .inl (.inr ⟨l, e, z, h2⟩)
      have R2 := R1.set i (Rp.anti sb _ _ r1)
      have R3 := R2.set j (Rp.anti (oo_set (y := .val _) fun _ z => nomatch z) _ _ (Rp.anti sb _ _ r2))
      have e1 : ((σ.set i (some v)).set j (some w)).set l (some (.ref p)) = ((σ.set l (some (.ref p))).set i (some v)).set j (some w) := by
        rw [List.set_comm _ _ hjl, List.set_comm _ _ hil]
      have e2 : ((ρ.set i (.val d1)).set j (.val d2)).set l (.own d3) = ((ρ.set l (.own d3)).set i (.val d1)).set j (.val d2) := by
        rw [List.set_comm _ _ hjl, List.set_comm _ _ hil]
      rw [e1]
      have k : ∀ σ H, Rel (kw X) as O B G σ H (((ρ.set i (.val d1)).set j (.val d2)).set l (.own d3)) S3 → D.nx σ H := k
      rw [e2] at k
      exact k _ _ R3
    · cases hf
theorem par3V_s {ρ : List Slot} {S S' S2 S3 : List D} {i j l : Nat} {d d2 d3 : D} (h : fa ρ S = some (d, S')) (h2 : fb ρ S' = some (d2, S2)) (h3 : fz ρ S2 = some (d3, S3)) (hj : l < ρ.length ∧ i ≠ l ∧ j ≠ l) : sPar3V i j l fa fb fz ρ S = some (.nx (((ρ.set i (.val d)).set j (.val d2)).set l (.own d3)) S3) := by
  unfold sPar3V
  rw [h, Option.bind_some, h2, Option.bind_some, h3, Option.bind_some]
  exact if_pos hj
end
end DL
namespace DL
open PySem PySem.Spec PyProof.Rows L2
abbrev XE := NestedKey × Addr × V
abbrev YE := NestedKey × Addr × Value
inductive XY : List XE → List YE → Prop
  | nil : XY [] []
  | cons {x : XE} {y : YE} {xs : List XE} {ys : List YE} : x.1 = y.1 → x.2.1 = y.2.1 → RelV x.2.2 y.2.2 → XY xs ys → XY (x :: xs) (y :: ys)
theorem xy_of : ∀ {xs : List XE} {ys : List YE}, (ys.map fun y => (y.1, y.2.1)) = (xs.map fun x => (x.1, x.2.1)) → Vals (xs.map (·.2.2)) (ys.map (·.2.2)) → XY xs ys
  | [], [], _, _ => .nil
  | [], _ :: _, h, _ => by simp at h
  | _ :: _, [], h, _ => by simp at h
  | x :: xs, y :: ys, h, v => by
    simp only [List.map_cons, List.cons.injEq, Prod.mk.injEq] at h
    cases v with
    | cons r t => exact .cons h.1.1.symm h.1.2.symm r (xy_of h.2 t)
theorem XY.maps : ∀ {xs : List XE} {ys : List YE}, XY xs ys → (ys.map fun y => (y.1, y.2.1)) = (xs.map fun x => (x.1, x.2.1))
  | _, _, .nil => rfl
  | _, _, .cons a b _ t => by simp only [List.map_cons, t.maps, a, b]
theorem XY.vals : ∀ {xs : List XE} {ys : List YE}, XY xs ys → Vals (xs.map (·.2.2)) (ys.map (·.2.2))
  | _, _, .nil => .nil
  | _, _, .cons _ _ r t => .cons r t.vals
theorem XY.keys : ∀ {xs : List XE} {ys : List YE}, XY xs ys → ys.map (·.1) = xs.map (·.1)
  | _, _, .nil => rfl
  | _, _, .cons a b _ t => by simp only [List.map_cons, t.keys, a]
theorem XY.length {xs : List XE} {ys : List YE} (h : XY xs ys) : ys.length = xs.length := by
  have := congrArg List.length h.keys
  rwa [List.length_map, List.length_map] at this
def hasX (xs : List XE) (k : NestedKey) : Bool := xs.any fun x => decide (x.1 = k)
def putX (xs : List XE) (k : NestedKey) (b : Addr) (v : V) : List XE := if hasX xs k = true then xs.map (fun x => if x.1 = k then (x.1, x.2.1, v) else x) else xs ++ [(k, b, v)]
theorem XY.has (k : NestedKey) : ∀ {xs : List XE} {ys : List YE}, XY xs ys → (atKey ys k).isSome = hasX xs k
  | _, _, .nil => rfl
  | x :: xs, y :: ys, .cons a _ _ t => by
    have ih := t.has k
    by_cases h : y.1 = k
    · simp [atKey, hasX, a, h]
    · have : (atKey (y :: ys) k) = atKey ys k := by simp [atKey, h]
      rw [this, ih]
      simp [hasX, a, h]
theorem XY.repl (k : NestedKey) {v : V} {u : Value} (r : RelV v u) : ∀ {xs : List XE} {ys : List YE}, XY xs ys → XY (xs.map fun x => if x.1 = k then (x.1, x.2.1, v) else x) (ys.map (putAt k u))
  | _, _, .nil => .nil
  | x :: xs, y :: ys, .cons a b q t => by
    rw [List.map_cons, List.map_cons]
    unfold putAt
    by_cases h : y.1 = k
    · rw [if_pos h, if_pos (a.trans h)]
      exact .cons a b r (t.repl k r)
    · rw [if_neg h, if_neg (fun e => h (a.symm.trans e))]
      exact .cons a b q (t.repl k r)
theorem XY.snoc {k : NestedKey} {b : Addr} {v : V} {u : Value} (r : RelV v u) : ∀ {xs : List XE} {ys : List YE}, XY xs ys → XY (xs ++ [(k, b, v)]) (ys ++ [(k, b, u)])
  | _, _, .nil => .cons rfl rfl r .nil
  | _, _, .cons a b q t => .cons a b q (t.snoc r)
theorem XY.put (k : NestedKey) (b : Addr) {v : V} {u : Value} (r : RelV v u) {xs : List XE} {ys : List YE} (h : XY xs ys) : XY (putX xs k b v) (storedH ys k b u) := by
  unfold putX storedH
  rw [h.has k]
  split
  · exact h.repl k r
  · exact h.snoc r
theorem putX_len (xs : List XE) (k : NestedKey) (b : Addr) (v : V) : (putX xs k b v).length ≤ xs.length + 1 := by
  unfold putX
  split
  · rw [List.length_map]; omega
  · rw [List.length_append]; exact Nat.le_refl _
mutual
theorem ky_depth : ∀ (n : Nat) (d : D), kyD n d = true → (keyD d).depth ≤ n
  | _, .non, _ => Nat.zero_le _
  | _, .int _, _ => Nat.zero_le _
  | _, .str _, _ => Nat.zero_le _
  | 0, .tup _, h => by simp [kyD] at h
  | n + 1, .tup xs, h => by
    have := kyL_depth n xs (by simpa [kyD] using h)
    unfold keyD
    unfold NestedKey.depth
    omega
  | _, .bl _, h => by simp [kyD] at h
  | _, .obj _, h => by simp [kyD] at h
  | _, .lst _, h => by simp [kyD] at h
  | _, .dct _, h => by simp [kyD] at h
  | _, .kd _, h => by simp [kyD] at h
  | _, .scr _, h => by simp [kyD] at h
theorem kyL_depth : ∀ (n : Nat) (xs : List D), kyL n xs = true → NestedKey.depthAll (keyL xs) ≤ n
  | _, [], _ => Nat.zero_le _
  | n, x :: xs, h => by
    have h : kyD n x = true ∧ kyL n xs = true := by simpa [kyL] using h
    have a := ky_depth n x h.1
    have b := kyL_depth n xs h.2
    unfold keyL
    unfold NestedKey.depthAll
    omega
end
section
variable {X : Cx} {pins : List (Addr × Obj)} {σ : L2.St} {H : Hp} {s : Shared} {as : List Addr} {O : Addr → Prop}
mutual
theorem key_is (I : L2.Inv X pins σ H s) : ∀ (n : Nat) (v : V) (d : D) (u : Value), Rp (kw X) as O H v d → kyD n d = true → RelV v u → NestedIs s.heap (keyD d) u
  | _, _, _, _, .non, _, r => by cases r; exact .none
  | _, _, _, _, .int i, _, r => by
    obtain ⟨t, rfl⟩ := r
    exact .int i t
  | _, _, _, _, .str x, _, r => by
    obtain ⟨t, rfl⟩ := r
    exact .text x t
  | 0, _, _, _, .tup _ _, h, _ => by simp [kyD] at h
  | n + 1, _, .tup ds, _, .tup q t, h, r => by
    cases r
    obtain ⟨its, rv, ⟨o, ho, hc, m, hd⟩, _⟩ := I.tuple q
    refine .tup ho hc hd ?_
    exact keyL_is I n _ ds _ t (by simpa [kyD] using h) (by simpa using rv)
  | _, _, _, _, .bl _, h, _ => by simp [kyD] at h
  | _, _, _, _, .obj _, h, _ => by simp [kyD] at h
  | _, _, _, _, .lst _ _ _, h, _ => by simp [kyD] at h
  | _, _, _, _, .dct _ _ _ _ _ _, h, _ => by simp [kyD] at h
  | _, _, _, _, .kd _ _ _ _, h, _ => by simp [kyD] at h
  | _, _, _, _, .scr _, h, _ => by simp [kyD] at h
theorem keyL_is (I : L2.Inv X pins σ H s) : ∀ (n : Nat) (vs : List V) (ds : List D) (us : List Value), RpL (kw X) as O H vs ds → kyL n ds = true → Vals vs us → NestedAll s.heap (keyL ds) us
  | _, _, _, _, .nil, _, r => by cases r; exact .nil
  | n, _, d :: ds, _, .cons q t, h, r => by
    have h : kyD n d = true ∧ kyL n ds = true := by simpa [kyL] using h
    cases r with
    | cons r1 r2 => exact .cons (key_is I n _ d _ q h.1 r1) (keyL_is I n _ ds _ t h.2 r2)
end
end
end DL
namespace DL
open PySem PySem.Spec PyProof.Rows L2
theorem DictRel.at {w : World} {h h' : Heap} {a : Addr} {o : Obj} {xs : List XE} (r : DictRel w h a o xs) (k : ∀ o, h.get? a = some o → h'.get? a = some o) : DictRel w h' a o xs := by
  obtain ⟨hd, hz, hn, ys, m, vl, es, ep, h1, h2⟩ := r
  exact ⟨hd, hz, hn, ys, m, vl, es, ep, k o h1, h2⟩
theorem DictRel.ok {P : Program} {w : World} {H : Hp} {h : Heap} {a : Addr} {o : Obj} {xs : List XE} (r : DictRel w h a o xs) : ObjOk P w H h a (DictO w a o xs) :=
  ⟨r, by obtain ⟨_, _, _, _, _, _, _, _, h1, _⟩ := r; exact ⟨o, h1⟩, fun _ _ p k => p.at k⟩
theorem DictRel.of {P : Program} {w : World} {h : Heap} {a : Addr} {xs : List XE} {ys : List YE} (hd : (a == sysModules) = false) (hz : xs.length ≤ sizeLine) (r : XY xs ys) (d : h.DictOfH (nestedKind P w) a ys) : ∃ o, DictRel w h a o xs := by
  obtain ⟨o, es, ep, h1, h2, h3, h4, _, h5⟩ := d
  exact ⟨o, hd, hz, by rw [← r.keys]; exact h5, ys, r.maps, r.vals, es, ep, h1, h2, h3, h4⟩
section
variable {X : Cx} {pins : List (Addr × Obj)} {σ : L2.St} {H : Hp} {s : Shared} {as : List Addr} {O : Addr → Prop}
theorem keys_are (I : L2.Inv X pins σ H s) : ∀ {xs : List XE} {ds : List D} {ys : List YE}, RpL (kw X) as O H (xs.map fun x => V.ref x.2.1) ds → xs.map (·.1) = ds.map keyD → XY xs ys → (∀ d ∈ ds, kyD 7 d = true) → ∀ y ∈ ys, NestedIs s.heap y.1 (.ref y.2.1) ∧ y.1.depth ≤ 8
  | [], _, _, _, _, .nil, _, y, hy => nomatch hy
  | x :: xs, d :: ds, y :: ys, .cons q t, e, .cons a b _ r, ok, z, hz => by
    simp only [List.map_cons, List.cons.injEq] at e
    rcases List.mem_cons.mp hz with rfl | hz
    · have k := key_is I 7 _ d (.ref x.2.1) q (ok d List.mem_cons_self) rfl
      rw [← a, ← b, e.1]
      exact ⟨k, Nat.le_succ_of_le (ky_depth 7 d (ok d List.mem_cons_self))⟩
    · exact keys_are I t e.2 r (fun d m => ok d (List.mem_cons_of_mem _ m)) z hz
theorem dctOf (I : L2.Inv X pins σ H s) {a : Addr} {ob : Obj} {xs : List XE} {ds : List D} (e : H a = some (DictO X.w a ob xs)) (rk : RpL (kw X) as O H (xs.map fun x => V.ref x.2.1) ds) (ek : xs.map (·.1) = ds.map keyD) (ok : ∀ d ∈ ds, kyD 7 d = true) :
    (a == sysModules) = false ∧ xs.length ≤ sizeLine ∧ ∃ ys, XY xs ys ∧ s.heap.DictOfH (nestedKind X.prog X.w) a ys := by
  obtain ⟨⟨hd, hz, hn, ys, m, vl, es, ep, h1, h2, h3, h4⟩, _, _⟩ := (show ObjOk X.prog X.w H s.heap a (DictO X.w a ob xs) from I.hok a _ e)
  have r := xy_of m vl
  exact ⟨hd, hz, ys, r, ob, es, ep, h1, h2, h3, h4, keys_are I rk ek r ok, by rw [r.keys]; exact hn⟩
end
def rSetD (X : Cx) : TSet := fun x y v H Q => ∃ as O a b ob xs ds kd, x = .ref a ∧ y = .ref b ∧ H a = some (DictO X.w a ob xs) ∧ RpL (kw X) as O H (xs.map fun x => V.ref x.2.1) ds ∧ xs.map (·.1) = ds.map keyD ∧ (∀ d ∈ ds, kyD 7 d = true) ∧
  Rp (kw X) as O H (.ref b) kd ∧ kyD 7 kd = true ∧ xs.length < sizeLine ∧ ∀ o', Q (upd H a (DictO X.w a o' (putX xs (keyD kd) b v)))
theorem set_dct {X : Cx} (hu : X.A.units + 64 < cLine) : PSet X (rSetD X) := by
  intro pins s σ H x y v ov iv u Q I r1 r2 r3 q
  obtain ⟨as, O, a, b, ob, xs, ds, kd, rfl, rfl, e, rk, ek, ok, rb, kb, hl, q⟩ := q
  obtain rfl : ov = Value.ref a := r1
  obtain rfl : iv = Value.ref b := r2
  obtain ⟨hd, hz, ys, r, dd⟩ := dctOf I e rk ek ok
  have kk := key_is I 7 _ kd (.ref b) rb kb rfl
  refine wpAny_setItem_heap (knd := nestedKind X.prog X.w) (k := keyD kd) (hsz := by rw [r.length]; exact hz) (show X.A.units + 1 + 8 < cLine by omega) ⟨kk, Nat.le_succ_of_le (ky_depth 7 kd kb)⟩ dd fun h' dd' hs => ?_
  have r' := r.put (keyD kd) b r3
  obtain ⟨o', new⟩ : ∃ o', DictRel X.w h' a o' (putX xs (keyD kd) b v) := DictRel.of hd (by have := putX_len xs (keyD kd) b v; omega) r' dd'
  have he : ∃ o, h'.get? a = some o := by
    obtain ⟨o, _, _, h1, _⟩ := dd'
    exact ⟨o, h1⟩
  exact ⟨_, d_write I (by rw [e]; exact True.intro) hs he new.ok, q o'⟩
def hasD (kvs : List (D × D)) (k : D) : Bool := kvs.any fun p => decide (keyD p.1 = keyD k)
def stD (kvs : List (D × D)) (k v : D) : List (D × D) := if hasD kvs k = true then kvs.map (fun p => if keyD p.1 = keyD k then (p.1, v) else p) else kvs ++ [(k, v)]
section
variable {K : KW} {as : List Addr} {O : Addr → Prop} {H : Hp}
theorem has_eq : ∀ {xs : List XE} {kvs : List (D × D)} (k : D), xs.map (·.1) = kvs.map (fun kv => keyD kv.1) → hasX xs (keyD k) = hasD kvs k
  | [], [], _, _ => rfl
  | x :: xs, p :: kvs, k, e => by
    simp only [List.map_cons, List.cons.injEq] at e
    have ih := has_eq k e.2
    unfold hasX hasD at *
    rw [List.any_cons, List.any_cons, ih, e.1]
  | [], _ :: _, _, e => by simp at e
  | _ :: _, [], _, e => by simp at e
theorem put_repl : ∀ {xs : List XE} {kvs : List (D × D)} {k vd : D} {v : V}, xs.map (·.1) = kvs.map (fun kv => keyD kv.1) → RpL K as O H (xs.map (·.2.2)) (kvs.map (·.2)) → Rp K as O H v vd →
    RpL K as O H ((xs.map fun x => if x.1 = keyD k then (x.1, x.2.1, v) else x).map (·.2.2)) ((kvs.map fun p => if keyD p.1 = keyD k then (p.1, vd) else p).map (·.2))
  | [], [], _, _, _, _, _, _ => .nil
  | x :: xs, p :: kvs, k, vd, v, e, .cons q t, r => by
    simp only [List.map_cons, List.cons.injEq] at e
    simp only [List.map_cons]
    by_cases h : x.1 = keyD k
    · rw [if_pos h, if_pos (e.1.symm.trans h)]
      exact .cons r (put_repl e.2 t r)
    · rw [if_neg h, if_neg (fun z => h (e.1.trans z))]
      exact .cons q (put_repl e.2 t r)
  | [], _ :: _, _, _, _, e, _, _ => by simp at e
  | _ :: _, [], _, _, _, e, _, _ => by simp at e
theorem repl_addr (k : NestedKey) (v : V) (xs : List XE) : ((xs.map fun x => if x.1 = k then (x.1, x.2.1, v) else x).map fun x => V.ref x.2.1) = xs.map fun x => V.ref x.2.1 := by
  rw [List.map_map]
  refine List.map_congr_left fun x _ => ?_
  show V.ref (if x.1 = k then (x.1, x.2.1, v) else x).2.1 = _
  split <;> rfl
theorem repl_keyX (k : NestedKey) (v : V) (xs : List XE) : ((xs.map fun x => if x.1 = k then (x.1, x.2.1, v) else x).map (·.1)) = xs.map (·.1) := by
  rw [List.map_map]
  refine List.map_congr_left fun x _ => ?_
  show (if x.1 = k then (x.1, x.2.1, v) else x).1 = _
  split <;> rfl
theorem repl_keyD (k vd : D) (kvs : List (D × D)) : ((kvs.map fun p => if keyD p.1 = keyD k then (p.1, vd) else p).map (·.1)) = kvs.map (·.1) := by
  rw [List.map_map]
  refine List.map_congr_left fun x _ => ?_
  show (if keyD x.1 = keyD k then (x.1, vd) else x).1 = _
  split <;> rfl
theorem putD_keysOk {kvs : List (D × D)} {k v : D} (h : keysOk kvs = true) (h2 : (isTupD k && kyD 7 k) = true) : keysOk (stD kvs k v) = true := by
  unfold keysOk at *
  unfold stD
  split
  · have : ∀ p ∈ kvs.map (fun p => if keyD p.1 = keyD k then (p.1, v) else p), ∃ q ∈ kvs, q.1 = p.1 := fun p hp => by
      obtain ⟨q, hq, rfl⟩ := List.mem_map.mp hp
      refine ⟨q, hq, ?_⟩
      split <;> rfl
    rw [List.all_eq_true] at *
    intro p hp
    obtain ⟨q, hq, e⟩ := this p hp
    rw [← e]
    exact h q hq
  · rw [List.all_append, h]
    simp only [List.all_cons, List.all_nil, h2, Bool.and_self]
theorem put_cell {xs : List XE} {kvs : List (D × D)} {a b : Addr} {ob : Obj} {k vd : D} {v : V} (e : H a = some (DictO K.w a ob (putX xs (keyD k) b v))) (rk : RpL K as O H (xs.map fun x => V.ref x.2.1) (kvs.map (·.1))) (rv : RpL K as O H (xs.map (·.2.2)) (kvs.map (·.2)))
    (ek : xs.map (·.1) = kvs.map fun kv => keyD kv.1) (ok : keysOk kvs = true) (rb : Rp K as O H (.ref b) k) (r : Rp K as O H v vd) (kb : (isTupD k && kyD 7 k) = true) : CellR K as O H a (.dct (stD kvs k vd)) := by
  have hh := has_eq k ek
  have ok' := putD_keysOk (v := vd) ok kb
  by_cases h : hasD kvs k = true
  · have ex : putX xs (keyD k) b v = xs.map (fun x => if x.1 = keyD k then (x.1, x.2.1, v) else x) := if_pos (by rw [hh]; exact h)
    have ed : stD kvs k vd = kvs.map (fun p => if keyD p.1 = keyD k then (p.1, vd) else p) := if_pos h
    rw [ex] at e
    rw [ed] at ok' ⊢
    refine .dct e ?_ (put_repl ek rv r) ?_ ok'
    · rw [repl_addr, repl_keyD]; exact rk
    · rw [repl_keyX, ek]
      have q : ∀ l : List (D × D), (l.map fun kv => keyD kv.1) = (l.map (·.1)).map keyD := fun l => by rw [List.map_map]; rfl
      rw [q, q, repl_keyD]
  · have ex : putX xs (keyD k) b v = xs ++ [(keyD k, b, v)] := if_neg (by rw [hh]; exact h)
    have ed : stD kvs k vd = kvs ++ [(k, vd)] := if_neg h
    rw [ex] at e
    rw [ed] at ok' ⊢
    refine .dct e ?_ ?_ ?_ ok'
    · rw [List.map_append, List.map_append]; exact RpL.append rk (.cons rb .nil)
    · rw [List.map_append, List.map_append]; exact RpL.append rv (.cons r .nil)
    · rw [List.map_append, List.map_append, ek]; rfl
end
theorem keysOk_ky {kvs : List (D × D)} (h : keysOk kvs = true) : ∀ d ∈ kvs.map (·.1), kyD 7 d = true := fun d hd => by
  obtain ⟨p, hp, rfl⟩ := List.mem_map.mp hd
  have := List.all_eq_true.mp h p hp
  simp only [Bool.and_eq_true] at this
  exact this.2
section
variable {X : Cx} {pos : Pos} {e b : Expr} {f fb fa : Ev} {fr : Bool}
def eDct0 : Ev := fun _ S => some (.dct [], S)
theorem dict_empty {P : Program} {w : World} (h : Heap) (hb : sysModules < h.objs.size) : ∃ o, ∀ H : Hp, ObjOk P w H (h.push { cls := .type "dict", data := .dict #[] }) h.objs.size (DictO w h.objs.size o []) :=
  let ⟨o, r⟩ := (DictRel.of (P := P) (beq_eq_false_iff_ne.mpr (Ne.symm (Nat.ne_of_lt hb))) (Nat.zero_le _) .nil (Heap.DictOfH.new h))
  ⟨o, fun _ => r.ok⟩
def tDNew (w : World) : TE := fun _ H Q => ∀ p o, H p = none → Q (.ref p) (upd H p (DictO w p o []))
theorem pe_dnew : PE X (.Dict [] [] pos) (tDNew X.w) := ⟨fun pins s σ H Q I h => by
  obtain ⟨o, ho⟩ := dict_empty (P := X.prog) (w := X.w) s.heap (Inv.big I)
  exact wpAny_Dict_empty ⟨.ref s.heap.objs.size, _, I.laid (a := s.heap.objs.size) (o := DictO X.w s.heap.objs.size o []) (t' := s.toks) (fun _ _ q => Heap.get?_push_of_some _ q) (Nat.le_refl _) (ho _), rfl, h _ o (I.hok.fresh (Nat.le_refl _))⟩⟩
theorem mf_dct0 : PE X (.Dict [] [] pos) (tOfF (kw X) eDct0) := pe_dnew.weak fun σ H Q q => by
  obtain ⟨as, O, ρ, S, d, S', R, hf, k⟩ := q
  cases hf
  intro p ob hp
  have q := new_cells (o := DictO X.w p ob []) R.wf R.cells hp
  exact k p _ hp (Same.stp (same_new hp)) q.1 (.dct upd_same .nil .nil rfl rfl)
def sDPut (i : Nat) (f fk : Ev) : Sv := fun ρ S => (f ρ S).bind fun p => (fk ρ p.2).bind fun q => match ρ[i]? with
  | some (.own (.dct kvs)) => if (isTupD q.1 && kyD 7 q.1 && decide (kvs.length < 16777216)) = true then some (.nx (ρ.set i (.own (.dct (stD kvs q.1 p.1)))) q.2) else none
  | _ => none
theorem rp_tup_ref {K : KW} {as : List Addr} {O : Addr → Prop} {H : Hp} {v : V} {d : D} (h : isTupD d = true) (r : Rp K as O H v d) : ∃ b, v = .ref b := by
  cases r with
  | tup _ _ => exact ⟨_, rfl⟩
  | _ => cases h
theorem ms_dput (i : Nat) {x : Str} {px tpos : Pos} (hu : X.A.units + 64 < cLine) (ho : PE X (.Name x px) (tVar i)) (hj : PE X b (tOf (kw X) fb)) (he : PE X e (tOf (kw X) f))
    (ha : ∀ v, assign (.Subscript (.Name x px) b tpos) X.env v = (do
      let ov ← holding [v] (eval (.Name x px) X.env)
      let iv ← holding [v, ov] (eval b X.env)
      standAt tpos
      holding [v, ov, iv] (setItem ov iv v)
      release [v, ov, iv] []) := by intro _; rfl)
    (hs : swapsWithSole [.Subscript (.Name x px) b tpos] e pos.line X.env = pure false := by rfl) (hw : swappedStores [.Subscript (.Name x px) b tpos] e X.env = pure none := by rfl)
    (h1 : (assignEach [.Subscript (.Name x px) b tpos] X.env).map (·.2) = [assign (.Subscript (.Name x px) b tpos) X.env] := by rfl) :
    PS X (.Assign [.Subscript (.Name x px) b tpos] e pos) (tOfS fr (kw X) (sDPut i f fb)) :=
  (ps_asg he (pg_sub ho hj (set_dct hu) ha) hs hw h1).weak fun D σ H q => by
    obtain ⟨as, O, B, G, ρ, S, o, R, hf, k⟩ := q
    unfold sDPut at hf
    obtain ⟨⟨d1, S1⟩, h1, hf⟩ := Option.bind_eq_some_iff.mp hf
    obtain ⟨⟨d2, S2⟩, h2, hf⟩ := Option.bind_eq_some_iff.mp hf
    split at hf
    · rename_i kvs hx
      split at hf
      · rename_i hc
        cases hf
        have hc : (isTupD d2 && kyD 7 d2 && decide (kvs.length < 16777216)) = true := hc
        rw [Bool.and_eq_true] at hc
        have kb := hc.1
        have hlt := of_decide_eq_true hc.2
        obtain ⟨p, h3, nb, ng, cp⟩ := R.own i _ hx
        cases cp with
        | @dct ob xs _ hp t tv ek ok =>
          refine ⟨as, _, ρ, S, d1, S1, R.e, h1, fun v H1 s1 c1 r1 => ⟨.ref p, h3, ?_⟩⟩
          have R1 := R.step s1 c1
          refine ⟨as, _, ρ, S1, d2, S2, R1.e, h2, fun w H2 s2 c2 r2 => ?_⟩
          have R2 := R1.step s2 c2
          rw [Bool.and_eq_true] at kb
          obtain ⟨b', rfl⟩ := rp_tup_ref kb.1 r2
          have hp2 : H2 p = some (DictO X.w p ob xs) := s2 p _ (R.notas nb) (s1 p _ (R.notas nb) hp)
          have t2 := (t.stp R.wf s1).stp R1.wf s2
          have tv2 := (tv.stp R.wf s1).stp R1.wf s2
          have r1' := r1.stp R1.wf s2
          have kk : ∀ o', Kp (OO O ρ σ) H2 (upd H2 p (DictO X.w p o' (putX xs (keyD d2) b' v))) := fun o' c u n e => by
            rw [upd_ne (fun z => n (by rw [z]; exact .inr ⟨i, _, hx, h3⟩))]
            exact e
          have xl : xs.length = kvs.length := by
            have := congrArg List.length ek
            rwa [List.length_map, List.length_map] at this
          refine ⟨as, _, p, b', ob, xs, kvs.map (·.1), d2, rfl, rfl, hp2, t2, by rw [ek, List.map_map]; rfl, keysOk_ky ok, r2, kb.2, by rw [sizeLine_eq]; omega, fun o' => ?_⟩
          have kb2 : (isTupD d2 && kyD 7 d2) = true := by rw [Bool.and_eq_true]; exact kb
          exact k _ _ (R2.mutOwn (o := DictO X.w p o' (putX xs (keyD d2) b' v)) hx h3 trivial (put_cell upd_same (RpL.kp R2.wf.nt (kk o') _ _ t2) (RpL.kp R2.wf.nt (kk o') _ _ tv2) ek ok (Rp.kp R2.wf.nt (kk o') _ _ r2) (Rp.kp R2.wf.nt (kk o') _ _ r1') kb2))
      · cases hf
    · cases hf
def lOfK : D → Option (List D)
  | .dct kvs => some (kvs.map (·.1))
  | _ => none
theorem RpB.dct {K : KW} {as : List Addr} {O : Addr → Prop} {H : Hp} {v : V} {kvs : List (D × D)} (r : RpB K as O H v (.dct kvs)) : ∃ a ob xs, v = .ref a ∧ H a = some (DictO K.w a ob xs) ∧ RpL K as O H (xs.map fun x => V.ref x.2.1) (kvs.map (·.1)) ∧ RpL K as O H (xs.map (·.2.2)) (kvs.map (·.2)) ∧ (xs.map (·.1)) = (kvs.map fun kv => keyD kv.1) ∧ keysOk kvs = true := by
  rcases r with r | ⟨a, e, _, c⟩
  · cases r with
    | dct _ h r t e k => exact ⟨_, _, _, rfl, h, r, t, e, k⟩
  · cases c with
    | dct h r t e1 k => exact ⟨a, _, _, e, h, r, t, e1, k⟩
theorem cd_listK (hc : X.calm = true) : CallR X (.type "list") (rF1 (kw X) lOfK) := by
  intro pins s σ H xs us Q I r q
  obtain ⟨as, O, d, rr, x, rfl, w, rd, hg, k⟩ := q
  unfold lOfK at hg
  split at hg
  · cases hg
    obtain ⟨a, ob, ws, rfl, h, rk, rv, ek, ok⟩ := rd.dct
    obtain ⟨u, rfl, rx⟩ := vals1 r
    obtain rfl : u = Value.ref a := rx
    obtain ⟨hd, hz, ys, xy, dd⟩ := dctOf I h rk (by rw [ek, List.map_map]; rfl) (keysOk_ky ok)
    obtain ⟨es, ep, hr, hes, hat⟩ := dd.raw
    have hl := xy.length
    refine PySem.W.kdl_call (KdlSrc.rawDict hd) (I.ok.hd hc) hr (by rw [hes, hl]; exact hz) fun h' tk acc' c' hkeep hS hacc => ?_
    have vl : Vals (ws.map fun x => V.ref x.2.1) acc'.toList := by
      have el : acc'.toList.length = acc'.size := by simp
      refine L2.vals_of_at (by rw [List.length_map, el, hacc.1, hes, hl]) fun j x v h1 h2 => ?_
      obtain ⟨hj, hv⟩ := hacc.2 j v (by rw [← Array.getElem?_toList]; exact h2)
      obtain ⟨y, hy, hk, _⟩ := hat j hj
      rw [List.getElem?_map] at h1
      have m := congrArg (fun l => l[j]?) xy.maps
      simp only [List.getElem?_map, hy, Option.map_some] at m
      cases hw : ws[j]? with
      | none => rw [hw] at h1; cases h1
      | some z =>
        rw [hw] at h1 m
        cases h1
        simp only [Option.map_some, Option.some.injEq, Prod.mk.injEq] at m
        rw [hv, hk, m.2]
        exact rfl
    exact ⟨.ref s.heap.objs.size, _, I.laid hkeep (Nat.le_refl _) (show ObjOk X.prog X.w _ _ _ (.lst (ws.map fun x => V.ref x.2.1)) from ⟨by rw [List.length_map]; exact hz, acc'.toList, c', vl, by rw [Array.toArray_toList]; exact hS⟩), rfl, k _ _ rk (I.hok.fresh (Nat.le_refl _))⟩
  · cases hg
end
end DL
namespace DL
open PySem PySem.Spec PyProof.Rows L2
def rangeDn (i j : Int) : List D := (List.range (i - j).toNat).map fun k => .int (i + (k : Nat) * (-1))
def iRange3 (fs : Ea) : Ea := fun ρ S => (fs ρ S).bind fun q => match q.1 with
  | [.int i, .int j, .int c] => if (inWord i && (inWord j && decide (c = -1))) = true then some (rangeDn i j, q.2) else none
  | _ => none
theorem rangeDn_len (i j : Int) : (rangeDn i j).length = (i - j).toNat := by simp [rangeDn]
theorem rangeDn_get {lo hi : Int} {i : Nat} {d : D} (h : (rangeDn lo hi)[i]? = some d) : i < (lo - hi).toNat ∧ d = .int (lo + (i : Nat) * (-1)) := by
  unfold rangeDn at h
  rw [List.getElem?_map] at h
  by_cases hi' : i < (lo - hi).toNat
  · rw [List.getElem?_range hi'] at h
    cases h
    exact ⟨hi', rfl⟩
  · rw [List.getElem?_eq_none (by simpa using hi')] at h
    cases h
theorem walk_rangeC {K : KW} {as : List Addr} {O : Addr → Prop} {lo hi : Int} {H1 : Hp} : Walk K as O (Itc lo (-1) (lo - hi).toNat) H1 (rangeDn lo hi) := fun i H2 kp => by
  refine ⟨fun e => ?_, fun d hd => ?_⟩
  · show (lo - hi).toNat ≤ i
    rw [e, rangeDn_len]
    exact Nat.le_refl _
  · obtain ⟨h, rfl⟩ := rangeDn_get hd
    refine ⟨h, fun x H3 y => ?_⟩
    obtain ⟨rfl, rfl⟩ := y
    exact ⟨Same.refl _, .int _⟩
theorem mi_range3 {X : Cx} {tg a b c : Expr} {fs : Ea} {p pos : Pos} (hg : Gl X "range") (hm : X.mg "range" = none) (ha : PA X [a, b, c] (tOfA (kw X) fs))
    (hs : starEach [a, b, c] X.env = (false, eval a X.env) :: starEach [b, c] X.env := by rfl) (hpl : (backTo pos (starEach [b, c] X.env)).any (·.1) = false := by rfl) :
    PI X tg (.Call (.Name "range" p) [a, b, c] [] pos) (tOfI (kw X) (iRange3 fs)) := by
  refine ⟨fun pins s σ H R I h => ?_⟩
  obtain ⟨as, O, ρ, S, ds, S', R0, hf, k⟩ := h
  unfold iRange3 at hf
  obtain ⟨⟨dd, S1⟩, h1, hf⟩ := Option.bind_eq_some_iff.mp hf
  refine (pi_range3 hg hm ha hs hpl).run pins s σ H R I ⟨as, O, ρ, S, dd, S1, R0, h1, fun vs H1 s1 c1 r1 => ?_⟩
  split at hf
  · rename_i i j z e
    have e : dd = [.int i, .int j, .int z] := e
    subst e
    split at hf
    · rename_i hw
      cases hf
      cases r1 with
      | cons ra rr =>
        cases rr with
        | cons rb rr =>
          cases rr with
          | cons rc rr =>
            cases rr
            cases ra
            cases rb
            cases rc
            unfold inWord at hw
            simp only [Bool.and_eq_true, decide_eq_true_eq] at hw
            obtain ⟨⟨w1, w2⟩, ⟨w3, w4⟩, w5⟩ := hw
            subst w5
            exact ⟨i, j, -1, _, rfl, RgC.neg (by omega) (by omega) (by omega) (by omega), k (Itc i (-1) (i - j).toNat) H1 s1 c1 walk_rangeC⟩
    · cases hf
  · cases hf
theorem range3_s {fs : Ea} {i j : Int} {ρ : List Slot} {S S' : List D} (h : fs ρ S = some ([.int i, .int j, .int (-1)], S')) (hw : inWord i = true) (hw2 : inWord j = true) : iRange3 fs ρ S = some (rangeDn i j, S') := by
  unfold iRange3
  rw [h, Option.bind_some]
  have : (inWord i && (inWord j && decide ((-1 : Int) = -1))) = true := by rw [hw, hw2]; rfl
  exact if_pos this
end DL
namespace DL
open PySem PySem.Spec PyProof.Rows L2
theorem XY.get : ∀ {xs : List XE} {ys : List YE} {i : Nat} {x : XE}, XY xs ys → xs[i]? = some x → ∃ y, ys[i]? = some y ∧ x.1 = y.1 ∧ x.2.1 = y.2.1 ∧ RelV x.2.2 y.2.2
  | _, _, 0, _, .cons a b q _, h => by cases h; exact ⟨_, rfl, a, b, q⟩
  | _, _, i + 1, _, .cons _ _ _ t, h => XY.get (i := i) t h
theorem DictRel.entry {w : World} {h : Heap} {a : Addr} {o : Obj} {xs : List XE} (r : DictRel w h a o xs) {es : Array DictEntry} {ep : Nat} (hd : o.data = .dict es ep) :
    (a == sysModules) = false ∧ h.DictRaw a es ep ∧ es.size = xs.length ∧ ∀ (i : Nat) (hi : i < es.size) (x : XE), xs[i]? = some x → es[i].key = .ref x.2.1 ∧ RelV x.2.2 es[i].val := by
  obtain ⟨hs, hz, hn, ys, m, vl, es', ep', h1, h2, h3, h4⟩ := r
  rw [hd] at h3
  cases h3
  have xy := xy_of m vl
  have hl : es.size = ys.length := by
    have := congrArg List.length h4
    rw [List.length_map] at this
    rw [← this]; simp
  refine ⟨hs, ⟨o, h1, h2, hd⟩, by rw [hl, xy.length], fun i hi x hx => ?_⟩
  obtain ⟨y, hy, e1, e2, rv⟩ := xy.get hx
  have e : es[i]? = some ⟨NestedKey.hash w y.1, .ref y.2.1, y.2.2⟩ := by
    rw [← Array.getElem?_toList, h4, List.getElem?_map, hy]; rfl
  rw [Array.getElem?_eq_getElem hi] at e
  have e' := Option.some.inj e
  rw [e', e2]
  exact ⟨rfl, rv⟩
theorem DictRel.data {w : World} {h : Heap} {a : Addr} {o : Obj} {xs : List XE} (r : DictRel w h a o xs) : ∃ es ep, o.data = .dict es ep := by
  obtain ⟨_, _, _, _, _, _, es, ep, _, _, h3, _⟩ := r
  exact ⟨es, ep, h3⟩
theorem rel_of {X : Cx} {pins : List (Addr × Obj)} {σ : L2.St} {H : Hp} {s : Shared} (I : L2.Inv X pins σ H s) {a : Addr} {o : Obj} {xs : List XE} (e : H a = some (DictO X.w a o xs)) : DictRel X.w s.heap a o xs :=
  (show ObjOk X.prog X.w H s.heap a (DictO X.w a o xs) from I.hok a _ e).1
def ItX (w : World) (d : Addr) (o : Obj) (xs : List XE) : It :=
  ⟨fun i H => H d = some (DictO w d o xs) ∧ i < xs.length, fun i H v H' => ∃ T x, v = .ref T ∧ xs[i]? = some x ∧ H T = none ∧ H' = upd H T (.tup [.ref x.2.1, x.2.2]), fun i H => H d = some (DictO w d o xs) ∧ xs.length ≤ i⟩
theorem turn_itX {P : Program} {w : World} {K : PySem.W.Frag} {elts : List Expr} {kk : Nat} {tpos : Pos} {d : Addr} {o : Obj} {xs : List XE} {es : Array DictEntry} {ep : Nat} (it : Addr) (hod : o.data = .dict es ep) :
    Turn P w K (.Tuple elts kk tpos) (ItX w d o xs) [it] it (fun i h => ∃ ok ov, IsItemIter h it d i xs.length ep ok ov) where
  mem := by simp
  obj := fun i h st b hb => by
    have e : b = it := by simpa using hb
    subst e
    obtain ⟨ok, ov, e⟩ := st
    exact ⟨_, e, fun v z => nomatch z⟩
  keep := fun i h h' st k => let ⟨ok, ov, e⟩ := st; ⟨ok, ov, k it (by simp) _ e⟩
  item := by
    intro X hP hw hK hc i pins s σ H E I hf st hg
    subst hP hw hK
    obtain ⟨hd, hi⟩ := hg
    obtain ⟨ok, ov, he⟩ := st
    obtain ⟨hs, hm, hsz, ent⟩ := (rel_of I hd).entry hod
    have hlt : it < s.heap.objs.size := Heap.lt_size he
    have hi' : i < es.size := by omega
    rw [← hsz] at he
    obtain ⟨ek, ev⟩ := ent i hi' xs[i] (List.getElem?_eq_getElem hi)
    refine wpAny_pyNext_items_item_raw he hm hi' fun h' ho hT hz hk => ?_
    refine ⟨_, rfl, wpAny_letOwnedTupleGo_items (s := { s with heap := h' }) ho fun h'' he' sb => ?_⟩
    have hT2 : h''.get? s.heap.objs.size = some { cls := .type "tuple", data := .seq #[es[i].key, es[i].val] } := (sb.2 _ (Nat.ne_of_gt hlt)).trans hT
    have new : ObjOk X.prog X.w (upd H s.heap.objs.size (.tup [.ref xs[i].2.1, xs[i].2.2])) h'' s.heap.objs.size (.tup [.ref xs[i].2.1, xs[i].2.2]) :=
      ⟨by show 2 ≤ sizeLine; decide, [es[i].key, es[i].val], .cons ek (.cons ev .nil), ⟨_, hT2, rfl, _, rfl⟩⟩
    have I1 : Inv X pins σ (upd H s.heap.objs.size (.tup [.ref xs[i].2.1, xs[i].2.2])) { s with heap := h'' } :=
      I.turnedNew (t' := s.toks) (ch := [it]) (fun b ob hb e => (sb.2 b (by simpa using hb)).trans (hk b ob (by simpa using hb) e)) hf (Nat.le_refl _) new
    refine ⟨.ref s.heap.objs.size, _, I1, rfl, ⟨_, xs[i], rfl, List.getElem?_eq_getElem hi, I.hok.fresh (Nat.le_refl _), rfl⟩, ⟨es[i].key, es[i].val, ?_⟩, fun b hb => ?_⟩
    · rw [← hsz]; exact he'
    · have e : b = it := by simpa using hb
      rw [e, upd_ne (Nat.ne_of_lt hlt)]
      exact (hf it (by simp)).1
  done := by
    intro X hP hw hK hc i pins s σ H E I hf st hg
    subst hP hw hK
    obtain ⟨hd, hi⟩ := hg
    obtain ⟨f0, f1, f2, f3, f4, f5⟩ := hf it (by simp)
    obtain ⟨ok, ov, he⟩ := st
    obtain ⟨hs, hm, hsz, ent⟩ := (rel_of I hd).entry hod
    rw [← hsz] at he
    exact wpAny_pyNext_items_end_raw (I.ok.hd hc) he hm (by omega) fun h' eb => ⟨rfl, I.turned (t' := s.toks) (fun b ob hb e => eb b ob hb e) f0 f1 f3 f4 f5⟩
  self := fun A i s Q E st h => let ⟨_, _, e⟩ := st; PySem.W.kcp_self e h
def iItems (f : Ev) : Ea := fun ρ S => (f ρ S).bind fun q => match q.1 with
  | .dct kvs => some (kvs.map fun p => .tup [p.1, p.2], q.2)
  | _ => none
theorem mi_items {X : Cx} {e : Expr} {f : Ev} {elts : List Expr} {kk : Nat} {tpos apos cpos : Pos} (he : PE X e (tOf (kw X) f)) (hbase : attributeBase e "items" X.env (eval e X.env) = eval e X.env := by rfl) (hline : (apos.endLine == cpos.line) = true := by rfl) :
    PI X (.Tuple elts kk tpos) (.Call (.Attribute e "items" apos) [] [] cpos) (tOfI (kw X) (iItems f)) := by
  refine ⟨fun pins s σ H R I h => ?_⟩
  obtain ⟨as, O, ρ, S, ds, S', R0, hf, k⟩ := h
  unfold iItems at hf
  obtain ⟨⟨dd, S1⟩, h1, hf⟩ := Option.bind_eq_some_iff.mp hf
  refine wpAny_Call_method (T := "dict") (id := "dict.items") hbase rfl hline PySem.F.plainAttrs_dict PySem.F.slot_dict_items PySem.F.type_dict_items (thn (he.run pins s σ H (fun v H1 => Stp as H H1 ∧ Cells (kw X) as O H1 S1 ∧ Rp (kw X) as O H1 v dd) I ⟨as, O, ρ, S, dd, S1, R0, h1, fun v H' s c r => ⟨s, c, r⟩⟩) fun u s1 ⟨v, H1, I1, rv, s1', c1, rr⟩ => ?_)
  have w1 := R0.wf.step s1' c1
  split at hf
  case h_2 => cases hf
  case h_1 kvs e =>
  have e : dd = .dct kvs := e
  subst e
  cases hf
  cases rr with
  | @dct a ob xs _ n hq rk rvv ek ok =>
  obtain rfl : u = Value.ref a := rv
  have rel := rel_of I1 hq
  obtain ⟨es, ep, hod⟩ := rel.data
  obtain ⟨hs, hm, hsz, ent⟩ := rel.entry hod
  have ht : s1.TypeIs (.ref a) "dict" := hm.typeIs
  refine ⟨ht, fun b q => ?_, ?_⟩
  · cases q
    obtain ⟨o, ho, hx, _⟩ := hm
    exact ⟨o, ho, hx.2.1⟩
  have I2 : Inv X pins σ H1 { s1 with heap := s1.heap.push { cls := .type "dict_items", data := .fields #[.ref a] } } := I1.kept (t' := s1.toks) fun b ob q => Heap.get?_push_of_some _ q
  have q : R (ItX X.w a ob xs) H1 := by
    refine k _ H1 s1' c1 fun i H2 kp => ?_
    have b1 : H2 a = some (DictO X.w a ob xs) := kp _ _ n hq
    have hl : xs.length = kvs.length := by
      have := congrArg List.length ek
      rwa [List.length_map, List.length_map] at this
    refine ⟨fun z => ⟨b1, by rw [z, List.length_map, hl]; exact Nat.le_refl _⟩, fun d hd => ?_⟩
    rw [List.getElem?_map] at hd
    cases hk : kvs[i]? with
    | none => rw [hk] at hd; cases hd
    | some p =>
      rw [hk] at hd
      cases hd
      obtain ⟨v1, hv1, r1⟩ := rk.get (i := i) (d := p.1) (by rw [List.getElem?_map, hk]; rfl)
      obtain ⟨v2, hv2, r2⟩ := rvv.get (i := i) (d := p.2) (by rw [List.getElem?_map, hk]; rfl)
      have hi : i < xs.length := by rw [hl]; exact (List.getElem?_eq_some_iff.mp hk).1
      refine ⟨⟨b1, hi⟩, fun v H3 yl => ?_⟩
      obtain ⟨T, x, rfl, hx, nT, rfl⟩ := yl
      rw [List.getElem?_map, hx] at hv1 hv2
      cases hv1
      cases hv2
      have sm := same_new (o := .tup [.ref x.2.1, x.2.2]) nT
      have kk : Kp O H1 (upd H2 T (.tup [.ref x.2.1, x.2.2])) := fun a u n e => sm a u (kp a u n e)
      exact ⟨sm, .tup (.inl (.inl upd_same)) (RpL.later w1 kk (.cons r1 (.cons r2 .nil)))⟩
  have fin : wpAny (model X.prog X.w) X.A (pyIter (.ref s1.heap.objs.size)) (PIE X pins σ (.Tuple elts kk tpos) R) X.xe { s1 with heap := s1.heap.push { cls := .type "dict_items", data := .fields #[.ref a] } } := by
    refine wpAny_pyIter_items_raw (d := a) ⟨_, Heap.get?_push_size _ rfl, rfl, rfl⟩ (hm.push _) (pi_one (tk := s1.toks) I2 _ (turn_itX _ hod) ⟨.none, .none, ?_⟩ q)
    rw [← hsz]
    exact Heap.get?_push_size _ rfl
  show wpAny _ _ (callWith cpos (.builtin "dict.items") [.ref a] [] []) _ X.xe s1
  exact method_meetsIn PySem.F.slot_dict_items PySem.F.entry_dict_items rfl (PySem.evalArgs_none ⟨rfl, ht, PySem.F.args_dict_items_1 _, _, meets_dict_items_raw a hs, ⟨es, ep, hm⟩, fin⟩)
def valD (kvs : List (D × D)) (k : D) : Option D := (kvs.find? fun p => decide (keyD p.1 = keyD k)).map (·.2)
def eDGet (fo fk fe : Ev) : Ev := fun ρ S => (fo ρ S).bind fun p => (fk ρ p.2).bind fun q => (fe ρ q.2).bind fun r => match p.1 with
  | .dct kvs => if (isTupD q.1 && kyD 7 q.1) = true then some ((valD kvs q.1).getD r.1, r.2) else none
  | _ => none
theorem val_get {K : KW} {as : List Addr} {O : Addr → Prop} {H : Hp} (k : D) : ∀ {xs : List XE} {ys : List YE} {kvs : List (D × D)}, XY xs ys → xs.map (·.1) = kvs.map (fun kv => keyD kv.1) → RpL K as O H (xs.map (·.2.2)) (kvs.map (·.2)) →
    (atKey ys (keyD k) = none ∧ valD kvs k = none) ∨ ∃ (p : Addr × Value) (v : V) (d : D), atKey ys (keyD k) = some p ∧ valD kvs k = some d ∧ RelV v p.2 ∧ Rp K as O H v d
  | _, _, [], .nil, _, _ => .inl ⟨rfl, rfl⟩
  | _, _, _ :: _, .nil, e, _ => by simp at e
  | _, _, [], .cons _ _ _ _, e, _ => by simp at e
  | x :: xs, y :: ys, p :: kvs, .cons a b q t, e, .cons r rr => by
    simp only [List.map_cons, List.cons.injEq] at e
    by_cases h : y.1 = keyD k
    · have h1 : keyD p.1 = keyD k := by rw [← e.1, a, h]
      refine .inr ⟨y.2, x.2.2, p.2, ?_, ?_, q, r⟩
      · simp [atKey, h]
      · simp [valD, h1]
    · have h1 : ¬ keyD p.1 = keyD k := by rw [← e.1, a]; exact h
      have e1 : atKey (y :: ys) (keyD k) = atKey ys (keyD k) := by simp [atKey, h]
      have e2 : valD (p :: kvs) k = valD kvs k := by simp [valD, h1]
      rw [e1, e2]
      exact val_get k t e.2 rr
section
variable {X : Cx} {pos : Pos} {e b c : Expr} {f fb fc : Ev} {fr : Bool}
theorem me_dget2 {apos cpos : Pos} (hu : X.A.units + 64 < cLine) (ho : PE X e (tOfB (kw X) f)) (hb : PE X b (tOf (kw X) fb)) (hc : PE X c (tOf (kw X) fc))
    (hbase : attributeBase e "get" X.env (eval e X.env) = eval e X.env := by rfl)
    (hfew : ((backTo cpos (starEach [b, c] X.env)).all (fun x => !x.1) && (backToKw cpos (keywordEach [] X.env)).all (fun x => x.1.isSome)
      && decide (([b, c] : List Expr).length + ([] : List Keyword).length + (if ([] : List Keyword).isEmpty then 0 else 1) < 30)) = true := by rfl)
    (hline : (apos.endLine == cpos.line) = true := by rfl) (htr : backTo cpos (starEach [b, c] X.env) = [(false, eval b X.env), (false, eval c X.env)] := by rfl) :
    PE X (.Call (.Attribute e "get" apos) [b, c] [] cpos) (tOf (kw X) (eDGet f fb fc)) := by
  refine ⟨fun pins s σ H Q I h => ?_⟩
  obtain ⟨as, O, ρ, S, d, S', R, hf, k⟩ := h
  unfold eDGet at hf
  obtain ⟨⟨d1, S1⟩, h1, hf⟩ := Option.bind_eq_some_iff.mp hf
  obtain ⟨⟨d2, S2⟩, h2, hf⟩ := Option.bind_eq_some_iff.mp hf
  obtain ⟨⟨d3, S3⟩, h3, hf⟩ := Option.bind_eq_some_iff.mp hf
  obtain ⟨kvs, rfl⟩ : ∃ kvs, d1 = .dct kvs := by
    cases d1 <;> first | exact ⟨_, rfl⟩ | cases hf
  dsimp only at hf
  split at hf
  case isFalse => cases hf
  case isTrue kb =>
  have kb : (isTupD d2 && kyD 7 d2) = true := kb
  rw [Bool.and_eq_true] at kb
  cases hf
  refine wpAny_Call_method hbase hfew hline PySem.F.plainAttrs_dict PySem.F.slot_dict_get PySem.F.type_dict_get (thn (ho.run pins s σ H (fun v H1 => Stp as H H1 ∧ Cells (kw X) as O H1 S1 ∧ RpB (kw X) as O H1 v (.dct kvs)) I ⟨as, O, ρ, S, _, S1, R, h1, fun v H' s c r => ⟨s, c, r⟩⟩) fun u s1 ⟨v, H1, I1, rv, s1', c1, rr⟩ => ?_)
  obtain ⟨a, ob, xs, rfl, hq, rk, rvv, ek, ok⟩ := rr.dct
  obtain rfl : u = Value.ref a := rv
  obtain ⟨es, ep, hod⟩ := (rel_of I1 hq).data
  obtain ⟨hs, hm, hsz, ent⟩ := (rel_of I1 hq).entry hod
  refine ⟨hm.typeIs, fun b q => ?_, ?_⟩
  · cases q
    obtain ⟨o, ho, hx, _⟩ := hm
    exact ⟨o, ho, hx.2.1⟩
  rw [htr]
  have R1 := R.step s1' c1
  refine Calls.callWith_builtin rfl (Calls.evalArgs_plain (Calls.spliced_cons (thn (hb.run pins s1 σ H1 (fun v H2 => Stp as H1 H2 ∧ Cells (kw X) as O H2 S2 ∧ Rp (kw X) as O H2 v d2) I1 ⟨as, O, ρ, S1, d2, S2, R1, h2, fun v H' s c r => ⟨s, c, r⟩⟩) fun iv s2 ⟨y, H2, I2, ry, s2', c2, r2⟩ => ?_)))
  have R2 := R1.step s2' c2
  refine Calls.spliced_cons (thn (hc.run pins s2 σ H2 (fun v H3 => Stp as H2 H3 ∧ Cells (kw X) as O H3 S' ∧ Rp (kw X) as O H3 v d3) I2 ⟨as, O, ρ, S2, d3, S', R2, h3, fun v H' s c r => ⟨s, c, r⟩⟩) fun fv s3 ⟨z, H3, I3, rz, s3', c3, r3⟩ => Calls.spliced_nil ?_)
  have R3 := R2.step s3' c3
  obtain ⟨b', rfl⟩ := rp_tup_ref kb.1 r2
  obtain rfl : iv = Value.ref b' := ry
  have nb : a ∉ as ∨ False := by
    rcases rr with rr | ⟨a', e', n, cc⟩
    · cases rr with
      | dct n _ _ _ _ _ => exact .inl fun m => n (R1.wf.sub _ m)
    · cases e'
      exact .inl n
  have na : a ∉ as := nb.resolve_right id
  have hq3 : H3 a = some (DictO X.w a ob xs) := s3' a _ na (s2' a _ na hq)
  obtain ⟨_, _, ys, xy, dd⟩ := dctOf I3 hq3 ((rk.stp R1.wf s2').stp R2.wf s3') (by rw [ek, List.map_map]; rfl) (keysOk_ky ok)
  have kk := key_is I3 7 _ d2 (.ref b') (r2.stp R2.wf s3') kb.2 rfl
  have tv3 := (rvv.stp R1.wf s2').stp R2.wf s3'
  have st : Stp as H H3 := (s1'.trans s2').trans s3'
  refine call_meetsIn PySem.F.slot_dict_get dd.typeIs PySem.F.entry_dict_get (PySem.F.args_dict_get_3 _ _ _) (meetsH_dict_get_default (nestedKind X.prog X.w) a b' hs fv) ⟨(show X.A.units + 1 + 8 < cLine by omega), keyD d2, ys, ⟨kk, Nat.le_succ_of_le (ky_depth 7 d2 kb.2)⟩, dd, ?_⟩
  rcases val_get d2 xy ek tv3 with ⟨h4, h5⟩ | ⟨p, v0, dv, h4, h5, rv0, rd0⟩
  · rw [h4]
    exact ⟨z, H3, I3.tok _, rz, k _ H3 st c3 (by rw [h5]; exact r3)⟩
  · rw [h4]
    exact ⟨v0, H3, I3.tok _, rv0, k _ H3 st c3 (by rw [h5]; exact rd0)⟩
end
end DL
namespace DL
open PySem PySem.Spec PyProof.Rows L2
section
variable {X : Cx}
theorem d_setX {pins : List (Addr × Obj)} {σ : L2.St} {H : Hp} {s : Shared} {E : Value → Shared → Prop} {D : Addr} {y v : V} {u r : Value} {N : Hp → Prop} {Q : Unit → Shared → Prop} (hu : X.A.units + 64 < cLine) (I : L2.Inv X pins σ H s) (ry : RelV y u) (rv : RelV v r)
    (q : rSetD X (.ref D) y v H N) (h : ∀ s' H', L2.Inv X pins σ H' s' → N H' → Q () s') : wpAny (model X.prog X.w) X.A (dictSet D u r) Q E s := by
  obtain ⟨as, O, a, b, ob, xs, ds, kd, e0, rfl, e, rk, ek, ok, rb, kb, hl, q⟩ := q
  cases e0
  obtain rfl : u = Value.ref b := ry
  obtain ⟨hd, hz, ys, r, dd⟩ := dctOf I e rk ek ok
  have kk := key_is I 7 _ kd (.ref b) rb kb rfl
  refine wpAny_dictSet_heap (knd := nestedKind X.prog X.w) (k := keyD kd) (hsz := by rw [r.length]; exact hz) (show X.A.units + 8 < cLine by omega) ⟨kk, Nat.le_succ_of_le (ky_depth 7 kd kb)⟩ dd fun h' dd' hs => ?_
  have r' := r.put (keyD kd) b rv
  obtain ⟨o', new⟩ : ∃ o', DictRel X.w h' D o' (putX xs (keyD kd) b v) := DictRel.of hd (by have := putX_len xs (keyD kd) b v; omega) r' dd'
  have he : ∃ o, h'.get? D = some o := by
    obtain ⟨o, _, _, h1, _⟩ := dd'
    exact ⟨o, h1⟩
  exact h _ _ (d_write I (by rw [e]; exact True.intro) hs he new.ok) (q o')
def tDx (X : Cx) (wi : TI) (g : TG) (tt : TT) (tk tv : TE) (vs : List Nat) : TE := fun σ H Q => wi σ H fun J H1 => ∀ D o, H1 D = none → ∃ W : Nat → Nat → Hp → Prop, (∃ m, W 0 m (upd H1 D (DictO X.w D o []))) ∧ ∀ i m H, W i m H →
  (J.stop i H ∧ Q (.ref D) H) ∨ (J.go i H ∧ ∃ Nx : Hp → Prop, (∀ H', Nx H' → ∃ m', m' < m ∧ W (i + 1) m' H') ∧ ∀ x H', J.yld i H x H' → g x (wipe σ vs) H' fun σ2 H2 => wipe σ2 vs = wipe σ vs ∧ tt σ2 H2 fun b H3 =>
    if b = true then tk σ2 H3 fun y H4 => tv σ2 H4 fun z H5 => rSetD X (.ref D) y z H5 Nx else Nx H3)
theorem dx_core {pins : List (Addr × Obj)} {s : Shared} {σ : L2.St} {H : Hp} {Q : VK} {kx vx tg iter : Expr} {ifs : List Expr} {scope : Scope} {own : List (Str × Nat)} {pos pos' : Pos} {wi : TI} {g : TG} {tt : TT} {tk tv : TE} {use : Option (Value → Sem Unit)} {Qf : Value → Shared → Prop}
    (hu : X.A.units + 64 < cLine) (hc : X.calm = true) (hN : X.N.Nodup) (I : Inv X pins σ H s) (hi : PI X tg iter wi) (ok : BlkOk X.N X.env.scope scope own)
    (hg : ∀ (s : Shared) (H : Hp) (C : Addr) (cl : List (Str × Addr)) (fp : List Addr), PG (X.blk s H scope (compEnvC scope cl C X.env) fp) tg g) (ht : ∀ (s : Shared) (H : Hp) (C : Addr) (cl : List (Str × Addr)) (fp : List Addr), PTs (X.blk s H scope (compEnvC scope cl C X.env) fp) ifs tt)
    (hk : ∀ (s : Shared) (H : Hp) (C : Addr) (cl : List (Str × Addr)) (fp : List Addr), PE (X.blk s H scope (compEnvC scope cl C X.env) fp) kx tk)
    (he : ∀ (s : Shared) (H : Hp) (C : Addr) (cl : List (Str × Addr)) (fp : List Addr), PE (X.blk s H scope (compEnvC scope cl C X.env) fp) vx tv) (hs : ∀ x, foldedSetIterable iter X.env x = pure x)
    (h : tDx X wi g tt tk tv (own.map (·.2)) σ H Q)
    (hRR : ∀ D C s' m H', Inv X pins σ H' s' → Q (.ref D) H' → s'.heap.Ns C m → FpOk X pins H' C → compPost (model X.prog X.w) X.A X.xe use Qf (.ref D) C (.ok .next) s') :
    wpAny (model X.prog X.w) X.A (comprehension (.DictComp kx vx [⟨tg, iter, ifs, 0⟩] scope pos) scope X.env pos' newDict false (eval iter X.env) use) Qf X.xe s := by
  have hfree : ∀ y ∈ scope.names, y.2 = .free → ∃ c, X.env.cells.lookup y.1 = some c := fun y hy e => by
    rcases ok.free y hy e with k | k
    · exact I.ok.has _ (.inl k)
    · exact I.ok.has _ (.inr k)
  refine wpAny_comprehension_free (use := use) rfl hs (closure_ok hfree) ok.kind (fun y hy e => by rw [ok.uniq y hy, e])
    (thn (hi.run pins s σ H _ I h) fun xv s1 hx => thn hx fun itv s2 h2 => ?_)
  obtain ⟨it, fp, tn, J, H2, e, I2, T, st2, f2, q⟩ := h2
  subst e
  refine wpAny_newObj_type (newEnv_comp ?_)
  generalize hD : s2.heap.objs.size = D
  have hDn : H2 D = none := I2.hok.fresh (Nat.le_of_eq hD)
  obtain ⟨o0, ho0⟩ := dict_empty (P := X.prog) (w := X.w) s2.heap (Inv.big I2)
  rw [hD] at ho0
  obtain ⟨W, ⟨m0, w0⟩, turn⟩ := q D o0 hDn
  generalize hs3 : ({ s2 with heap := s2.heap.push { cls := .type "dict", data := .dict #[] } } : Shared) = s3
  have I3 : Inv X pins σ (upd H2 D (DictO X.w D o0 [])) s3 := by
    rw [← hs3]
    refine I2.laid (t' := s2.toks) (fun b o e => Heap.get?_push_of_some _ e) (Nat.le_of_eq hD) ?_
    exact ho0 _
  have h3 : s3.heap = s2.heap.push { cls := .type "dict", data := .dict #[] } := by rw [← hs3]
  have sz : ∀ b ∈ fp, b < s2.heap.objs.size := fun b hb => by
    obtain ⟨o, e, _⟩ := T.obj _ _ st2 b hb
    exact Heap.lt_size e
  have f3 : ∀ b ∈ fp, FpOk X pins (upd H2 D (DictO X.w D o0 [])) b ∧ b < s3.heap.objs.size := fun b hb => by
    have hlt := sz b hb
    refine ⟨⟨?_, (f2 b hb).2⟩, by rw [h3, Heap.size_push]; exact Nat.lt_succ_of_lt hlt⟩
    rw [upd_ne (by rw [← hD]; exact Nat.ne_of_lt hlt)]
    exact (f2 b hb).1
  have st3 : tn 0 s3.heap := T.keep _ _ _ st2 fun b _ o e => by rw [h3]; exact Heap.get?_push_of_some _ e
  have I4 := block_start I3 ok hN f3
  have pg := hg s3 (upd H2 D (DictO X.w D o0 [])) s3.heap.objs.size (cellsFrom (s3.heap.objs.size + 1) scope.names (cloFrom X.env.cells scope.names [])) fp
  have pt := ht s3 (upd H2 D (DictO X.w D o0 [])) s3.heap.objs.size (cellsFrom (s3.heap.objs.size + 1) scope.names (cloFrom X.env.cells scope.names [])) fp
  have pk := hk s3 (upd H2 D (DictO X.w D o0 [])) s3.heap.objs.size (cellsFrom (s3.heap.objs.size + 1) scope.names (cloFrom X.env.cells scope.names [])) fp
  have pe := he s3 (upd H2 D (DictO X.w D o0 [])) s3.heap.objs.size (cellsFrom (s3.heap.objs.size + 1) scope.names (cloFrom X.env.cells scope.names [])) fp
  show codeAny _ _ (.compStart (.DictComp kx vx [⟨tg, iter, ifs, 0⟩] scope pos) 0 (.ref it) (.ref D) (compEnvC scope (cellsFrom (s3.heap.objs.size + 1) scope.names (cloFrom X.env.cells scope.names [])) s3.heap.objs.size X.env)) (compPost (model X.prog X.w) X.A X.xe use Qf (.ref D) s3.heap.objs.size) { s3 with heap := pushCells (s3.heap.push { cls := .type "dict", data := .dict #[] }) scope.names }
  have nfp : ∀ b ∈ fp, (upd H2 D (DictO X.w D o0 [])) b = none := fun b hb => (f3 b hb).1.1
  generalize hce : compEnvC scope (cellsFrom (s3.heap.objs.size + 1) scope.names (cloFrom X.env.cells scope.names [])) s3.heap.objs.size X.env = ce at I4 pg pt pk pe ⊢
  have cL : ce.locals = s3.heap.objs.size := by subst hce; rfl
  generalize hH3 : upd H2 D (DictO X.w D o0 []) = H3 at I3 I4 pg pt pk pe w0 nfp f3
  generalize hs4 : ({ s3 with heap := pushCells (s3.heap.push { cls := .type "dict", data := .dict #[] }) scope.names } : Shared) = s4 at I4 ⊢
  have st4 : tn 0 s4.heap := T.keep _ _ _ st3 fun b _ o e => by rw [← hs4]; exact pushCells_keeps _ _ _ _ (Heap.get?_push_of_some _ e)
  have stat : ∀ {σ' : L2.St} {H' : Hp} {s' : Shared}, Inv (X.blk s3 H3 scope ce fp) [] σ' H' s' → (∀ b ∈ fp, H' b = none) → ∀ b ∈ fp, FpOk (X.blk s3 H3 scope ce fp) [] H' b := fun {σ' H' s'} I' hn b hb =>
    ⟨hn b hb, (I'.ok.exf b hb).1, I'.ok.exfs b hb, .inl hb, fun x c e => (I'.ok.exf b hb).2 x c e, fun p hp => absurd (show p ∈ ([] : List (Addr × Obj)) ++ [] from hp) (by simp)⟩
  have loop : codeAny (model X.prog X.w) X.A (.compLoop (.DictComp kx vx [⟨tg, iter, ifs, 0⟩] scope pos) 0 (.ref it) (.ref D) ce) (compPost (model X.prog X.w) X.A X.xe use Qf (.ref D) s3.heap.objs.size) s4 := by
    refine compLoop_anyD (fun n s' => ∃ i H', Inv (X.blk s3 H3 scope ce fp) [] (wipe σ (own.map (·.2))) H' s' ∧ tn i s'.heap ∧ (∀ b ∈ fp, H' b = none) ∧ W i n H') ?_ m0 ⟨0, H3, I4, st4, nfp, w0⟩
    rintro n s5 ⟨i, H5, I5, st5, n5, w5⟩
    rcases turn i n H5 w5 with ⟨stop, qq⟩ | ⟨go, Nx, hNx, step⟩
    · have td := T.done (X.blk s3 H3 scope ce fp) rfl rfl rfl hc i [] s5 _ H5 (fun _ _ => False) I5 (stat I5 n5) st5 stop
      refine thnF td fun r s6 ⟨hr, I6⟩ => ?_
      subst hr
      have I7 : Inv X pins σ H5 s6 := I3.call' (ch := fp) I6.os I6.base I6.hok I6.bare fun b hb => ⟨(f3 b hb).1.2.2.2.1, (f3 b hb).1.2.1, (f3 b hb).1.2.2.2.2.1, (f3 b hb).1.2.2.2.2.2⟩
      have nC : H5 s3.heap.objs.size = none := by
        have z : H5 ce.locals = none := I6.free
        rw [cL] at z
        exact z
      obtain ⟨m, hn, _⟩ := I6.loc
      have hn : s6.heap.Ns ce.locals m := hn
      rw [cL] at hn
      exact hRR D s3.heap.objs.size s6 m H5 I7 qq hn (I3.fpOk (Nat.le_refl _) nC)
    · have ti := T.item (X.blk s3 H3 scope ce fp) rfl rfl rfl hc i [] s5 _ H5 (fun _ _ => False) I5 (stat I5 n5) st5 go
      refine thnF ti fun r s6 ⟨u, hr, h6⟩ => ?_
      subst hr
      refine thnF h6 fun _ s7 ⟨x, H7, I7, r7, y7, st7, n7⟩ => ?_
      have I7' := I7.pinned (stat I7 n7) (T.obj _ _ st7)
      refine thnF (pg.run _ s7 _ H7 x u _ I7' r7 (step x H7 y7)) fun _ s8 ⟨σ8, H8, I8, hw8, q8⟩ => ?_
      refine thnF (pt.run _ s8 σ8 H8 _ I8 q8) fun b s9 ⟨H9, I9, q9⟩ => ?_
      have fin : ∀ {s' : Shared} {H' : Hp}, Inv (X.blk s3 H3 scope ce fp) ([] ++ pinsAt fp s7.heap) σ8 H' s' → Nx H' → ∃ m, m < n ∧ ∃ i H', Inv (X.blk s3 H3 scope ce fp) [] (wipe σ (own.map (·.2))) H' s' ∧ tn i s'.heap ∧ (∀ b ∈ fp, H' b = none) ∧ W i m H' := fun {s' H'} I' nx => by
        obtain ⟨m', hm, w'⟩ := hNx H' nx
        have pin' : ∀ b ∈ fp, ∀ o, s7.heap.get? b = some o → s'.heap.get? b = some o ∧ H' b = none := fun b hb o e =>
          let z := I'.pin (b, o) (List.mem_append_right _ (List.mem_append_right _ (mem_pinsAt hb e)))
          ⟨z.1, z.2.1⟩
        have hl : (wipe σ (own.map (·.2))).length = σ8.length := by rw [← hw8, wipe_length]
        refine ⟨m', hm, i + 1, H', (I'.unpinned (pins := [])).weak hl (fun j v e => ?_), T.keep _ _ _ st7 fun b hb o e => (pin' b hb o e).1, fun b hb => ?_, w'⟩
        · rw [← hw8] at e
          exact (wipe_some e).1
        · obtain ⟨o, e, _⟩ := T.obj _ _ st7 b hb
          exact (pin' b hb o e).2
      cases b with
      | false =>
        simp only [Bool.false_eq_true, if_false] at q9 ⊢
        exact fin I9 q9
      | true =>
        simp only [if_true] at q9 ⊢
        refine thnF (pk.run _ s9 σ8 H9 _ I9 q9) fun z s10 ⟨yk, H10, I10, r10, q10⟩ => ?_
        refine thnF (pe.run _ s10 σ8 H10 _ I10 q10) fun z2 s11 ⟨yv, H11, I11, r11, nx⟩ => ?_
        exact d_setX (X := X.blk s3 H3 scope ce fp) hu I11 r10 r11 nx fun s12 H12 I12 nx => fin I12 nx
  exact codeAny_compStart_dict loop (T.self X.A 0 _ _ _ st4 loop)
theorem pe_dx {kx vx tg iter : Expr} {ifs : List Expr} {scope : Scope} {own : List (Str × Nat)} {pos : Pos} {wi : TI} {g : TG} {tt : TT} {tk tv : TE} (hu : X.A.units + 64 < cLine) (hc : X.calm = true) (hN : X.N.Nodup) (hi : PI X tg iter wi) (ok : BlkOk X.N X.env.scope scope own)
    (hg : ∀ (s : Shared) (H : Hp) (C : Addr) (cl : List (Str × Addr)) (fp : List Addr), PG (X.blk s H scope (compEnvC scope cl C X.env) fp) tg g) (ht : ∀ (s : Shared) (H : Hp) (C : Addr) (cl : List (Str × Addr)) (fp : List Addr), PTs (X.blk s H scope (compEnvC scope cl C X.env) fp) ifs tt)
    (hk : ∀ (s : Shared) (H : Hp) (C : Addr) (cl : List (Str × Addr)) (fp : List Addr), PE (X.blk s H scope (compEnvC scope cl C X.env) fp) kx tk)
    (he : ∀ (s : Shared) (H : Hp) (C : Addr) (cl : List (Str × Addr)) (fp : List Addr), PE (X.blk s H scope (compEnvC scope cl C X.env) fp) vx tv) (hs : ∀ x, foldedSetIterable iter X.env x = pure x := by intro _; rfl) :
    PE X (.DictComp kx vx [⟨tg, iter, ifs, 0⟩] scope pos) (tDx X wi g tt tk tv (own.map (·.2))) := by
  refine ⟨fun pins s σ H Q I h => ?_⟩
  rw [arm_eval_DictComp]
  refine dx_core hu hc hN I hi ok hg ht hk he hs h fun D C s' m H' I' q hn f => ⟨m, hn, fun h'' sb => ?_⟩
  obtain ⟨f0, f1, f2, f3, f4, f5⟩ := f
  exact ⟨.ref D, H', I'.turned (t' := s'.toks) (fun b o hb e => (sb.2 b hb).trans e) f0 f1 f3 f4 f5, rfl, q⟩
theorem ps_setDx {i : Nat} {y : Str} {py : Pos} {kx vx tg iter : Expr} {ifs : List Expr} {scope : Scope} {own : List (Str × Nat)} {pos spos : Pos} {wi : TI} {g : TG} {tt : TT} {tk tv : TE} (hu : X.A.units + 64 < cLine) (hc : X.calm = true) (hN : X.N.Nodup) (hy : X.N[i]? = some y) (hyl : X.env.scope.names.lookup y = some .local)
    (hsw : swapsWith (.DictComp kx vx [⟨tg, iter, ifs, 0⟩] scope pos) (some (.Name y py)) spos.line X.env = pure true) (hi : PI X tg iter wi) (ok : BlkOk X.N X.env.scope scope own)
    (hg : ∀ (s : Shared) (H : Hp) (C : Addr) (cl : List (Str × Addr)) (fp : List Addr), PG (X.blk s H scope (compEnvC scope cl C X.env) fp) tg g) (ht : ∀ (s : Shared) (H : Hp) (C : Addr) (cl : List (Str × Addr)) (fp : List Addr), PTs (X.blk s H scope (compEnvC scope cl C X.env) fp) ifs tt)
    (hk : ∀ (s : Shared) (H : Hp) (C : Addr) (cl : List (Str × Addr)) (fp : List Addr), PE (X.blk s H scope (compEnvC scope cl C X.env) fp) kx tk)
    (he : ∀ (s : Shared) (H : Hp) (C : Addr) (cl : List (Str × Addr)) (fp : List Addr), PE (X.blk s H scope (compEnvC scope cl C X.env) fp) vx tv) (hs : ∀ x, foldedSetIterable iter X.env x = pure x := by intro _; rfl) :
    PS X (.Assign [.Name y py] (.DictComp kx vx [⟨tg, iter, ifs, 0⟩] scope pos) spos) (tAsg (tDx X wi g tt tk tv (own.map (·.2))) (gName i)) := by
  refine ⟨fun pins s σ H D I h => ?_⟩
  rw [exec_Assign_Name_used _ _ _ _ hsw]
  refine wpAny_bind (wpAny_standAt (wpAny_bind ?_))
  show wpAny _ X.A (do let _ ← comprehension (.DictComp kx vx [⟨tg, iter, ifs, 0⟩] scope pos) scope X.env (firstIterPos [⟨tg, iter, ifs, 0⟩] pos) newDict false (eval iter X.env) (some (assign (.Name y py) X.env))) _ _ s
  have h : tDx X wi g tt tk tv (own.map (·.2)) σ H (fun x H1 => gName i x σ H1 D.nx) := h
  refine wpAny_bind (thn (dx_core (Qf := fun _ s' => SP X pins D .next s') hu hc hN I hi ok hg ht hk he hs h fun L C s' m H' I' q hn f => ?_) fun _ s' hq => wpAny_pure (wpAny_pure hq))
  show wpAny _ _ (assign (.Name y py) X.env (.ref L)) _ _ _
  refine wpAny_assign_Name (store_ok2 (v := V.ref L) I' hN hy (.inl hyl) rfl (fun s2 I2 ⟨a, sb, ha⟩ => ?_) (.inr hyl))
  obtain ⟨f0, f1, f2, f3, f4, f5⟩ := f
  have haC : C ≠ a := by
    rcases ha with z | z
    · rw [z]; exact f1
    · exact fun e => f4 y a z e.symm
  refine ⟨m, hn.sameBut sb haC, fun h3 sb3 => ?_⟩
  exact ⟨_, H', I2.turned (t' := s2.toks) (fun b o hb e => (sb3.2 b hb).trans e) f0 f1 f3 f4 f5, q⟩
theorem swD_true {kx vx : Expr} {gs : List Comprehension} {scope : Scope} {pos py : Pos} {y : Str} {l : Nat} {env : Env} (hk : env.scope.kind = .function) (hy : env.scope.names.lookup y = some .local) (hl : (py.line == pos.line) = true)
    (ha : (scope.names.any fun (n, k) => n == y && (k == .local || k == .cell)) = false) : swapsWith (.DictComp kx vx gs scope pos) (some (.Name y py)) l env = pure true := by
  have ky : env.kindOf y = some .local := hy
  have hb : env.blockKind = .function := by unfold Env.blockKind; rw [hk]; rfl
  unfold swapsWith
  simp only [hb, ky, ha, Expr.pos, hl]
  rfl
end
end DL
namespace DL
open PySem PySem.Spec PyProof.Rows L2
section
variable {X : Cx} {pos : Pos} {e a b c : Expr} {f fa fb fk fv : Ev} {fc : Et} {fr : Bool} {it : Ea} {p : Pat}
theorem RelE.newO {K : KW} {as : List Addr} {O : Addr → Prop} {σ : L2.St} {H : Hp} {ρ : List Slot} {S : List D} {p : Addr} {ob : HO} (mo : Mut (some ob)) (R : RelE K as O σ H ρ S) (hp : H p = none) : RelE K as (ad O p) σ (upd H p ob) ρ S := by
  have sm := same_new (o := ob) hp
  have kk : Kp (ad O p) H (upd H p ob) := fun a u _ e => sm a u e
  have m1 : ∀ a, ad O p a → Nt (H a) := fun a o => by
    rcases o with o | o
    · exact R.wf.nt a o
    · rw [o, hp]; exact nt_none
  have rp : ∀ {v : V} {d : D}, Rp K as O H v d → Rp K as (ad O p) (upd H p ob) v d := fun r => Rp.kp m1 kk _ _ (Rp.ad hp _ _ r)
  have cr : ∀ {a : Addr} {d : D}, CellR K as O H a d → CellR K as (ad O p) (upd H p ob) a d := fun q => by
    cases q with
    | lst h r => exact .lst (sm _ _ h) (RpL.kp m1 kk _ _ (RpL.ad hp _ _ r))
    | dct h r t9 e9 k9 => exact .dct (sm _ _ h) (RpL.kp m1 kk _ _ (RpL.ad hp _ _ r)) (RpL.kp m1 kk _ _ (RpL.ad hp _ _ t9)) e9 k9
    | kd h e9 t9 => exact .kd (sm _ _ h) e9 (RpL.kp m1 kk _ _ (RpL.ad hp _ _ t9))
  refine ⟨⟨fun a m => .inl (R.wf.sub a m), fun a o => ?_, R.wf.nd⟩, ⟨R.cells.len, fun i a d e1 e2 => cr (R.cells.ix i a d e1 e2)⟩, R.len, fun i d h => ?_, fun i d h => ?_⟩
  · rcases o with o | o
    · rw [Same.eq sm (R.wf.trk o)]; exact R.wf.mt a o
    · rw [o, upd_same]; exact mo
  · obtain ⟨v, h2, r⟩ := R.val i d h
    exact ⟨v, h2, rp r⟩
  · obtain ⟨a, h2, n, c⟩ := R.own i d h
    exact ⟨a, h2, n, cr c⟩
structure CompD (K : KW) (as : List Addr) (O : Addr → Prop) (σ : L2.St) (H1 : Hp) (q : Addr) (vs : List Nat) (ρ : List Slot) (H : Hp) (kvs : List (D × D)) (S : List D) : Prop where
  rel : RelE K as (ad O q) (wipe σ vs) H (wipeD ρ vs) S
  cell : CellR K as (ad O q) H q (.dct kvs)
  kept : ∀ a u, a ∉ as → a ≠ q → H1 a = some u → H a = some u
section
variable {K : KW} {as : List Addr} {O : Addr → Prop} {σ : L2.St} {H0 H1 H H' : Hp} {q : Addr} {vs : List Nat} {ρ : List Slot} {kvs : List (D × D)} {S S' : List D}
theorem CompD.start {o : Obj} (R : RelE K as O σ H1 ρ S) (hp : H1 q = none) : CompD K as O σ H1 q vs ρ (upd H1 q (DictO K.w q o [])) [] S :=
  ⟨(RelE.newO (ob := DictO K.w q o []) trivial R hp).wipe vs, .dct upd_same .nil .nil rfl rfl, fun a u _ n h => (upd_ne n).trans h⟩
theorem CompD.step (C : CompD K as O σ H1 q vs ρ H kvs S) (hq : q ∉ as) (s : Stp as H H') (c : Cells K as (ad O q) H' S') : CompD K as O σ H1 q vs ρ H' kvs S' :=
  ⟨C.rel.step s c, C.cell.stp C.rel.wf s hq, fun a u n m e => s a u n (C.kept a u n m e)⟩
theorem CompD.push {o' : Obj} {xs : List XE} {bb : Addr} {k vd : D} {v : V} (C : CompD K as O σ H1 q vs ρ H kvs S) (R : RelE K as O σ H1 ρ S') (hp : H1 q = none)
    (rk : RpL K as (ad O q) H (xs.map fun x => V.ref x.2.1) (kvs.map (·.1))) (rv : RpL K as (ad O q) H (xs.map (·.2.2)) (kvs.map (·.2))) (ek : xs.map (·.1) = kvs.map fun kv => keyD kv.1) (ok : keysOk kvs = true)
    (rb : Rp K as (ad O q) H (.ref bb) k) (r : Rp K as (ad O q) H v vd) (kb : (isTupD k && kyD 7 k) = true) :
    CompD K as O σ H1 q vs ρ (upd H q (DictO K.w q o' (putX xs (keyD k) bb v))) (stD kvs k vd) S := by
  have hq : q ∉ as := fun m => R.wf.trk (R.wf.sub q m) hp
  have kk : Kp (ad O q) H (upd H q (DictO K.w q o' (putX xs (keyD k) bb v))) := fun a u n e => by
    rw [upd_ne (fun z => n (by rw [z]; exact .inr rfl))]
    exact e
  refine ⟨C.rel.growL (.inr rfl) hq (fun i d h e => ?_) trivial, put_cell upd_same (RpL.kp C.rel.wf.nt kk _ _ rk) (RpL.kp C.rel.wf.nt kk _ _ rv) ek ok (Rp.kp C.rel.wf.nt kk _ _ rb) (Rp.kp C.rel.wf.nt kk _ _ r) kb, fun a u n m e => (upd_ne m).trans (C.kept a u n m e)⟩
  obtain ⟨h1, h2⟩ := wipeD_some (x := .own d) (fun z => nomatch z) h
  rw [wipe_out h2] at e
  exact own_ne R hp i d h1 e
end
def dcompL (p : Pat) (c : Et) (fk fv : Ev) (ρ : List Slot) : List D → List (D × D) → List D → Option (List (D × D) × List D)
  | [], acc, S => some (acc, S)
  | x :: xs, acc, S => (binds p x).bind fun l => (c (putD ρ l) S).bind fun b => if b.1 = true then (fk (putD ρ l) b.2).bind fun k => (fv (putD ρ l) k.2).bind fun v =>
      if (isTupD k.1 && kyD 7 k.1) = true then dcompL p c fk fv ρ xs (stD acc k.1 v.1) v.2 else none
    else dcompL p c fk fv ρ xs acc b.2
def eDComp (p : Pat) (it : Ea) (c : Et) (fk fv : Ev) (vs : List Nat) : Ev := fun ρ S => (it ρ S).bind fun q => if q.1.length ≤ 16777216 then (dcompL p c fk fv (wipeD ρ vs) q.1 [] q.2).bind fun t => some (.dct t.1, t.2) else none
theorem stD_len (kvs : List (D × D)) (k v : D) : (stD kvs k v).length ≤ kvs.length + 1 := by
  unfold stD
  split
  · rw [List.length_map]; omega
  · rw [List.length_append]; exact Nat.le_refl _
theorem dcomp_weak {σ : L2.St} {H0 : Hp} {Q : VK} {vs : List Nat} (hv : p.ixs.all (fun i => decide (i ∈ vs)) = true) (h : tOfF (kw X) (eDComp p it fc fk fv vs) σ H0 Q) : tDx X (tOfI (kw X) it) (gOf (kw X) p) (tOfT (kw X) fc) (tOf (kw X) fk) (tOf (kw X) fv) vs σ H0 Q := by
  obtain ⟨as, O, ρ, S, d, S', R, hf, k⟩ := h
  unfold eDComp at hf
  obtain ⟨⟨ds, S1⟩, h1, hf⟩ := Option.bind_eq_some_iff.mp hf
  split at hf
  case isFalse => cases hf
  case isTrue hl =>
  obtain ⟨⟨ys, S2⟩, h2, hf⟩ := Option.bind_eq_some_iff.mp hf
  cases hf
  refine ⟨as, O, ρ, S, ds, S1, R, h1, fun J H1 s1 c1 wk D o hD => ?_⟩
  have R1 := R.step s1 c1
  have hDas : D ∉ as := fun m => R1.wf.trk (R1.wf.sub D m) hD
  have hD0 : H0 D = none := by
    cases z : H0 D with
    | none => rfl
    | some u => rw [s1 D u hDas z] at hD; cases hD
  refine ⟨fun i m H => m = ds.length - i ∧ i ≤ ds.length ∧ ∃ acc S, acc.length ≤ i ∧ CompD (kw X) as O σ H1 D vs ρ H acc S ∧ dcompL p fc fk fv (wipeD ρ vs) (ds.drop i) acc S = some (ys, S2), ⟨ds.length, rfl, Nat.zero_le _, [], S1, Nat.zero_le _, CompD.start R1 hD, h2⟩, ?_⟩
  rintro i m H ⟨rfl, hi, acc, Sx, ha, C, hc⟩
  have kp : Kp O H1 H := fun a u n e => C.kept a u (fun m => n (R1.wf.sub a m)) (fun z => by rw [z, hD] at e; cases e) e
  obtain ⟨wstop, wgo⟩ := wk i H kp
  by_cases hlt : i < ds.length
  · rw [List.drop_eq_getElem_cons hlt] at hc
    unfold dcompL at hc
    obtain ⟨l, hb, hc⟩ := Option.bind_eq_some_iff.mp hc
    obtain ⟨⟨b, S3⟩, hb2, hc⟩ := Option.bind_eq_some_iff.mp hc
    obtain ⟨go, yld⟩ := wgo ds[i] (List.getElem?_eq_getElem hlt)
    refine .inr ⟨go, fun H' => ∃ acc S, acc.length ≤ i + 1 ∧ CompD (kw X) as O σ H1 D vs ρ H' acc S ∧ dcompL p fc fk fv (wipeD ρ vs) (ds.drop (i + 1)) acc S = some (ys, S2), fun H' h' => ⟨ds.length - (i + 1), by omega, rfl, hlt, h'⟩, fun x H2 y => ?_⟩
    obtain ⟨sm, rx⟩ := yld x H2 y
    have C2 := C.step hDas (Same.stp sm) (C.rel.cells.same C.rel.wf sm)
    have rx2 : Rp (kw X) as (ad O D) H2 x ds[i] := Rp.anti (fun a o => o.elim .inl fun z => .inr (z ▸ hD)) _ _ rx
    refine ⟨as, _, ds[i], l, rx2, hb, fun vl rv => ⟨?_, ?_⟩⟩
    · rw [wipe_put, wipe_idem]
      rw [rv.ix, binds_ix _ _ _ hb]
      intro j hj
      exact of_decide_eq_true (List.all_eq_true.mp hv j hj)
    · have R2 := C2.rel.put rv
      refine ⟨as, _, putD (wipeD ρ vs) l, Sx, b, S3, R2, hb2, fun H3 s3 c3 => ?_⟩
      have C3 := C2.step hDas s3 c3
      cases b with
      | false => exact ⟨acc, S3, Nat.le_succ_of_le ha, C3, hc⟩
      | true =>
        rw [if_pos rfl] at hc
        obtain ⟨⟨d4, S4⟩, h4, hc⟩ := Option.bind_eq_some_iff.mp hc
        obtain ⟨⟨d5, S5⟩, h5, hc⟩ := Option.bind_eq_some_iff.mp hc
        split at hc
        case isFalse => cases hc
        case isTrue kb =>
        have kb : (isTupD d4 && kyD 7 d4) = true := kb
        have R3 := R2.step s3 c3
        refine ⟨as, _, putD (wipeD ρ vs) l, S3, d4, S4, R3, h4, fun y H4 s4 c4 ry => ?_⟩
        have C4 := C3.step hDas s4 c4
        have R4 := R3.step s4 c4
        refine ⟨as, _, putD (wipeD ρ vs) l, S4, d5, S5, R4, h5, fun z H5 s5 c5 rz => ?_⟩
        have C5 := C4.step hDas s5 c5
        have ry5 := ry.stp C4.rel.wf s5
        have kb2 := kb
        rw [Bool.and_eq_true] at kb2
        obtain ⟨b', rfl⟩ := rp_tup_ref kb2.1 ry5
        cases C5.cell with
        | @dct ob xs _ hp t tv ek ok =>
        have xl : xs.length = acc.length := by
          have := congrArg List.length ek
          rwa [List.length_map, List.length_map] at this
        have hl' : ds.length ≤ 16777216 := hl
        refine ⟨as, _, D, b', ob, xs, acc.map (·.1), d4, rfl, rfl, hp, t, by rw [ek, List.map_map]; rfl, keysOk_ky ok, ry5, kb2.2, by rw [sizeLine_eq]; omega, fun o' => ?_⟩
        refine ⟨stD acc d4 d5, S5, by have := stD_len acc d4 d5; omega, C5.push R1 hD t tv ek ok ry5 rz kb, hc⟩
  · have e : i = ds.length := by omega
    subst e
    rw [List.drop_length] at hc
    unfold dcompL at hc
    cases hc
    refine .inl ⟨wstop rfl, k D H hD0 (s1.trans fun a u n e => ?_) C.rel.cells C.cell⟩
    exact C.kept a u n (fun z => by rw [z, hD] at e; cases e) e
section
variable {tg iter kx vx : Expr} {ifs : List Expr} {scope : Scope} {own : List (Str × Nat)} {vs : List Nat}
theorem mf_dcomp (hu : X.A.units + 64 < cLine) (hc : X.calm = true) (hN : X.N.Nodup) (hi : PI X tg iter (tOfI (kw X) it)) (ok : BlkOk X.N X.env.scope scope own)
    (hg : ∀ (s : Shared) (H : Hp) (C : Addr) (cl : List (Str × Addr)) (fp : List Addr), PG (X.blk s H scope (compEnvC scope cl C X.env) fp) tg (gOf (kw X) p))
    (ht : ∀ (s : Shared) (H : Hp) (C : Addr) (cl : List (Str × Addr)) (fp : List Addr), PTs (X.blk s H scope (compEnvC scope cl C X.env) fp) ifs (tOfT (kw X) fc))
    (hk : ∀ (s : Shared) (H : Hp) (C : Addr) (cl : List (Str × Addr)) (fp : List Addr), PE (X.blk s H scope (compEnvC scope cl C X.env) fp) kx (tOf (kw X) fk))
    (he : ∀ (s : Shared) (H : Hp) (C : Addr) (cl : List (Str × Addr)) (fp : List Addr), PE (X.blk s H scope (compEnvC scope cl C X.env) fp) vx (tOf (kw X) fv))
    (ev : own.map (·.2) = vs := by rfl) (hv : p.ixs.all (fun i => decide (i ∈ vs)) = true := by rfl) (hs : ∀ x, foldedSetIterable iter X.env x = pure x := by intro _; rfl) :
    PE X (.DictComp kx vx [⟨tg, iter, ifs, 0⟩] scope pos) (tOfF (kw X) (eDComp p it fc fk fv vs)) :=
  (pe_dx hu hc hN hi ok hg ht hk he hs).weak fun σ H Q h => by
    rw [ev]
    exact dcomp_weak hv h
theorem ms_setDx {i : Nat} {y : Str} {py spos : Pos} (hu : X.A.units + 64 < cLine) (hc : X.calm = true) (hN : X.N.Nodup) (hy : X.N[i]? = some y) (hyl : X.env.scope.names.lookup y = some .local)
    (hsw : swapsWith (.DictComp kx vx [⟨tg, iter, ifs, 0⟩] scope pos) (some (.Name y py)) spos.line X.env = pure true) (hi : PI X tg iter (tOfI (kw X) it)) (ok : BlkOk X.N X.env.scope scope own)
    (hg : ∀ (s : Shared) (H : Hp) (C : Addr) (cl : List (Str × Addr)) (fp : List Addr), PG (X.blk s H scope (compEnvC scope cl C X.env) fp) tg (gOf (kw X) p))
    (ht : ∀ (s : Shared) (H : Hp) (C : Addr) (cl : List (Str × Addr)) (fp : List Addr), PTs (X.blk s H scope (compEnvC scope cl C X.env) fp) ifs (tOfT (kw X) fc))
    (hk : ∀ (s : Shared) (H : Hp) (C : Addr) (cl : List (Str × Addr)) (fp : List Addr), PE (X.blk s H scope (compEnvC scope cl C X.env) fp) kx (tOf (kw X) fk))
    (he : ∀ (s : Shared) (H : Hp) (C : Addr) (cl : List (Str × Addr)) (fp : List Addr), PE (X.blk s H scope (compEnvC scope cl C X.env) fp) vx (tOf (kw X) fv))
    (ev : own.map (·.2) = vs := by rfl) (hv : p.ixs.all (fun i => decide (i ∈ vs)) = true := by rfl) (hs : ∀ x, foldedSetIterable iter X.env x = pure x := by intro _; rfl) :
    PS X (.Assign [.Name y py] (.DictComp kx vx [⟨tg, iter, ifs, 0⟩] scope pos) spos) (tOfS fr (kw X) (sSet i (eDComp p it fc fk fv vs))) :=
  (ps_setDx hu hc hN hy hyl hsw hi ok hg ht hk he hs).weak fun D σ H h => by
    rw [ev]
    obtain ⟨as, O, B, G, ρ, S, o, R, hf, k⟩ := h
    unfold sSet at hf
    obtain ⟨⟨d1, S1⟩, h1, hf⟩ := Option.bind_eq_some_iff.mp hf
    cases hf
    refine dcomp_weak hv ⟨as, _, ρ, S, d1, S1, R.e, h1, fun q H1 n s1 c1 r1 => ?_⟩
    exact k _ _ ((R.step s1 (c1.anti ad_sub)).set i (r1.val (R.wf.nel n) ad_sub))
end
mutual
def noTx : NestedKey → Bool
  | .text _ => false
  | .tup ks => noTxs ks
  | _ => true
def noTxs : List NestedKey → Bool
  | [] => true
  | k :: ks => noTx k && noTxs ks
end
mutual
def hashN : NestedKey → Int
  | .none => reduceHash 0xFCA86420
  | .num i => hashInt i
  | .text _ => 0
  | .tup ks => reduceHash (Builtin.Tuple.tupleHashOf (hashNs ks))
def hashNs : List NestedKey → List Int
  | [] => []
  | k :: ks => hashN k :: hashNs ks
end
mutual
theorem hash_eq (w : World) : ∀ k : NestedKey, noTx k = true → NestedKey.hash w k = hashN k
  | .none, _ => by simp [NestedKey.hash, hashN]
  | .num i, _ => by simp [NestedKey.hash, hashN]
  | .text _, h => by simp [noTx] at h
  | .tup ks, h => by
    have := hashes_eq w ks (by simpa [noTx] using h)
    rw [NestedKey.hash, hashN, this]
theorem hashes_eq (w : World) : ∀ ks : List NestedKey, noTxs ks = true → NestedKey.hashes w ks = hashNs ks
  | [], _ => by simp [NestedKey.hashes, hashNs]
  | k :: ks, h => by
    have h : noTx k = true ∧ noTxs ks = true := by simpa [noTxs] using h
    rw [NestedKey.hashes, hashNs, hash_eq w k h.1, hashes_eq w ks h.2]
end
def apartD (kvs : List (D × D)) : Bool := kvs.all (fun p => noTx (keyD p.1)) && decide ((kvs.map fun p => hashN (keyD p.1)).Nodup)
def dCopy : D → Option D
  | .dct kvs => if apartD kvs = true then some (.dct kvs) else none
  | _ => none
def rDCopy (X : Cx) : List V → Hp → VK → Prop := fun vs H Q => ∃ as O x a ob xs kvs, vs = [x] ∧ x = .ref a ∧ Wf as O H ∧ H a = some (DictO X.w a ob xs) ∧ RpL (kw X) as O H (xs.map fun x => V.ref x.2.1) (kvs.map (·.1)) ∧
  (xs.map (·.1)) = (kvs.map fun kv => keyD kv.1) ∧ keysOk kvs = true ∧ apartD kvs = true ∧ ∀ p o, H p = none → Q (.ref p) (upd H p (DictO X.w p o xs))
theorem cr_dcopy (hu : X.A.units + 64 < cLine) : CallR X (.type "dict") (rDCopy X) := by
  intro pins s σ H vs us Q I r q
  obtain ⟨as, O, x, a, ob, xs, kvs, rfl, rfl, wf, hq, rk, ek, ok, ap, k⟩ := q
  obtain ⟨u, rfl, rx⟩ := vals1 r
  obtain rfl : u = Value.ref a := rx
  obtain ⟨hd, hz, ys, xy, dd⟩ := dctOf I hq rk (by rw [ek, List.map_map]; rfl) (keysOk_ky ok)
  refine callType_codes (Q₁ := fun obj s₁ => obj = .ref s.heap.objs.size ∧ s₁ = { s with heap := s.heap.push { cls := .type "dict", data := .dict #[] } }) PySem.F.kt_called_dict (PySem.F.kt_typeCall_dict_1 _) PySem.F.entry_dict_init (kt_code_dict_new _ ⟨rfl, rfl⟩) ?_
  rintro obj s₁ ⟨rfl, rfl⟩
  have hnew : (s.heap.push { cls := .type "dict", data := .dict #[] }).DictOfH (nestedKind X.prog X.w) s.heap.objs.size [] := Heap.DictOfH.new s.heap
  have I2 : Inv X pins σ H { s with heap := s.heap.push { cls := .type "dict", data := .dict #[] } } := I.kept (t' := s.toks) fun b ob q => Heap.get?_push_of_some _ q
  obtain ⟨_, _, ys2, xy2, dd2⟩ := dctOf I2 hq rk (by rw [ek, List.map_map]; rfl) (keysOk_ky ok)
  have hdo : s.heap.objs.size ≠ a := by
    obtain ⟨_, _, _, hg, _⟩ := dd
    exact fun e => absurd (Heap.lt_size hg) (by rw [e]; exact Nat.lt_irrefl _)
  refine ⟨hnew.typeIs, PySem.F.args_dict_init_2 _ _, ?_⟩
  unfold Builtin.«dict.__init__»
  refine wpAny_bind ?_
  unfold Builtin.Dict.selfAndRest
  refine wpAny_bind (wpAny_notOrdered_dict hnew.typeIs ?_)
  show wpAny _ _ (pure (s.heap.objs.size, [Value.ref a])) _ _ _
  refine wpAny_pure ?_
  show wpAny _ _ (Builtin.Dict.updateFrom "dict.__init__" s.heap.objs.size (.ref a) [] .none) _ _ _
  have hl2 := xy2.length
  have hap : (ys2.map fun x => (nestedKind X.prog X.w).hash x.1).Nodup := by
    have ap' := ap
    unfold apartD at ap'
    rw [Bool.and_eq_true] at ap'
    have nd := of_decide_eq_true ap'.2
    have e1 : (ys2.map fun x => (nestedKind X.prog X.w).hash x.1) = (ys2.map (·.1)).map (NestedKey.hash X.w) := by rw [List.map_map]; rfl
    rw [e1, xy2.keys, ek, List.map_map]
    refine (List.map_congr_left fun p hp => ?_) ▸ nd
    exact (hash_eq X.w _ (List.all_eq_true.mp ap'.1 p hp)).symm
  have hn : (ys2.map (·.1)).Nodup := dd2.nodup
  refine updateFrom_dictH (knd := nestedKind X.prog X.w) .none (show X.A.units + 1 + 1 + 8 < cLine by omega) hdo hd hnew dd2 (.inr ⟨keyed_apart nestedKind_stays dd2, hap⟩) (by simp; omega) fun h' hd' _ hs' => ?_
  rw [storedAllH_nil_of_nodup ys2 hn] at hd'
  have hb : (s.heap.objs.size == sysModules) = false := beq_eq_false_iff_ne.mpr (Ne.symm (Nat.ne_of_lt (Inv.big I)))
  obtain ⟨o', new⟩ : ∃ o', DictRel X.w h' s.heap.objs.size o' xs := DictRel.of hb hz xy2 hd'
  refine ⟨rfl, .ref s.heap.objs.size, _, I.laid (t' := s.toks) (fun b o q => ?_) (Nat.le_refl _) new.ok, rfl, k _ o' (I.hok.fresh (Nat.le_refl _))⟩
  exact (hs'.2 b (Nat.ne_of_lt (Heap.lt_size q))).trans (Heap.get?_push_of_some _ q)
theorem dcopy_weak {σ : L2.St} {H : Hp} {Q : VK} (q : tOfF (kw X) (eUn dCopy fa) σ H Q) : tCB (rDCopy X) (tCons (tOfB (kw X) fa) tNil) σ H Q := by
  obtain ⟨as, O, ρ, S, d, S', R, hf, k⟩ := q
  unfold eUn at hf
  obtain ⟨⟨d1, S1⟩, h1, hf⟩ := Option.bind_eq_some_iff.mp hf
  obtain ⟨r, h3, hf⟩ := Option.bind_eq_some_iff.mp hf
  cases hf
  refine ⟨as, O, ρ, S, d1, S1, R, h1, fun v H1 s1 c1 r1 => ?_⟩
  have R1 := R.step s1 c1
  obtain ⟨kvs, rfl⟩ : ∃ kvs, d1 = .dct kvs := by
    cases d1 <;> first | exact ⟨_, rfl⟩ | cases h3
  dsimp only [dCopy] at h3
  split at h3
  case isFalse => cases h3
  case isTrue ap =>
  cases h3
  obtain ⟨a, ob, xs, rfl, hq, rk, rv, ek, ok⟩ := r1.dct
  refine ⟨as, O, _, a, ob, xs, kvs, rfl, rfl, R1.wf, hq, rk, ek, ok, ap, fun p o hp => ?_⟩
  have q := new_cells (o := DictO X.w p o xs) R1.wf c1 hp
  exact k p _ (R.free s1 c1 hp) (s1.trans (Same.stp (same_new hp))) q.1 (.dct upd_same (q.2 _ _ rk) (q.2 _ _ rv) ek ok)
theorem mf_dcopy {x : Str} {p : Pos} (hu : X.A.units + 64 < cLine) (hg : Gl X x) (hm : X.mg x = none) (hv : bootBuiltins x = some (.type "dict")) (ha : PE X a (tOfB (kw X) fa)) (hn : x ≠ "__name__" := by decide) (hdb : (x == ("__debug__" : Str)) = false := by decide)
    (he : starEach [a] X.env = (false, eval a X.env) :: starEach [] X.env := by rfl) : PE X (.Call (.Name x p) [a] [] pos) (tOfF (kw X) (eUn dCopy fa)) := (pe_callTy (cr_dcopy hu) hg hm hv (pa_cons ha pa_nil he) hn hdb he rfl).weak fun _ _ _ => dcopy_weak
def eDisp (fk fv : Ev) : Ev := fun ρ S => (fk ρ S).bind fun k => (fv ρ k.2).bind fun v => if (isTupD k.1 && kyD 7 k.1) = true then some (.dct [(k.1, v.1)], v.2) else none
theorem mf_disp {dpos : Pos} (hu : X.A.units + 64 < cLine) (hk : PE X a (tOf (kw X) fk)) (hv : PE X b (tOf (kw X) fv))
    (hsh : (evalEachOpt [some a] X.env).zip ((evalEach [b] X.env).map fun v => do let x ← v; standAt dpos; pure x) = [((eval a X.env), (do let x ← eval b X.env; standAt dpos; pure x))].map fun p => (some p.1, p.2) := by rfl) :
    PE X (.Dict [some a] [b] dpos) (tOfF (kw X) (eDisp fk fv)) := by
  refine ⟨fun pins s σ H Q I h => ?_⟩
  obtain ⟨as, O, ρ, S, d, S', R, hf, k⟩ := h
  unfold eDisp at hf
  obtain ⟨⟨d1, S1⟩, h1, hf⟩ := Option.bind_eq_some_iff.mp hf
  obtain ⟨⟨d2, S2⟩, h2, hf⟩ := Option.bind_eq_some_iff.mp hf
  split at hf
  case isFalse => cases hf
  case isTrue kb =>
  cases hf
  dsimp only at k
  have kb : (isTupD d1 && kyD 7 d1) = true := kb
  have kb2 := kb
  rw [Bool.and_eq_true] at kb2
  rw [arm_eval_Dict, hsh, dictDisplay_pairs _ (by simp) (by simp)]
  refine wpAny_bind (wpAny_standAt (wpAny_bind ?_))
  have hb : (s.heap.objs.size == sysModules) = false := beq_eq_false_iff_ne.mpr (Ne.symm (Nat.ne_of_lt (Inv.big I)))
  have hp : H s.heap.objs.size = none := I.hok.fresh (Nat.le_refl _)
  obtain ⟨o, ho⟩ := dict_empty (P := X.prog) (w := X.w) s.heap (Inv.big I)
  have I1 := I.laid (a := s.heap.objs.size) (o := DictO X.w s.heap.objs.size o []) (t' := s.toks) (fun _ _ q => Heap.get?_push_of_some _ q) (Nat.le_refl _) (ho _)
  have R0 := RelE.newO (ob := DictO X.w s.heap.objs.size o []) trivial R hp
  have hpas : s.heap.objs.size ∉ as := fun m => R.wf.trk (R.wf.sub _ m) hp
  refine wpAny_subDictH (knd := nestedKind X.prog X.w) (show X.A.units + 8 < cLine by omega) (by simp) ?_
  show wpAny _ _ (eval a X.env >>= _) _ _ _
  refine wpAny_bind (thn (hk.run pins _ σ _ (fun v H1 => Stp as (upd H s.heap.objs.size (DictO X.w s.heap.objs.size o [])) H1 ∧ Cells (kw X) as (ad O s.heap.objs.size) H1 S1 ∧ Rp (kw X) as (ad O s.heap.objs.size) H1 v d1) I1 ⟨as, _, ρ, S, d1, S1, R0, h1, fun v H' s c r => ⟨s, c, r⟩⟩) fun u s1 ⟨v, H1, I2, rv, s1', c1, r1⟩ => ?_)
  have R1 := R0.step s1' c1
  refine wpAny_bind (wpAny_holding ?_)
  show wpAny _ _ (eval b X.env >>= _) _ _ _
  refine wpAny_bind (thn (hv.run pins _ σ _ (fun v H2 => Stp as H1 H2 ∧ Cells (kw X) as (ad O s.heap.objs.size) H2 S2 ∧ Rp (kw X) as (ad O s.heap.objs.size) H2 v d2) I2 ⟨as, _, ρ, S1, d2, S2, R1, h2, fun v H' s c r => ⟨s, c, r⟩⟩) fun u2 s2 ⟨v2, H2, I3, rv2, s2', c2, r2⟩ => ?_)
  have R2 := R1.step s2' c2
  refine wpAny_bind (wpAny_standAt (wpAny_pure ?_))
  refine wpAny_bind (wpAny_holding (wpAny_pure (wpAny_pure ?_)))
  have r1' := r1.stp R1.wf s2'
  obtain ⟨b', rfl⟩ := rp_tup_ref kb2.1 r1'
  obtain rfl : u = Value.ref b' := rv
  have kk := key_is I3 7 _ d1 (.ref b') r1' kb2.2 rfl
  have hD2 : H2 s.heap.objs.size = some (DictO X.w s.heap.objs.size o []) := s2' _ _ hpas (s1' _ _ hpas upd_same)
  obtain ⟨_, _, ys, xy, dd⟩ := dctOf (as := as) (O := O) I3 hD2 (ds := []) .nil rfl (fun _ h => nomatch h)
  cases xy
  refine ⟨[(keyD d1, b', u2)], ⟨rfl, rfl, ⟨kk, Nat.le_succ_of_le (ky_depth 7 d1 kb2.2)⟩, trivial⟩, dd, fun h' tk hd' hs' => ?_⟩
  have hst : storedAllH [] [(keyD d1, b', u2)] = [(keyD d1, b', u2)] := rfl
  rw [hst] at hd'
  obtain ⟨o', new⟩ : ∃ o', DictRel X.w h' s.heap.objs.size o' [(keyD d1, b', v2)] := DictRel.of hb (by show 1 ≤ sizeLine; decide) (.cons rfl rfl rv2 .nil) hd'
  have he : ∃ o, h'.get? s.heap.objs.size = some o := by
    obtain ⟨o, _, _, h1, _⟩ := hd'
    exact ⟨o, h1⟩
  have I4 := d_write (t' := tk) I3 (by rw [hD2]; exact True.intro) hs' he (new.ok (P := X.prog) (H := upd H2 s.heap.objs.size (DictO X.w s.heap.objs.size o' [(keyD d1, b', v2)])))
  have kk2 : Kp (ad O s.heap.objs.size) H2 (upd H2 s.heap.objs.size (DictO X.w s.heap.objs.size o' [(keyD d1, b', v2)])) := fun c u n e => by
    rw [upd_ne (fun z => n (by rw [z]; exact .inr rfl))]
    exact e
  refine wpAny_pure ⟨.ref s.heap.objs.size, _, I4, rfl, k s.heap.objs.size _ hp (fun c u n e => ?_) ?_ ?_⟩
  · have hc : c ≠ s.heap.objs.size := fun z => by rw [z, hp] at e; cases e
    rw [upd_ne hc]
    exact s2' c u n (s1' c u n ((upd_ne hc).trans e))
  · refine ⟨c2.len, fun i a d e1 e2 => ?_⟩
    have na : a ≠ s.heap.objs.size := fun z => hpas (by rw [← z]; exact List.mem_of_getElem? e1)
    cases c2.ix i a d e1 e2 with
    | lst h r => exact .lst ((upd_ne na).trans h) (RpL.kp R2.wf.nt kk2 _ _ r)
    | dct h r t e k => exact .dct ((upd_ne na).trans h) (RpL.kp R2.wf.nt kk2 _ _ r) (RpL.kp R2.wf.nt kk2 _ _ t) e k
    | kd h e t => exact .kd ((upd_ne na).trans h) e (RpL.kp R2.wf.nt kk2 _ _ t)
  · exact .dct upd_same (.cons (Rp.kp R2.wf.nt kk2 _ _ r1') .nil) (.cons (Rp.kp R2.wf.nt kk2 _ _ r2) .nil) rfl (by simp [keysOk, kb2.1, kb2.2])
end
def dNotB : D → D → Option D
  | .bl a, .bl b => some (.bl (!decide (a = b)))
  | _, _ => none
theorem od_notB {X : Cx} : OpR X (compareOp .IsNot) (r2D (kw X) dNotB) := by
  intro pins s σ H x y v u Q I rx ry q
  obtain ⟨as, O, d, e, r, w, rd, re, hg, k⟩ := q
  unfold dNotB at hg
  split at hg
  · rename_i a b
    cases hg
    have e1 : x = .bl a := RpB.bl rd
    have e2 : y = .bl b := RpB.bl re
    subst e1 e2
    exact op_notBl pins s σ H _ _ v u Q I rx ry ⟨a, b, rfl, rfl, k _ H (Same.refl H) (.bl _)⟩
  · cases hg
end DL
namespace DL
open PySem PySem.Spec PyProof.Rows L2
section
variable {prog : Program} {w : World} {A : Around} {E : Value → Shared → Prop} {s : Shared} {a : Addr} {xs : Array (Int × Tok)}
theorem max_tup {Q : Value → Shared → Prop} (hh : A.handled = none) (hT : s.heap.IsTuple a (intItems xs)) (hne : 0 < xs.size)
    (h : ∀ v h' tk, (intItems xs)[argBest (fun i j => decide (numAt xs i > numAt xs j)) (xs.size - 1)]? = some v → (∀ b o, s.heap.get? b = some o → h'.get? b = some o) → Q v { s with heap := h', toks := tk }) :
    wpAny (model prog w) A (call (.builtin "max") [.ref a]) Q E s := by
  have hlt : a < s.heap.objs.size := by obtain ⟨_, e, _⟩ := hT; exact Heap.lt_size e
  refine call_max_walk (wpAny_pyIter_tuple hT ?_)
  refine ⟨_, [_, a], [_], _, _, _, _, rfl, Walks.tuple (A := A.in1) hh _ a (Nat.ne_of_lt hlt) (intItems xs), ⟨⟨_, Heap.get?_push_size _ rfl, rfl, rfl⟩, hT.push _⟩, fun c hc => ?_, by simpa [intItems] using hne, CmpOf.ints_gt (numAt xs) (fun _ _ => intItems_at), fun v h' tk hP hk => ?_⟩
  · show c < (s.heap.push _).objs.size
    rw [Heap.size_push]
    rcases List.mem_cons.mp hc with rfl | hc
    · exact Nat.lt_succ_self _
    · rcases List.mem_cons.mp hc with rfl | hc
      · exact Nat.lt_succ_of_lt hlt
      · cases hc
  · refine h v h' tk (by simpa [intItems] using hP) fun b o e => ?_
    refine hk b o (fun hm => ?_) (Heap.get?_push_of_some _ e)
    rcases List.mem_cons.mp hm with e1 | hm
    · exact absurd (e1 ▸ Heap.lt_size e) (Nat.lt_irrefl _)
    · cases hm
end
def maxI : List Int → Option Int
  | [] => none
  | x :: xs => some (xs.foldl max x)
theorem foldl_max_ge : ∀ (xs : List Int) (x : Int), x ≤ xs.foldl max x ∧ ∀ y ∈ xs, y ≤ xs.foldl max x
  | [], x => ⟨Int.le_refl x, fun _ h => nomatch h⟩
  | z :: xs, x => by
    obtain ⟨h1, h2⟩ := foldl_max_ge xs (max x z)
    rw [List.foldl_cons]
    refine ⟨Int.le_trans (Int.le_max_left x z) h1, fun y hy => ?_⟩
    rcases List.mem_cons.mp hy with rfl | hy
    · exact Int.le_trans (Int.le_max_right x y) h1
    · exact h2 y hy
theorem foldl_max_mem : ∀ (xs : List Int) (x : Int), xs.foldl max x = x ∨ xs.foldl max x ∈ xs
  | [], x => .inl rfl
  | z :: xs, x => by
    rw [List.foldl_cons]
    rcases foldl_max_mem xs (max x z) with h | h
    · rw [h]
      by_cases e : x ≤ z
      · rw [Int.max_eq_right e]; exact .inr List.mem_cons_self
      · rw [Int.max_eq_left (by omega)]; exact .inl rfl
    · exact .inr (List.mem_cons_of_mem _ h)
theorem maxI_uniq {ns : List Int} {m k : Int} (h : maxI ns = some m) (k1 : k ∈ ns) (k2 : ∀ y ∈ ns, y ≤ k) : k = m := by
  cases ns with
  | nil => cases h
  | cons x xs =>
    cases h
    obtain ⟨h1, h2⟩ := foldl_max_ge xs x
    have a : k ≤ xs.foldl max x := by
      rcases List.mem_cons.mp k1 with rfl | k1
      · exact h1
      · exact h2 k k1
    have b : xs.foldl max x ≤ k := by
      rcases foldl_max_mem xs x with e | e
      · rw [e]; exact k2 x List.mem_cons_self
      · exact k2 _ (List.mem_cons_of_mem _ e)
    omega
def dMaxS : D → Option D
  | .lst xs => (intsD xs).bind fun is => (maxI is).map .int
  | .tup xs => (intsD xs).bind fun is => (maxI is).map .int
  | _ => none
theorem cd_maxS {X : Cx} (hc : X.calm = true) : CallR X (.builtin "max") (rC1 (kw X) dMaxS) := by
  intro pins s σ H xs us Q I r q
  obtain ⟨as, O, d, rr, x, rfl, w, rd, hg, k⟩ := q
  unfold dMaxS at hg
  split at hg
  · obtain ⟨is, h1, h2⟩ := Option.bind_eq_some_iff.mp hg
    obtain ⟨m, h3, h4⟩ := Option.map_eq_some_iff.mp h2
    subst h4
    obtain ⟨a, vs, rfl, h, t⟩ := rd.lst
    have e := rp_intsD t h1
    subst e
    refine cr_max hc pins s σ H _ us Q I r ⟨a, is, rfl, .inl (.inl h), ?_, fun j j1 j2 => ?_⟩
    · cases is with
      | nil => cases h3
      | cons _ _ => exact Nat.succ_pos _
    · rw [maxI_uniq h3 j1 j2]
      exact k _ H (Same.refl H) (.int _)
  · obtain ⟨is, h1, h2⟩ := Option.bind_eq_some_iff.mp hg
    obtain ⟨m, h3, h4⟩ := Option.map_eq_some_iff.mp h2
    subst h4
    obtain ⟨a, vs, rfl, h, t⟩ := rd.tup
    have e := rp_intsD t h1
    subst e
    obtain ⟨its, rv, ⟨o, ho, hcl, n, hd⟩, _⟩ := I.tuple h
    rw [Vals.ref1 r]
    obtain ⟨ys, e⟩ := (Vals.ints rv).allInts.items
    have hn : numsOf (intItems ys).toList = is := by rw [← e]; exact (Vals.ints rv).numsOf
    rw [nums_intItems] at hn
    subst hn
    have hT : s.heap.IsTuple a (intItems ys) := ⟨o, ho, hcl, n, by rw [hd, e]⟩
    have hsz : 0 < ys.size := by
      apply Nat.pos_of_ne_zero
      intro z
      have : ys.toList = [] := List.eq_nil_of_length_eq_zero (by simpa using z)
      rw [this] at h3
      cases h3
    refine max_tup (I.ok.hd hc) hT hsz fun v h' tk hv hk => ?_
    obtain ⟨t', rfl⟩ := intItems_at hv
    obtain ⟨q1, q2⟩ := argBest_gt (numAt ys) (ys.size - 1)
    have em : numAt ys (argBest (fun i j => decide (numAt ys i > numAt ys j)) (ys.size - 1)) = m := by
      refine maxI_uniq h3 ?_ fun y hy => ?_
      · rw [numAt_eq]; exact PySem.getD_mem (by rw [List.length_map, Array.length_toList]; omega)
      · obtain ⟨j, hj, rfl⟩ := mem_getD hy
        rw [List.length_map, Array.length_toList] at hj
        rw [← numAt_eq]; exact q2 j (by omega)
    refine ⟨.int _, H, I.kept hk, ⟨_, rfl⟩, ?_⟩
    rw [em]
    exact k _ H (Same.refl H) (.int _)
  · cases hg
end DL
namespace DL
open PySem PySem.Spec PyProof.Rows L2
open PySem.W (EachIs alike dataLt sortLe SortsAt)
def signs (x : Str) : List Str := x.cps.toList.map fun c => ⟨#[c]⟩
section
variable {P : Program} {w : World} {A : Around} {E : Value → Shared → Prop} {s : Shared}
theorem each_signs {x : Str} {acc : Array Value} (h : ItemsOf (SignAt x) acc x.cps.size) : EachIs (fun v (b : Str) => ∃ t, v = Value.str b t) acc.toList (signs x) := by
  have go : ∀ (vs : List Value) (cs : List Nat), vs.length = cs.length → (∀ (i : Nat) (v : Value), vs[i]? = some v → ∃ c u, cs[i]? = some c ∧ v = Value.str ⟨#[c]⟩ u) → EachIs (fun v (b : Str) => ∃ t, v = Value.str b t) vs (cs.map fun c => ⟨#[c]⟩) := by
    intro vs
    induction vs with
    | nil =>
      intro cs hl _
      cases cs with
      | nil => exact .nil
      | cons c cs => cases hl
    | cons v vs ih =>
      intro cs hl hv
      cases cs with
      | nil => cases hl
      | cons c cs =>
        obtain ⟨c', u, e, q⟩ := hv 0 v rfl
        have e : c = c' := by simpa using e
        subst e
        exact .cons ⟨u, q⟩ (ih cs (by simpa using hl) fun i v' h' => by
          obtain ⟨c', u', e', q'⟩ := hv (i + 1) v' (by simpa using h')
          exact ⟨c', u', by simpa using e', q'⟩)
  refine go acc.toList x.cps.toList (by rw [Array.length_toList, Array.length_toList]; exact h.1) fun i v hv => ?_
  obtain ⟨c, u, e, q⟩ := h.2 i v (by rw [← Array.getElem?_toList]; exact hv)
  exact ⟨c, u, by rw [Array.getElem?_toList]; exact e, q⟩
theorem gather_str {z : Str} {tk0 : Tok} {Q : List Value → Shared → Prop} (ah : A.handled = none) (zl : z.cps.size ≤ sizeLine)
    (hQ : ∀ (g : Heap) (k : Nat) (got : Array Value), (∀ b o, s.heap.get? b = some o → g.get? b = some o) → s.heap.objs.size < g.objs.size → ItemsOf (SignAt z) got z.cps.size → Q got.toList { s with heap := g, toks := k }) :
    wpAny (model P w) A (collect (.str z tk0)) Q E s := by
  unfold collect
  apply wpAny_bind
  apply wpAny_runValue
  apply codeAny_builtin F.entry_proto_collect
  rw [Around.under_plainId F.plain_proto_collect _]
  apply wpAny_bind (m := newList [])
  refine wpAny_newObj_type ?_
  apply wpAny_pure
  refine ⟨plainId_quiet F.plain_list_iadd _, ?_⟩
  apply codeAny_builtin F.entry_list_iadd
  rw [Around.under_plainId F.plain_list_iadd _]
  let n0 := s.heap.objs.size
  let G0 := s.heap.push { cls := .type "list", data := .seq ([] : List Value).toArray }
  have own : G0.get? n0 = some { cls := .type "list", data := .seq #[] 0 } := Heap.get?_push_size _ rfl
  have old : ∀ b o, s.heap.get? b = some o → G0.get? b = some o := fun b o e => Heap.get?_push_of_some _ e
  let R : Result → Shared → Prop := fun rr s' => rr = .ok (.ret (.ref n0)) ∧ ∃ (g : Heap) (k : Nat) (got : Array Value) (c : Nat), s' = { s with heap := g, toks := k } ∧ (∀ b o, s.heap.get? b = some o → g.get? b = some o) ∧
    g.get? n0 = some { cls := .type "list", dict := none, data := .seq got c, slots := #[] } ∧ ItemsOf (SignAt z) got z.cps.size
  have go := wpAny_extend_str (prog := P) (w := w) (A := A) (R := R) (s := { s with heap := G0 }) ah z tk0 n0 (.ref n0) 0 own (fun g k got c keep e hi => ⟨rfl, g, k, got, c, rfl, fun b o q => keep b o (Nat.ne_of_lt (Heap.lt_size q)) (old b o q), e, hi⟩) zl
  have fin : ∀ rr s', R rr s' → rr = .ok (.ret (.ref n0)) ∧ wpAny (model P w) A (load n0 >>= fun o => match o.data with
      | .seq xs _ => pure xs.toList
      | _ => unsupported "internal:collect") Q E s' := fun rr s' h => by
    obtain ⟨e, g, k, got, c, rfl, keep, q, hi⟩ := h
    exact ⟨e, wpAny_bind (wpAny_load q (wpAny_pure (hQ g k got keep (Heap.lt_size q) hi)))⟩
  refine wpAny_mono go (fun f s' h => ?_) (fun e s' h => absurd h.1 (by simp))
  cases f with
  | done f =>
    obtain ⟨e, q⟩ := fin _ _ h
    cases e
    exact q
  | again c =>
    refine ⟨h.1, codeAny_mono h.2 fun rr s'' hr => ?_⟩
    obtain ⟨e, q⟩ := fin _ _ hr
    subst e
    exact q
theorem sorted_str {x : Str} {t : Tok} {Q : Value → Shared → Prop} (hh : A.handled = none) (hn : x.cps.size ≤ 1000) (hu : A.units + 4 < cLine)
    (hQ : ∀ (g : Heap) (k : Nat) p (out : Array Value) (c : Nat), (∀ b o, s.heap.get? b = some o → g.get? b = some o) → s.heap.objs.size ≤ p →
      g.get? p = some (seqObj "list" out c) → EachIs (fun v (b : Str) => ∃ t, v = Value.str b t) out.toList ((signs x).mergeSort (PySem.W.dataLe false fun b : Str => PyData.str b)) → Q (.ref p) { s with heap := g, toks := k }) :
    wpAny (model P w) A (call (.builtin "sorted") [.str x t]) Q E s := by
  refine Calls.call_function_entry kind_sorted plain_sorted entry_sorted (args_sorted1 _) ?_
  unfold Builtin.«sorted»
  refine wpAny_bind (m := checkCount "sorted" 1 1 _) (wpAny_pure ?_)
  have sl : x.cps.size ≤ sizeLine := by rw [sizeLine_eq]; omega
  refine wpAny_bind (gather_str (A := A.in1) hh sl fun g1 tk1 acc k1 z1 hi => ?_)
  have e := each_signs hi
  have hvl : acc.toList.length = x.cps.size := by rw [Array.length_toList]; exact hi.1
  refine wpAny_bind (wpAny_newList ?_ (by rw [hvl]; exact sl))
  have hoL : (g1.push (seqObj "list" acc.toList.toArray 0)).get? g1.objs.size = some (seqObj "list" acc.toList.toArray 0) := Heap.get?_push_size _ rfl
  have ln : (signs x).length = x.cps.size := by unfold signs; rw [List.length_map, Array.length_toList]
  refine wpAny_bind (wpAny_holding (PySem.W.list_sort_data (enc := fun b : Str => PyData.str b) hoL e (e.mono fun v b ⟨t, q⟩ => ⟨[], by rw [q]; exact .str b t, List.not_mem_nil⟩) (PySem.W.AllAlike.of fun b b' => rfl) (PySem.W.Sortable.others fun b => ⟨fun z => (by cases z), fun xs z => (by cases z)⟩) (by rw [ln]; exact sl) (fun b _ => ?_) fun out ho eo => ?_))
  · show A.in1.units + 1 + 0 < cLine
    have : A.in1.units ≤ A.units + 2 := by
      first
        | exact Nat.le_succ_of_le (Nat.le_refl _)
        | exact Nat.le_refl _
        | (show A.units + 1 ≤ A.units + 2; omega)
    omega
  · obtain ⟨c, hc⟩ := sortedHeap_at (vs := acc.toList) (out := out.toArray) hoL
    refine wpAny_pure ⟨_, rfl, hQ _ tk1 g1.objs.size out.toArray c (fun b u q => ?_) (Nat.le_of_lt z1) hc (by rw [List.toList_toArray]; exact eo)⟩
    · have q := k1 b u q
      have hlt := Heap.lt_size q
      show (sortedHeap (g1.push (seqObj "list" acc.toList.toArray 0)) g1.objs.size acc.toList out.toArray).get? b = some u
      rw [sortedHeap_old (Nat.ne_of_lt hlt) (by rw [size_push']; exact Nat.lt_succ_of_lt hlt)]
      exact Heap.get?_push_of_some _ q
end
def sortX : D → Option (List D)
  | .str z => if z.cps.size ≤ 1000 then some (((signs z).map D.str).mergeSort leD) else none
  | .lst xs => sortD (.lst xs)
  | _ => none
theorem rp_strs {K : KW} {as : List Addr} {O : Addr → Prop} {H : Hp} : ∀ zs : List Str, RpL K as O H (zs.map V.str) (zs.map D.str)
  | [] => .nil
  | _ :: zs => .cons (.str _) (rp_strs zs)
theorem vals_strs {us : List Value} {zs : List Str} (h : EachIs (fun v (b : Str) => ∃ t, v = Value.str b t) us zs) : Vals (zs.map V.str) us := by
  induction h with
  | nil => exact .nil
  | cons a _ ih =>
    obtain ⟨t, rfl⟩ := a
    exact .cons ⟨t, rfl⟩ ih
section
variable {X : Cx}
theorem cd_sortX (hc : X.calm = true) (hu : X.A.units + 65 < cLine) : CallR X (.builtin "sorted") (rF1 (kw X) sortX) := by
  intro pins s σ H xs us Q I r q
  obtain ⟨as, O, d, rr, x, rfl, w, rd, hg, k⟩ := q
  cases d with
  | lst ds => exact cd_sortD hu pins s σ H _ us Q I r ⟨as, O, _, rr, x, rfl, w, rd, hg, k⟩
  | str z =>
    have hg : (if z.cps.size ≤ 1000 then some (((signs z).map D.str).mergeSort leD) else none) = some rr := hg
    split at hg
    · rename_i hz
      cases hg
      have ex : x = V.str z := by
        rcases rd with rd | ⟨a, _, _, c⟩
        · cases rd; rfl
        · cases c
      subst ex
      obtain ⟨u, rfl, ru⟩ := vals1 r
      obtain ⟨t, rfl⟩ : ∃ t, u = Value.str z t := ru
      refine sorted_str (I.ok.hd hc) hz (by show X.A.units + 4 < cLine; omega) fun g tk p out c keep hp hgp eo => ?_
      have e2 : (((signs z).mergeSort (PySem.W.dataLe false fun b : Str => PyData.str b)).map D.str) = ((signs z).map D.str).mergeSort leD := by
        refine List.map_mergeSort fun a _ b _ => ?_
        rfl
      have lz : (signs z).length = z.cps.size := by unfold signs; rw [List.length_map, Array.length_toList]
      have hn : H p = none := I.hok.fresh hp
      refine ⟨.ref p, upd H p (.lst (((signs z).mergeSort (PySem.W.dataLe false fun b : Str => PyData.str b)).map V.str)), I.laid (t' := tk) keep hp ⟨?_, out.toList, c, vals_strs eo, by rw [Array.toArray_toList]; exact hgp⟩, rfl, k _ _ ?_ hn⟩
      · rw [List.length_map, (List.mergeSort_perm _ _).length_eq, lz, sizeLine_eq]; omega
      · rw [← e2]
        exact rp_strs _
    · cases hg
  | _ => exact nomatch (show (none : Option (List D)) = some rr from hg)
end
end DL
namespace DL
open PySem PySem.Spec PyProof.Rows L2
section
variable {X : Cx} {pos : Pos} {a : Expr} {fa : Ev}
def ixL (d : D) : List D → Option Nat
  | [] => none
  | x :: xs => if eqD x d = true then some 0 else (ixL d xs).map (· + 1)
def dIndex : D → D → Option D
  | .lst xs, d => if (okD 60 d && okL 60 xs) = true then (ixL d xs).map fun (k : Nat) => .int (k : Int) else none
  | _, _ => none
theorem ixL_py {n : Nat} {d : D} (h : okD n d = true) : ∀ {xs : List D} {j : Nat}, okL n xs = true → ixL d xs = some j → (∃ z, (pyL xs)[j]? = some z ∧ PyData.eqv z (py d) = true) ∧ ∀ (m : Nat) (z' : PyData), m < j → (pyL xs)[m]? = some z' → PyData.eqv z' (py d) = false
  | [], j, _, e => by cases e
  | x :: xs, j, ok, e => by
    simp only [okL, Bool.and_eq_true] at ok
    have q := eq_py n x d ok.1 h
    unfold ixL at e
    split at e
    · rename_i w
      cases e
      refine ⟨⟨py x, rfl, by rw [q]; exact w⟩, fun m z' hm => by omega⟩
    · rename_i w
      obtain ⟨k, hk, rfl⟩ := Option.map_eq_some_iff.mp e
      obtain ⟨⟨z, h1, h2⟩, h3⟩ := ixL_py h ok.2 hk
      refine ⟨⟨z, by simpa [pyL] using h1, h2⟩, fun m z' hm hz => ?_⟩
      cases m with
      | zero =>
        have hz : py x = z' := by simpa [pyL] using hz
        rw [← hz, q]
        simpa using w
      | succ m => exact h3 m z' (by omega) (by simpa [pyL] using hz)
theorem md_index (hu : X.A.units + 65 < cLine) : MtR X "list.index" (rM2 (kw X) dIndex) := by
  intro pins s σ H x xs v us Q I rx rxs q
  obtain ⟨as, O, d, e, r, y, rfl, w, rd, re, hg, k⟩ := q
  unfold dIndex at hg
  split at hg
  · split at hg
    · rename_i hk
      rw [Bool.and_eq_true] at hk
      obtain ⟨j, hj, rfl⟩ := Option.map_eq_some_iff.mp hg
      have dl := rd.dp (n := 61) (by simpa [okD] using hk.2)
      have sl := ok_shaped (n := 61) (by decide) (d := .lst _) (by simpa [okD] using hk.2)
      simp only [py] at dl sl
      obtain ⟨a, vs, rfl, h1, t1⟩ := rd.lst
      obtain ⟨⟨z, z1, z2⟩, z3⟩ := ixL_py hk.1 hk.2 hj
      exact mt_indexD hu pins s σ H _ _ v us Q I rx rxs ⟨a, y, _, _, j, z, rfl, rfl, dl, re.dp hk.1, sl, ok_shaped (by decide) hk.1, z1, z2, z3, k _ H (Same.refl H) (.int _)⟩
    · cases hg
  · cases hg
def lstD : D → Bool
  | .lst _ => true
  | _ => false
def eMl (g : D → D → Option D) (fo fa : Ev) : Ev := fun ρ S => (fo ρ S).bind fun p => if lstD p.1 then (fa ρ p.2).bind fun q => (g p.1 q.1).bind fun r => some (r, q.2) else none
theorem me_ml {o : Expr} {fo : Ev} {name : Str} {apos cpos : Pos} {id : String} {g : D → D → Option D} (slot : PySem.Slot "list" name id) (hty : typeOf (.builtin id) = pure (.type "method_descriptor")) (hm : MtR X id (rM2 (kw X) g)) (ho : PE X o (tOfB (kw X) fo)) (ha : PE X a (tOfB (kw X) fa))
    (hbase : attributeBase o name X.env (eval o X.env) = eval o X.env := by rfl)
    (hfew : ((backTo cpos (starEach [a] X.env)).all (fun x => !x.1) && (backToKw cpos (keywordEach [] X.env)).all (fun x => x.1.isSome)
      && decide ([a].length + ([] : List Keyword).length + (if ([] : List Keyword).isEmpty then 0 else 1) < 30)) = true := by rfl)
    (hline : (apos.endLine == cpos.line) = true := by rfl) (hs : starEach [a] X.env = (false, eval a X.env) :: starEach [] X.env := by rfl) (hplain : (backTo cpos (starEach [] X.env)).any (·.1) = false := by rfl) :
    PE X (.Call (.Attribute o name apos) [a] [] cpos) (tOf (kw X) (eMl g fo fa)) := (pe_bm PySem.F.plainAttrs_list slot hty hm ho (pa_cons ha pa_nil hs) hbase hfew hline hs hplain).weak fun σ H Q q => by
  obtain ⟨as, O, ρ, S, d, S', R, hf, k⟩ := q
  unfold eMl at hf
  obtain ⟨⟨d1, S1⟩, h1, hf1⟩ := Option.bind_eq_some_iff.mp hf
  clear hf
  split at hf1
  · rename_i hlst
    obtain ⟨⟨d2, S2⟩, h2, hf⟩ := Option.bind_eq_some_iff.mp hf1
    obtain ⟨r, h3, hf⟩ := Option.bind_eq_some_iff.mp hf
    cases hf
    refine ⟨as, O, ρ, S, d1, S1, R, h1, fun v H1 s1 c1 r1 => ?_⟩
    have R1 := R.step s1 c1
    obtain ⟨z, rfl⟩ : ∃ z, d1 = .lst z := by
      cases d1 <;> first | exact ⟨_, rfl⟩ | cases hlst
    obtain ⟨a1, vs, rfl, hh, t⟩ := r1.lst
    refine ⟨.inl ⟨rfl, _, SqL.of hh⟩, as, O, ρ, S1, d2, S2, R1, h2, fun w H2 s2 c2 r2 => ?_⟩
    have R2 := R1.step s2 c2
    exact ⟨as, O, .lst z, d2, _, w, rfl, R2.wf, r1.stp R1.wf s2, r2, h3, fun v H' sm r => k v H' ((s1.trans s2).trans (Same.stp sm)) (c2.same R2.wf sm) r⟩
  · cases hf1
def strsD : List D → Option (List Str)
  | [] => some []
  | .str x :: xs => (strsD xs).map (x :: ·)
  | _ :: _ => none
theorem rp_strsD {K : KW} {as : List Addr} {O : Addr → Prop} {H : Hp} : ∀ {xs : List D} {vs : List V} {ys : List Str}, RpL K as O H vs xs → strsD xs = some ys → vs = ys.map V.str
  | [], _, _, t, e => by cases e; cases t; rfl
  | x :: xs, _, _, t, e => by
    cases t with
    | cons r t =>
      cases x <;> simp only [strsD] at e <;> first | cases e | skip
      obtain ⟨zs, hz, rfl⟩ := Option.map_eq_some_iff.mp e
      cases r
      rw [rp_strsD t hz]
      rfl
def dJoin : D → D → Option D
  | .str a, .lst xs => (strsD xs).bind fun ys => if (ys.map (·.length)).sum + ys.length * a.length ≤ 16777216 then some (.str (Txt.join a ys)) else none
  | .str a, .tup xs => (strsD xs).bind fun ys => if (ys.map (·.length)).sum + ys.length * a.length ≤ 16777216 then some (.str (Txt.join a ys)) else none
  | _, _ => none
theorem md_join : MtR X "str.join" (rM2 (kw X) dJoin) := by
  intro pins s σ H x xs v us Q I rx rxs q
  obtain ⟨as, O, d, e, r, y, rfl, w, rd, re, hg, k⟩ := q
  unfold dJoin at hg
  split at hg
  · obtain ⟨ys, h1, h2⟩ := Option.bind_eq_some_iff.mp hg
    split at h2
    · rename_i hl
      cases h2
      have e1 := rd.str
      subst e1
      obtain ⟨a1, vs, rfl, hh, t⟩ := re.lst
      have e2 := rp_strsD t h1
      subst e2
      exact mt_join pins s σ H _ _ v us Q I rx rxs ⟨_, a1, ys, rfl, rfl, .inl (SqL.of hh), hl, k _ H (Same.refl H) (.str _)⟩
    · cases h2
  · obtain ⟨ys, h1, h2⟩ := Option.bind_eq_some_iff.mp hg
    split at h2
    · rename_i hl
      cases h2
      have e1 := rd.str
      subst e1
      obtain ⟨a1, vs, rfl, hh, t⟩ := re.tup
      have e2 := rp_strsD t h1
      subst e2
      exact mt_join pins s σ H _ _ v us Q I rx rxs ⟨_, a1, ys, rfl, rfl, .inr hh, hl, k _ H (Same.refl H) (.str _)⟩
    · cases h2
  · cases hg
end
def lOfX : D → Option (List D)
  | .str z => if z.cps.size ≤ 1000 then some ((signs z).map D.str) else none
  | d => lOf d
theorem cd_listX {X : Cx} (hc : X.calm = true) : CallR X (.type "list") (rF1 (kw X) lOfX) := by
  intro pins s σ H xs us Q I r q
  obtain ⟨as, O, d, rr, x, rfl, w, rd, hg, k⟩ := q
  by_cases hs : ∃ z, d = .str z
  · obtain ⟨z, rfl⟩ := hs
    have hg : (if z.cps.size ≤ 1000 then some ((signs z).map D.str) else none) = some rr := hg
    split at hg
    · rename_i hz
      cases hg
      have ex : x = V.str z := by
        rcases rd with rd | ⟨a, _, _, c⟩
        · cases rd; rfl
        · cases c
      subst ex
      obtain ⟨u, rfl, ru⟩ := vals1 r
      obtain ⟨t, rfl⟩ : ∃ t, u = Value.str z t := ru
      have lz : (signs z).length = z.cps.size := by unfold signs; rw [List.length_map, Array.length_toList]
      refine call_list_str (I.ok.hd hc) z t (fun h' tk acc c keep hS hi => ?_) (by rw [sizeLine_eq]; omega)
      have eo := each_signs hi
      have hn : H s.heap.objs.size = none := I.hok.fresh (Nat.le_refl _)
      refine ⟨.ref s.heap.objs.size, upd H s.heap.objs.size (.lst ((signs z).map V.str)), I.laid (t' := tk) keep (Nat.le_refl _) ⟨?_, acc.toList, c, vals_strs eo, by rw [Array.toArray_toList]; exact hS⟩, rfl, k _ _ (rp_strs _) hn⟩
      rw [List.length_map, lz, sizeLine_eq]; omega
    · cases hg
  · have e : lOfX d = lOf d := by
      cases d <;> first | rfl | exact absurd ⟨_, rfl⟩ hs
    rw [e] at hg
    exact cd_list pins s σ H _ us Q I r ⟨as, O, d, rr, x, rfl, w, rd, hg, k⟩
section
variable {X : Cx} {pos : Pos} {a b : Expr} {fa fb : Ev} {fr : Bool}
theorem ms_asgV {i j : Nat} {x y : Str} {px py pt : Pos} {kt k2 pt2} (hc : X.calm = true) (nd : X.N.Nodup) (hi : X.N[i]? = some x) (hj : X.N[j]? = some y) (hij : i ≠ j)
    (lx : Loc X.env.scope x) (ly : Loc X.env.scope y) (ha : PE X a (tOf (kw X) fa)) (hb : PE X b (tOfF (kw X) fb))
    (s1 : starEach [a, b] X.env = (false, eval a X.env) :: starEach [b] X.env := by rfl) (s2 : starEach [b] X.env = (false, eval b X.env) :: starEach [] X.env := by rfl)
    (hs : swapsWithSole [.Tuple [.Name x px, .Name y py] kt pt] (.Tuple [a, b] k2 pt2) pos.line X.env = pure false := by rfl)
    (hw : swappedStores [.Tuple [.Name x px, .Name y py] kt pt] (.Tuple [a, b] k2 pt2) X.env = pure none := by rfl)
    (h1 : (assignEach [.Tuple [.Name x px, .Name y py] kt pt] X.env).map (·.2) = [assign (.Tuple [.Name x px, .Name y py] kt pt) X.env] := by rfl)
    (hn : (assignEach [.Name x px, .Name y py] X.env).length = 2 := by rfl) (hst : (assignEach [.Name x px, .Name y py] X.env).findIdx? (·.1) = none := by rfl)
    (fx : X.fn x = true ∨ X.env.scope.names.lookup x = some .local := by first | exact .inl rfl | exact .inr rfl)
    (fy : X.fn y = true ∨ X.env.scope.names.lookup y = some .local := by first | exact .inl rfl | exact .inr rfl) :
    PS X (.Assign [.Tuple [.Name x px, .Name y py] kt pt] (.Tuple [a, b] k2 pt2) pos) (tOfS fr (kw X) (sParV i j fa fb)) :=
  (ps_asg (pe_tup (mpv ha hb s1 s2)) (pg_tup hc (pgs_cons (pg_name nd hi lx fx) (pgs_cons (pg_name nd hj ly fy) pgs_nil)) hn hst) hs hw h1).weak fun D σ H q => by
    obtain ⟨as, O, B, G, ρ, S, o, R, hf, k⟩ := q
    unfold sParV at hf
    obtain ⟨⟨d1, S1⟩, h1, hf⟩ := Option.bind_eq_some_iff.mp hf
    obtain ⟨⟨d2, S2⟩, h2, hf⟩ := Option.bind_eq_some_iff.mp hf
    split at hf
    · rename_i hil
      cases hf
      refine ⟨as, _, ρ, S, d1, S1, d2, S2, R.e, h1, h2, fun v p H1 H2 t1 c1 n t2 c2 q2 r1 => ⟨by show 2 ≤ sizeLine; rw [sizeLine_eq]; omega, fun q nq => ?_⟩⟩
      refine ⟨q, _, rfl, .inl (.inl (upd_same)), rfl, v, _, rfl, .ref p, [], rfl, rfl, ?_⟩
      have R1 := (R.step t1 c1).setOwn j hil.1 n t2 c2 q2
      have sb : ∀ b, OO O (ρ.set j (.own d2)) (σ.set j (some (.ref p))) b → ad (OO O ρ σ) p b := fun b h => by
        rcases h with h | ⟨l, e, h1, h2⟩
        · exact .inl (.inl h)
        · rcases get_set h1 with ⟨rfl, z⟩ | ⟨ne, z⟩
          · rcases get_set h2 with ⟨_, y⟩ | ⟨y, _⟩
            · exact .inr (by cases y; rfl)
            · exact absurd rfl y
          · rw [List.getElem?_set_ne (Ne.symm ne)] at h2
            exact .inl (.inr ⟨l, e, z, h2⟩)
      have R2 := R1.set i (Rp.anti sb _ _ r1)
      have sm : Same H2 (upd H2 q (.tup [v, .ref p])) := fun a u e => by
        rw [upd_ne (fun z => by rw [z, nq] at e; cases e)]; exact e
      have R3 := R2.step (Same.stp sm) (R2.cells.same R2.wf sm)
      have e1 : (σ.set i (some v)).set j (some (.ref p)) = (σ.set j (some (.ref p))).set i (some v) := List.set_comm _ _ hij
      have e2 : (ρ.set i (.val d1)).set j (.own d2) = (ρ.set j (.own d2)).set i (.val d1) := List.set_comm _ _ hij
      show D.nx ((σ.set i (some v)).set j (some (.ref p))) _
      rw [e1]
      have k : ∀ σ H, Rel (kw X) as O B G σ H ((ρ.set i (.val d1)).set j (.own d2)) S2 → D.nx σ H := k
      rw [e2] at k
      exact k _ _ R3
    · cases hf
end
def minI : List Int → Option Int
  | [] => none
  | x :: xs => some (xs.foldl min x)
theorem foldl_min_le : ∀ (xs : List Int) (x : Int), xs.foldl min x ≤ x ∧ ∀ y ∈ xs, xs.foldl min x ≤ y
  | [], x => ⟨Int.le_refl x, fun _ h => nomatch h⟩
  | z :: xs, x => by
    obtain ⟨h1, h2⟩ := foldl_min_le xs (min x z)
    rw [List.foldl_cons]
    refine ⟨Int.le_trans h1 (Int.min_le_left x z), fun y hy => ?_⟩
    rcases List.mem_cons.mp hy with rfl | hy
    · exact Int.le_trans h1 (Int.min_le_right x y)
    · exact h2 y hy
theorem foldl_min_mem : ∀ (xs : List Int) (x : Int), xs.foldl min x = x ∨ xs.foldl min x ∈ xs
  | [], x => .inl rfl
  | z :: xs, x => by
    rw [List.foldl_cons]
    rcases foldl_min_mem xs (min x z) with h | h
    · rw [h]
      by_cases e : x ≤ z
      · rw [Int.min_eq_left e]; exact .inl rfl
      · rw [Int.min_eq_right (by omega)]; exact .inr List.mem_cons_self
    · exact .inr (List.mem_cons_of_mem _ h)
theorem minI_uniq {ns : List Int} {m k : Int} (h : minI ns = some m) (k1 : k ∈ ns) (k2 : ∀ y ∈ ns, k ≤ y) : k = m := by
  cases ns with
  | nil => cases h
  | cons x xs =>
    cases h
    obtain ⟨h1, h2⟩ := foldl_min_le xs x
    have a : xs.foldl min x ≤ k := by
      rcases List.mem_cons.mp k1 with rfl | k1
      · exact h1
      · exact h2 k k1
    have b : k ≤ xs.foldl min x := by
      rcases foldl_min_mem xs x with e | e
      · rw [e]; exact k2 x List.mem_cons_self
      · exact k2 _ (List.mem_cons_of_mem _ e)
    omega
def dMinS : D → Option D
  | .lst xs => (intsD xs).bind fun is => (minI is).map .int
  | _ => none
theorem cd_minS {X : Cx} (hc : X.calm = true) : CallR X (.builtin "min") (rC1 (kw X) dMinS) := by
  intro pins s σ H xs us Q I r q
  obtain ⟨as, O, d, rr, x, rfl, w, rd, hg, k⟩ := q
  unfold dMinS at hg
  split at hg
  · obtain ⟨is, h1, h2⟩ := Option.bind_eq_some_iff.mp hg
    obtain ⟨m, h3, h4⟩ := Option.map_eq_some_iff.mp h2
    subst h4
    obtain ⟨a, vs, rfl, h, t⟩ := rd.lst
    have e := rp_intsD t h1
    subst e
    refine cr_min hc pins s σ H _ us Q I r ⟨a, is, rfl, .inl (.inl h), ?_, fun j j1 j2 => ?_⟩
    · cases is with
      | nil => cases h3
      | cons _ _ => exact Nat.succ_pos _
    · rw [minI_uniq h3 j1 j2]
      exact k _ H (Same.refl H) (.int _)
  · cases hg
section
variable {ρ : List Slot} {S S1 S2 : List D} {fo fa : Ev} {g : D → D → Option D} {d e r : D}
theorem ml_s {xs : List D} (h : fo ρ S = some (.lst xs, S1)) (h2 : fa ρ S1 = some (e, S2)) (h3 : g (.lst xs) e = some r) : eMl g fo fa ρ S = some (r, S2) := by
  unfold eMl
  rw [h, Option.bind_some]
  show (if true = true then _ else none) = _
  rw [if_pos rfl, h2, Option.bind_some, h3, Option.bind_some]
theorem ms_s {x : Str} (h : fo ρ S = some (.str x, S1)) (h2 : fa ρ S1 = some (e, S2)) (h3 : g (.str x) e = some r) : eMs g fo fa ρ S = some (r, S2) := by
  unfold eMs
  rw [h, Option.bind_some]
  show (if true = true then _ else none) = _
  rw [if_pos rfl, h2, Option.bind_some, h3, Option.bind_some]
end
end DL
namespace DL
open PySem PySem.Spec PyProof.Rows L2
theorem pairsP {P P' : Program} {w : World} : ∀ {es : List DictEntry} {vs : List (Key × Value)}, PySem.Pairs (mixKind P w) es vs → PySem.Pairs (mixKind P' w) es vs
  | _, _, .nil => .nil
  | _, _, .cons a b t => .cons a b (pairsP t)
theorem DictRelK.at {w : World} {h h' : Heap} {a : Addr} {o : Obj} {xs : List (Key × V)} (r : DictRelK w h a o xs) (k : ∀ o, h.get? a = some o → h'.get? a = some o) : DictRelK w h' a o xs := by
  obtain ⟨hd, hz, vs, kv, es, ep, h1, h2⟩ := r
  exact ⟨hd, hz, vs, kv, es, ep, k o h1, h2⟩
theorem DictRelK.ok {P : Program} {w : World} {H : Hp} {h : Heap} {a : Addr} {o : Obj} {xs : List (Key × V)} (r : DictRelK w h a o xs) : ObjOk P w H h a (DictKO w a o xs) :=
  ⟨r, by obtain ⟨_, _, _, _, _, _, h1, _⟩ := r; exact ⟨o, h1⟩, fun _ _ p k => p.at k⟩
theorem DictRelK.of {P : Program} {w : World} {h : Heap} {a : Addr} {xs : List (Key × V)} {vs : List (Key × Value)} (hd : (a == sysModules) = false) (hz : xs.length ≤ sizeLine) (r : KV xs vs) (d : h.DictOf (mixKind P w) a vs) : ∃ o, DictRelK w h a o xs := by
  obtain ⟨o, es, ep, h1, h2, h3, h4, h5, h6⟩ := d
  exact ⟨o, hd, hz, vs, r, es, ep, h1, h2, h3, fun _ => h4, fun _ => pairsP h5, h6⟩
theorem DictRelK.dict {w : World} {h : Heap} {a : Addr} {o : Obj} {xs : List (Key × V)} (r : DictRelK w h a o xs) (P : Program) : (a == sysModules) = false ∧ xs.length ≤ sizeLine ∧ ∃ vs, KV xs vs ∧ h.DictOf (mixKind P w) a vs := by
  obtain ⟨hd, hz, vs, kv, es, ep, h1, h2, h3, h4, h5, h6⟩ := r
  exact ⟨hd, hz, vs, kv, o, es, ep, h1, h2, h3, h4 P, h5 P, h6⟩
theorem relK {X : Cx} {pins : List (Addr × Obj)} {σ : L2.St} {H : Hp} {s : Shared} (I : L2.Inv X pins σ H s) {a : Addr} {o : Obj} {xs : List (Key × V)} (e : H a = some (DictKO X.w a o xs)) : DictRelK X.w s.heap a o xs :=
  (show ObjOk X.prog X.w H s.heap a (DictKO X.w a o xs) from I.hok a _ e).1
def kkD : D → Option Key
  | .int i => some (.inl i)
  | .str x => some (.inr x)
  | _ => none
def ofK : Key → D
  | .inl i => .int i
  | .inr x => .str x
theorem rp_kk {K : KW} {as : List Addr} {O : Addr → Prop} {H : Hp} {v : V} {d : D} {k : Key} (r : Rp K as O H v d) (e : kkD d = some k) : v = kV k := by
  cases r <;> simp only [kkD] at e <;> cases e <;> rfl
theorem rp_ofK {K : KW} {as : List Addr} {O : Addr → Prop} {H : Hp} (k : Key) : Rp K as O H (kV k) (ofK k) := by
  cases k with
  | inl i => exact .int i
  | inr x => exact .str x
def lookK (kvs : List (Key × D)) (k : Key) : Option D := (kvs.find? fun p => decide (p.1 = k)).map (·.2)
def stK (kvs : List (Key × D)) (k : Key) (v : D) : List (Key × D) := if (kvs.any fun p => decide (p.1 = k)) = true then kvs.map (fun p => if p.1 = k then (p.1, v) else p) else kvs ++ [(k, v)]
section
variable {K : KW} {as : List Addr} {O : Addr → Prop} {H : Hp}
theorem look_get (k : Key) : ∀ {es : List (Key × V)} {kvs : List (Key × D)}, es.map (·.1) = kvs.map (·.1) → RpL K as O H (es.map (·.2)) (kvs.map (·.2)) →
    (valV es k = none ∧ lookK kvs k = none) ∨ ∃ v d, valV es k = some v ∧ lookK kvs k = some d ∧ Rp K as O H v d
  | [], [], _, _ => .inl ⟨rfl, rfl⟩
  | [], _ :: _, e, _ => by simp at e
  | _ :: _, [], e, _ => by simp at e
  | x :: es, p :: kvs, e, .cons r t => by
    simp only [List.map_cons, List.cons.injEq] at e
    by_cases h : p.1 = k
    · exact .inr ⟨x.2, p.2, by simp [valV, e.1, h], by simp [lookK, h], r⟩
    · have h' : ¬ x.1 = k := by rw [e.1]; exact h
      have e1 : valV (x :: es) k = valV es k := by simp [valV, h']
      have e2 : lookK (p :: kvs) k = lookK kvs k := by simp [lookK, h]
      rw [e1, e2]
      exact look_get k e.2 t
theorem any_key (k : Key) : ∀ {es : List (Key × V)} {kvs : List (Key × D)}, es.map (·.1) = kvs.map (·.1) → (es.any fun p => decide (p.1 = k)) = kvs.any fun p => decide (p.1 = k)
  | [], [], _ => rfl
  | [], _ :: _, e => by simp at e
  | _ :: _, [], e => by simp at e
  | x :: es, p :: kvs, e => by
    simp only [List.map_cons, List.cons.injEq] at e
    rw [List.any_cons, List.any_cons, any_key k e.2, e.1]
theorem replK_keys {α : Type} (k : Key) (v : α) (xs : List (Key × α)) : ((xs.map fun x => if x.1 = k then (x.1, v) else x).map (·.1)) = xs.map (·.1) := by
  rw [List.map_map]
  refine List.map_congr_left fun x _ => ?_
  show (if x.1 = k then (x.1, v) else x).1 = _
  split <;> rfl
theorem replK_vals {v : V} {vd : D} (k : Key) (r : Rp K as O H v vd) : ∀ {es : List (Key × V)} {kvs : List (Key × D)}, es.map (·.1) = kvs.map (·.1) → RpL K as O H (es.map (·.2)) (kvs.map (·.2)) →
    RpL K as O H ((es.map fun x => if x.1 = k then (x.1, v) else x).map (·.2)) ((kvs.map fun p => if p.1 = k then (p.1, vd) else p).map (·.2))
  | [], [], _, _ => .nil
  | [], _ :: _, e, _ => by simp at e
  | _ :: _, [], e, _ => by simp at e
  | x :: es, p :: kvs, e, .cons q t => by
    simp only [List.map_cons, List.cons.injEq] at e
    simp only [List.map_cons]
    by_cases h : p.1 = k
    · rw [if_pos (e.1.trans h), if_pos h]
      exact .cons r (replK_vals k r e.2 t)
    · rw [if_neg (fun z => h (e.1.symm.trans z)), if_neg h]
      exact .cons q (replK_vals k r e.2 t)
theorem putK_cell {es : List (Key × V)} {kvs : List (Key × D)} {a : Addr} {o : Obj} {k : Key} {v : V} {vd : D} (e : H a = some (DictKO K.w a o (putK es k v))) (ek : es.map (·.1) = kvs.map (·.1)) (t : RpL K as O H (es.map (·.2)) (kvs.map (·.2))) (r : Rp K as O H v vd) : CellR K as O H a (.kd (stK kvs k vd)) := by
  have hh := any_key k ek
  by_cases h : (kvs.any fun p => decide (p.1 = k)) = true
  · have ex : putK es k v = es.map (fun x => if x.1 = k then (x.1, v) else x) := if_pos (by rw [hh]; exact h)
    have ed : stK kvs k vd = kvs.map (fun p => if p.1 = k then (p.1, vd) else p) := if_pos h
    rw [ex] at e
    rw [ed]
    exact .kd e (by rw [replK_keys, replK_keys, ek]) (replK_vals k r ek t)
  · have ex : putK es k v = es ++ [(k, v)] := if_neg (by rw [hh]; exact h)
    have ed : stK kvs k vd = kvs ++ [(k, vd)] := if_neg h
    rw [ex] at e
    rw [ed]
    refine .kd e ?_ ?_
    · rw [List.map_append, List.map_append, ek]; rfl
    · rw [List.map_append, List.map_append]; exact RpL.append t (.cons r .nil)
theorem RpB.kd {v : V} {kvs : List (Key × D)} (r : RpB K as O H v (.kd kvs)) : ∃ a o es, v = .ref a ∧ H a = some (DictKO K.w a o es) ∧ es.map (·.1) = kvs.map (·.1) ∧ RpL K as O H (es.map (·.2)) (kvs.map (·.2)) := by
  rcases r with r | ⟨a, e, _, c⟩
  · cases r with
    | kd _ h e t => exact ⟨_, _, _, rfl, h, e, t⟩
  · cases c with
    | kd h e1 t => exact ⟨a, _, _, e, h, e1, t⟩
end
section
variable {X : Cx} {pos : Pos} {e b c : Expr} {f fb fc : Ev} {fr : Bool}
def tToK (w : World) (t : TE) : TE := fun σ H Q => t σ H fun x H1 => ∃ p es, x = .ref p ∧ H1 p = some (.dK es) ∧ ∀ o, Q x (upd H1 p (DictKO w p o es))
theorem pe_toK {t : TE} (h : PE X e t) : PE X e (tToK X.w t) := by
  refine ⟨fun pins s σ H Q I hq => ?_⟩
  refine thn (h.run pins s σ H _ I hq) fun u s1 ⟨x, H1, I1, rx, p, es, ex, hp, q⟩ => ?_
  subst ex
  obtain ⟨hz, hd, vs, kv, dd⟩ := dk_of I1.hok hp
  obtain ⟨o, r⟩ := DictRelK.of hd hz kv dd
  have ho : s1.heap.get? p = some o := by obtain ⟨_, _, _, _, _, _, h1, _⟩ := r; exact h1
  exact ⟨.ref p, _, I1.write (x := p) (e := p) (t' := s1.toks) (h' := s1.heap) (by rw [hp]; exact True.intro) (.inl rfl) (fun _ _ _ z => z) ⟨o, ho⟩ r.ok, rx, q o⟩
def eKd0 : Ev := fun _ S => some (.kd [], S)
theorem mf_kd0 : PE X (.Dict [] [] pos) (tOfF (kw X) eKd0) := (pe_toK pe_dnewK).weak fun σ H Q q => by
  obtain ⟨as, O, ρ, S, d, S', R, hf, k⟩ := q
  cases hf
  intro p hp
  refine ⟨p, [], rfl, upd_same, fun o => ?_⟩
  have e : upd (upd H p (.dK [])) p (DictKO X.w p o []) = upd H p (DictKO X.w p o []) := L2.upd_upd
  rw [e]
  have q := new_cells (o := DictKO X.w p o []) R.wf R.cells hp
  exact k p _ hp (Same.stp (same_new hp)) q.1 (.kd upd_same rfl .nil)
end
end DL
namespace DL
open PySem PySem.Spec PyProof.Rows L2
def rSetK (X : Cx) : TSet := fun x y v H Q => ∃ a o es k, x = .ref a ∧ y = kV k ∧ H a = some (DictKO X.w a o es) ∧ es.length < sizeLine ∧ ∀ o', Q (upd H a (DictKO X.w a o' (putK es k v)))
theorem set_kd {X : Cx} : PSet X (rSetK X) := by
  intro pins s σ H x y v ov iv u Q I r1 r2 r3 q
  obtain ⟨a, o, es, k, rfl, rfl, e, hl, q⟩ := q
  obtain rfl : ov = Value.ref a := r1
  obtain ⟨hd, hz, vs, kv, dd⟩ := (relK I e).dict X.prog
  refine wpAny_setItem_pairs (hsz := by rw [← kv.length]; exact hz) (kV_is r2) dd fun h' dd' hs => ?_
  obtain ⟨o', new⟩ := DictRelK.of hd (by have := length_putK es k v; omega) (kv.put k r3) dd'
  have he : ∃ o, h'.get? a = some o := by
    obtain ⟨o, _, _, h1, _⟩ := dd'
    exact ⟨o, h1⟩
  exact ⟨_, d_write I (by rw [e]; exact True.intro) hs he new.ok, q o'⟩
section
variable {X : Cx} {pos : Pos} {e b c : Expr} {f fb fc fa : Ev} {fr : Bool}
def sKPut (i : Nat) (f fk : Ev) : Sv := fun ρ S => (f ρ S).bind fun p => (fk ρ p.2).bind fun q => match ρ[i]? with
  | some (.own (.kd kvs)) => (kkD q.1).bind fun k => if kvs.length < 16777216 then some (.nx (ρ.set i (.own (.kd (stK kvs k p.1)))) q.2) else none
  | _ => none
theorem ms_kput (i : Nat) {x : Str} {px tpos : Pos} (ho : PE X (.Name x px) (tVar i)) (hj : PE X b (tOf (kw X) fb)) (he : PE X e (tOf (kw X) f))
    (ha : ∀ v, assign (.Subscript (.Name x px) b tpos) X.env v = (do
      let ov ← holding [v] (eval (.Name x px) X.env)
      let iv ← holding [v, ov] (eval b X.env)
      standAt tpos
      holding [v, ov, iv] (setItem ov iv v)
      release [v, ov, iv] []) := by intro _; rfl)
    (hs : swapsWithSole [.Subscript (.Name x px) b tpos] e pos.line X.env = pure false := by rfl) (hw : swappedStores [.Subscript (.Name x px) b tpos] e X.env = pure none := by rfl)
    (h1 : (assignEach [.Subscript (.Name x px) b tpos] X.env).map (·.2) = [assign (.Subscript (.Name x px) b tpos) X.env] := by rfl) :
    PS X (.Assign [.Subscript (.Name x px) b tpos] e pos) (tOfS fr (kw X) (sKPut i f fb)) :=
  (ps_asg he (pg_sub ho hj set_kd ha) hs hw h1).weak fun D σ H q => by
    obtain ⟨as, O, B, G, ρ, S, o, R, hf, k⟩ := q
    unfold sKPut at hf
    obtain ⟨⟨d1, S1⟩, h1, hf⟩ := Option.bind_eq_some_iff.mp hf
    obtain ⟨⟨d2, S2⟩, h2, hf⟩ := Option.bind_eq_some_iff.mp hf
    split at hf
    · rename_i kvs hx
      obtain ⟨ky, hk, hf⟩ := Option.bind_eq_some_iff.mp hf
      split at hf
      · rename_i hlt
        cases hf
        obtain ⟨p, h3, nb, ng, cp⟩ := R.own i _ hx
        cases cp with
        | @kd ob es _ hp ek t =>
          refine ⟨as, _, ρ, S, d1, S1, R.e, h1, fun v H1 s1 c1 r1 => ⟨.ref p, h3, ?_⟩⟩
          have R1 := R.step s1 c1
          refine ⟨as, _, ρ, S1, d2, S2, R1.e, h2, fun w H2 s2 c2 r2 => ?_⟩
          have R2 := R1.step s2 c2
          have ew := rp_kk r2 hk
          subst ew
          have hp2 : H2 p = some (DictKO X.w p ob es) := s2 p _ (R.notas nb) (s1 p _ (R.notas nb) hp)
          have t2 := (t.stp R.wf s1).stp R1.wf s2
          have r1' := r1.stp R1.wf s2
          have kk : ∀ o', Kp (OO O ρ σ) H2 (upd H2 p (DictKO X.w p o' (putK es ky v))) := fun o' c u n e => by
            rw [upd_ne (fun z => n (by rw [z]; exact .inr ⟨i, _, hx, h3⟩))]
            exact e
          have xl : es.length = kvs.length := by
            have := congrArg List.length ek
            rwa [List.length_map, List.length_map] at this
          refine ⟨p, ob, es, ky, rfl, rfl, hp2, by rw [sizeLine_eq]; omega, fun o' => ?_⟩
          exact k _ _ (R2.mutOwn (o := DictKO X.w p o' (putK es ky v)) hx h3 trivial (putK_cell upd_same ek (RpL.kp R2.wf.nt (kk o') _ _ t2) (Rp.kp R2.wf.nt (kk o') _ _ r1')))
      · cases hf
    · cases hf
def eKGet (fo fk fe : Ev) : Ev := fun ρ S => (fo ρ S).bind fun p => (fk ρ p.2).bind fun q => (fe ρ q.2).bind fun r => match p.1 with
  | .kd kvs => (kkD q.1).bind fun k => some ((lookK kvs k).getD r.1, r.2)
  | _ => none
theorem notas_kd {K : KW} {as : List Addr} {O : Addr → Prop} {H : Hp} {a : Addr} {kvs : List (Key × D)} (w : Wf as O H) (r : RpB K as O H (.ref a) (.kd kvs)) : a ∉ as := by
  rcases r with r | ⟨a', e', n, c⟩
  · cases r with
    | kd n _ _ _ => exact fun m => n (w.sub _ m)
  · cases e'
    exact n
theorem me_kget2 {apos cpos : Pos} (ho : PE X e (tOfB (kw X) f)) (hb : PE X b (tOf (kw X) fb)) (hc : PE X c (tOf (kw X) fc))
    (hbase : attributeBase e "get" X.env (eval e X.env) = eval e X.env := by rfl)
    (hfew : ((backTo cpos (starEach [b, c] X.env)).all (fun x => !x.1) && (backToKw cpos (keywordEach [] X.env)).all (fun x => x.1.isSome)
      && decide (([b, c] : List Expr).length + ([] : List Keyword).length + (if ([] : List Keyword).isEmpty then 0 else 1) < 30)) = true := by rfl)
    (hline : (apos.endLine == cpos.line) = true := by rfl) (htr : backTo cpos (starEach [b, c] X.env) = [(false, eval b X.env), (false, eval c X.env)] := by rfl) :
    PE X (.Call (.Attribute e "get" apos) [b, c] [] cpos) (tOf (kw X) (eKGet f fb fc)) := by
  refine ⟨fun pins s σ H Q I h => ?_⟩
  obtain ⟨as, O, ρ, S, d, S', R, hf, k⟩ := h
  unfold eKGet at hf
  obtain ⟨⟨d1, S1⟩, h1, hf⟩ := Option.bind_eq_some_iff.mp hf
  obtain ⟨⟨d2, S2⟩, h2, hf⟩ := Option.bind_eq_some_iff.mp hf
  obtain ⟨⟨d3, S3⟩, h3, hf⟩ := Option.bind_eq_some_iff.mp hf
  obtain ⟨kvs, rfl⟩ : ∃ kvs, d1 = .kd kvs := by
    cases d1 <;> first | exact ⟨_, rfl⟩ | cases hf
  obtain ⟨ky, hk, hf⟩ := Option.bind_eq_some_iff.mp hf
  cases hf
  have hk : kkD d2 = some ky := hk
  refine wpAny_Call_method hbase hfew hline PySem.F.plainAttrs_dict PySem.F.slot_dict_get PySem.F.type_dict_get (thn (ho.run pins s σ H (fun v H1 => Stp as H H1 ∧ Cells (kw X) as O H1 S1 ∧ RpB (kw X) as O H1 v (.kd kvs)) I ⟨as, O, ρ, S, _, S1, R, h1, fun v H' s c r => ⟨s, c, r⟩⟩) fun u s1 ⟨v, H1, I1, rv, s1', c1, rr⟩ => ?_)
  have rr0 := rr
  obtain ⟨a, ob, es, rfl, hq, ek, t⟩ := rr.kd
  obtain rfl : u = Value.ref a := rv
  obtain ⟨_, _, vs0, _, dd0⟩ := (relK I1 hq).dict X.prog
  have R1 := R.step s1' c1
  have na := notas_kd R1.wf rr0
  refine ⟨dd0.typeIs, fun b q => ?_, ?_⟩
  · cases q
    obtain ⟨o, _, _, ho, hx, _⟩ := dd0
    exact ⟨o, ho, hx.2.1⟩
  rw [htr]
  refine Calls.callWith_builtin rfl (Calls.evalArgs_plain (Calls.spliced_cons (thn (hb.run pins s1 σ H1 (fun v H2 => Stp as H1 H2 ∧ Cells (kw X) as O H2 S2 ∧ Rp (kw X) as O H2 v d2) I1 ⟨as, O, ρ, S1, d2, S2, R1, h2, fun v H' s c r => ⟨s, c, r⟩⟩) fun iv s2 ⟨y, H2, I2, ry, s2', c2, r2⟩ => ?_)))
  have R2 := R1.step s2' c2
  refine Calls.spliced_cons (thn (hc.run pins s2 σ H2 (fun v H3 => Stp as H2 H3 ∧ Cells (kw X) as O H3 S3 ∧ Rp (kw X) as O H3 v d3) I2 ⟨as, O, ρ, S2, d3, S3, R2, h3, fun v H' s c r => ⟨s, c, r⟩⟩) fun fv s3 ⟨z, H3, I3, rz, s3', c3, r3⟩ => Calls.spliced_nil ?_)
  have hq3 : H3 a = some (DictKO X.w a ob es) := s3' a _ na (s2' a _ na hq)
  obtain ⟨hd, hz, vs, kv, dd⟩ := (relK I3 hq3).dict X.prog
  have ey := rp_kk r2 hk
  subst ey
  have tv3 := (t.stp R1.wf s2').stp R2.wf s3'
  have st : Stp as H H3 := (s1'.trans s2').trans s3'
  have rel := kv.val ky
  rcases look_get ky ek tv3 with ⟨h4, h5⟩ | ⟨v0, dv, h4, h5, rd0⟩
  · rw [h4] at rel
    have e0 : valueAt vs ky = none := by
      cases q : valueAt vs ky with
      | none => rfl
      | some u => rw [q] at rel; exact rel.elim
    refine call_meetsIn PySem.F.slot_dict_get dd.typeIs PySem.F.entry_dict_get (PySem.F.args_dict_get_3 _ _ _) (meets_dict_get_default (mixKind X.prog X.w) a (kV_is ry) hd fv) ⟨_, dd.mapOf, ?_⟩
    rw [e0]
    exact ⟨z, H3, I3.tok _, rz, k _ H3 st c3 (by show Rp _ _ _ _ _ ((lookK kvs ky).getD d3); rw [h5]; exact r3)⟩
  · rw [h4] at rel
    obtain ⟨u0, hu0, ru0⟩ := RelO.some_of (v := v0) (o := valueAt vs ky) rel
    refine call_meetsIn PySem.F.slot_dict_get dd.typeIs PySem.F.entry_dict_get (PySem.F.args_dict_get_3 _ _ _) (meets_dict_get_default (mixKind X.prog X.w) a (kV_is ry) hd fv) ⟨_, dd.mapOf, ?_⟩
    rw [hu0]
    exact ⟨v0, H3, I3.tok _, ru0, k _ H3 st c3 (by show Rp _ _ _ _ _ ((lookK kvs ky).getD d3); rw [h5]; exact rd0)⟩
def eKIx (fo fk : Ev) : Ev := fun ρ S => (fo ρ S).bind fun p => (fk ρ p.2).bind fun q => match p.1 with
  | .kd kvs => (kkD q.1).bind fun k => (lookK kvs k).bind fun d => some (d, q.2)
  | _ => none
theorem me_kix (ho : PE X e (tOfB (kw X) f)) (hb : PE X b (tOf (kw X) fb)) (hs : NoSl b := by intro _ _; rfl) : PE X (.Subscript e b pos) (tOf (kw X) (eKIx f fb)) := by
  refine ⟨fun pins s σ H Q I h => ?_⟩
  obtain ⟨as, O, ρ, S, d, S', R, hf, k⟩ := h
  unfold eKIx at hf
  obtain ⟨⟨d1, S1⟩, h1, hf⟩ := Option.bind_eq_some_iff.mp hf
  obtain ⟨⟨d2, S2⟩, h2, hf⟩ := Option.bind_eq_some_iff.mp hf
  obtain ⟨kvs, rfl⟩ : ∃ kvs, d1 = .kd kvs := by
    cases d1 <;> first | exact ⟨_, rfl⟩ | cases hf
  obtain ⟨ky, hk, hf⟩ := Option.bind_eq_some_iff.mp hf
  obtain ⟨dv, hl, hf⟩ := Option.bind_eq_some_iff.mp hf
  cases hf
  have hk : kkD d2 = some ky := hk
  refine subD_of PySem.F.slot_dict_getitem.lookup hs (thn (ho.run pins s σ H (fun v H1 => Stp as H H1 ∧ Cells (kw X) as O H1 S1 ∧ RpB (kw X) as O H1 v (.kd kvs)) I ⟨as, O, ρ, S, _, S1, R, h1, fun v H' s c r => ⟨s, c, r⟩⟩) fun u s1 ⟨v, H1, I1, rv, s1', c1, rr⟩ => ?_)
  have R1 := R.step s1' c1
  refine thn (hb.run pins s1 σ H1 (fun v H2 => Stp as H1 H2 ∧ Cells (kw X) as O H2 S2 ∧ Rp (kw X) as O H2 v d2) I1 ⟨as, O, ρ, S1, d2, S2, R1, h2, fun v H' s c r => ⟨s, c, r⟩⟩) fun iv s2 ⟨y, H2, I2, ry, s2', c2, r2⟩ => ?_
  have R2 := R1.step s2' c2
  have rr0 := rr
  obtain ⟨a, ob, es, rfl, hq, ek, t⟩ := rr.kd
  obtain rfl : u = Value.ref a := rv
  have na := notas_kd R1.wf rr0
  have hq2 : H2 a = some (DictKO X.w a ob es) := s2' a _ na hq
  obtain ⟨hd, hz, vs, kv, dd⟩ := (relK I2 hq2).dict X.prog
  have ey := rp_kk r2 hk
  subst ey
  have rel := kv.val ky
  rcases look_get ky ek (t.stp R1.wf s2') with ⟨h4, h5⟩ | ⟨v0, d0, h4, h5, rd0⟩
  · rw [h5] at hl; cases hl
  · rw [h5] at hl
    cases hl
    rw [h4] at rel
    obtain ⟨u0, hu0, ru0⟩ := RelO.some_of (v := v0) (o := valueAt vs ky) rel
    exact ⟨dd.typeIs, wpAny_getItem_of (kV_is ry) dd.mapOf hu0 ⟨v0, H2, I2.tok _, ru0, k _ H2 (s1'.trans s2') c2 rd0⟩⟩
def dInK : D → D → Option D
  | d, .kd kvs => (kkD d).map fun k => .bl (lookK kvs k).isSome
  | _, _ => none
theorem od_inK : OpR X (compareOp .In) (r2D (kw X) dInK) := by
  intro pins s σ H x y v u Q I rx ry q
  obtain ⟨as, O, d, e, r, w, rd, re, hg, k⟩ := q
  unfold dInK at hg
  split at hg
  · rename_i kvs
    obtain ⟨ky, hk, rfl⟩ := Option.map_eq_some_iff.mp hg
    obtain ⟨a, ob, es, rfl, hq, ek, t⟩ := re.kd
    obtain rfl : u = Value.ref a := ry
    obtain ⟨hd, hz, vs, kv, dd⟩ := (relK I hq).dict X.prog
    have ex : x = kV ky := by
      rcases rd with rd | ⟨b, _, _, c⟩
      · exact rp_kk rd hk
      · cases c <;> cases hk
    subst ex
    have rel := kv.val ky
    refine wpAny_in_of (kV_is rx) hd dd.mapOf ⟨.bl (valueAt vs ky).isSome, H, I.tok _, rfl, ?_⟩
    have : (valueAt vs ky).isSome = (lookK kvs ky).isSome := by
      rw [← rel.isSome_eq]
      rcases look_get ky ek t with ⟨h4, h5⟩ | ⟨v0, d0, h4, h5, _⟩
      · rw [h4, h5]; rfl
      · rw [h4, h5]; rfl
    rw [this]
    exact k _ H (Same.refl H) (.bl _)
  · cases hg
def ItKk (w : World) (d : Addr) (o : Obj) (es : List (Key × V)) : It :=
  ⟨fun i H => H d = some (DictKO w d o es) ∧ i < es.length, fun i H v H' => H' = H ∧ ∃ p, es[i]? = some p ∧ v = kV p.1, fun i H => H d = some (DictKO w d o es) ∧ es.length ≤ i⟩
theorem DictRelK.entry {w : World} {h : Heap} {a : Addr} {o : Obj} {es : List (Key × V)} (r : DictRelK w h a o es) (P : Program) {en : Array DictEntry} {ep : Nat} (hd : o.data = .dict en ep) :
    (a == sysModules) = false ∧ h.get? a = some o ∧ o.ExactDict ∧ ∃ vs, KV es vs ∧ en.size = es.length ∧ h.DictAt (mixKind P w) a vs ep := by
  obtain ⟨hs, hz, vs, kv, en', ep', h1, h2, h3, h4, h5, h6⟩ := r
  rw [hd] at h3
  cases h3
  refine ⟨hs, h1, h2, vs, kv, ?_, o, en, h1, h2, hd, h4 P, h5 P, h6⟩
  have := (h5 P).length
  rw [Array.length_toList] at this
  rw [this, kv.length]
theorem turn_kk {P : Program} {w : World} {K : PySem.W.Frag} {tg : Expr} {d : Addr} {o : Obj} {es : List (Key × V)} {en : Array DictEntry} {ep : Nat} (it : Addr) (hod : o.data = .dict en ep) :
    Turn P w K tg (ItKk w d o es) [it] it (fun i h => h.IsKeyIter it d i es.length ep) where
  mem := by simp
  obj := fun i h st b hb => by
    have e : b = it := by simpa using hb
    subst e
    obtain ⟨oi, e, c, dd⟩ := st
    refine ⟨oi, e, fun v z => ?_⟩
    rw [dd] at z
    cases z
  keep := fun i h h' st k => by
    obtain ⟨oi, e, c, dd⟩ := st
    exact ⟨oi, k it (by simp) oi e, c, dd⟩
  item := by
    intro X hP hw hK hc i pins s σ H E I hf st hg
    subst hP hw hK
    obtain ⟨hd, hi⟩ := hg
    obtain ⟨f0, f1, f2, f3, f4, f5⟩ := hf it (by simp)
    obtain ⟨hs, h1, h2, vs, kv, hsz, dat⟩ := (relK I hd).entry X.prog hod
    obtain ⟨⟨ky, v⟩, hkv⟩ : ∃ p, es[i]? = some p := ⟨es[i], List.getElem?_eq_getElem hi⟩
    obtain ⟨u, hu, ru⟩ := kv_get kv hkv
    have hl : es.length = vs.length := kv.length
    rw [hl] at st
    refine wpAny_pyNext_dict_item st dat hu fun key h' hkey st' sb => ?_
    have I1 : Inv X pins σ H { s with heap := h' } := I.turned (t' := s.toks) (fun b ob hb e => (sb.2 b hb).trans e) f0 f1 f3 f4 f5
    obtain ⟨oi, e, c, dd⟩ := id st'
    refine ⟨key, rfl, ?_⟩
    refine go_of (s := { s with heap := h' }) e c dd (by decide) ⟨kV ky, H, I1, relV_key hkey, ⟨rfl, _, hkv, rfl⟩, ?_, fun b hb => (hf b hb).1⟩
    rw [hl]
    exact st'
  done := by
    intro X hP hw hK hc i pins s σ H E I hf st hg
    subst hP hw hK
    obtain ⟨hd, hi⟩ := hg
    obtain ⟨f0, f1, f2, f3, f4, f5⟩ := hf it (by simp)
    obtain ⟨hs, h1, h2, vs, kv, hsz, dat⟩ := (relK I hd).entry X.prog hod
    exact next_key_end (I.ok.hd hc) st h1 hod hsz hi fun h' eb => ⟨rfl, I.turned (t' := s.toks) (fun b ob hb e => eb b ob hb e) f0 f1 f3 f4 f5⟩
  self := fun A i s Q E st h => wpAny_pyIter_keyiter st h
def iKeysK (f : Ev) : Ea := fun ρ S => (f ρ S).bind fun q => match q.1 with
  | .kd kvs => some (kvs.map fun p => ofK p.1, q.2)
  | _ => none
theorem mi_keysK {tg : Expr} (he : PE X e (tOf (kw X) f)) : PI X tg e (tOfI (kw X) (iKeysK f)) := by
  refine ⟨fun pins s σ H R I h => ?_⟩
  obtain ⟨as, O, ρ, S, ds, S', R0, hf, k⟩ := h
  unfold iKeysK at hf
  obtain ⟨⟨dd, S1⟩, h1, hf⟩ := Option.bind_eq_some_iff.mp hf
  refine thn (he.run pins s σ H (fun v H1 => Stp as H H1 ∧ Cells (kw X) as O H1 S1 ∧ Rp (kw X) as O H1 v dd) I ⟨as, O, ρ, S, _, S1, R0, h1, fun v H' s c r => ⟨s, c, r⟩⟩) fun u s1 ⟨v, H1, I1, rv, s1', c1, rr⟩ => ?_
  have w1 := R0.wf.step s1' c1
  split at hf
  case h_2 => cases hf
  case h_1 kvs e =>
  have e : dd = .kd kvs := e
  subst e
  cases hf
  cases rr with
  | @kd a ob es _ n hq ek t =>
  obtain rfl : u = Value.ref a := rv
  obtain ⟨en, ep, hod⟩ : ∃ en ep, ob.data = .dict en ep := by
    obtain ⟨_, _, _, _, en, ep, _, _, h3, _⟩ := relK I1 hq
    exact ⟨en, ep, h3⟩
  obtain ⟨hs, g1, g2, vs, kv, hsz, dat⟩ := (relK I1 hq).entry X.prog hod
  have q : R (ItKk X.w a ob es) H1 := by
    refine k _ H1 s1' c1 fun i H2 kp => ?_
    have b1 : H2 a = some (DictKO X.w a ob es) := kp _ _ n hq
    have hl : es.length = kvs.length := by
      have := congrArg List.length ek
      rwa [List.length_map, List.length_map] at this
    refine ⟨fun z => ⟨b1, by rw [z, List.length_map, hl]; exact Nat.le_refl _⟩, fun d hd => ?_⟩
    rw [List.getElem?_map] at hd
    cases hk : kvs[i]? with
    | none => rw [hk] at hd; cases hd
    | some p =>
      rw [hk] at hd
      cases hd
      have hi : i < es.length := by rw [hl]; exact (List.getElem?_eq_some_iff.mp hk).1
      refine ⟨⟨b1, hi⟩, fun v H3 yl => ?_⟩
      obtain ⟨rfl, x, hx, rfl⟩ := yl
      have ex : x.1 = p.1 := by
        have := congrArg (fun l => l[i]?) ek
        simp only [List.getElem?_map, hx, hk, Option.map_some] at this
        exact Option.some.inj this
      rw [ex]
      exact ⟨Same.refl _, rp_ofK _⟩
  refine iter_keys hs g1 g2 hod (pi_one (tk := s1.toks) I1 _ (turn_kk _ hod) ⟨_, Heap.get?_push_size _ rfl, rfl, ?_⟩ q)
  rw [hsz]; rfl
end
end DL
namespace DL
open PySem PySem.Spec PyProof.Rows L2
section
variable {prog : Program} {w : World} {A : Around} {E : Value → Shared → Prop} {s : Shared}
theorem fm_congr {α β : Type} {f g : α → Option β} : ∀ (l : List α), (∀ x ∈ l, f x = g x) → l.filterMap f = l.filterMap g
  | [], _ => rfl
  | x :: l, h => by rw [List.filterMap_cons, List.filterMap_cons, h x List.mem_cons_self, fm_congr l fun y hy => h y (List.mem_cons_of_mem _ hy)]
theorem fm_range {α : Type} : ∀ (ys : List α), ((List.range ys.length).filterMap fun m => ys[m]?) = ys
  | [] => rfl
  | y :: ys => by
    rw [List.length_cons, List.range_succ_eq_map, List.filterMap_cons, List.filterMap_map]
    show y :: _ = _
    congr 1
    exact fm_range ys
theorem pick_back (xs : Array Value) (n : Nat) (h : xs.size = n) : ((List.range n).filterMap fun (m : Nat) => xs[(((n : Int) - 1) + (m : Int) * (-1)).toNat]?) = xs.toList.reverse := by
  have hl : xs.toList.reverse.length = n := by rw [List.length_reverse, Array.length_toList]; exact h
  have e := fm_range xs.toList.reverse
  rw [hl] at e
  refine (fm_congr _ fun m hm => ?_).trans e
  have hm := List.mem_range.mp hm
  have e1 : (((n : Int) - 1) + (m : Int) * (-1)).toNat = n - 1 - m := by omega
  rw [e1, List.getElem?_reverse (by rw [Array.length_toList]; omega), Array.length_toList, h, Array.getElem?_toList]
theorem back_adjust (n : Nat) : Builtin.Slice.sliceAdjust none none (-1) (n : Int) = ((n : Int) - 1, -1) := by
  unfold Builtin.Slice.sliceAdjust
  simp
theorem back_places (n : Nat) : Builtin.Slice.slicePlaces ((n : Int) - 1) (-1) (-1) = n := by
  unfold Builtin.Slice.slicePlaces
  simp
  omega
theorem getItem_tuple_back {t sl : Addr} {items : Array Value} {vl vu vs : Value} {Q : Value → Shared → Prop} (ht : IsTup s.heap t items) (hs : s.heap.IsSliceOf sl vl vu vs) (pl : IsPart vl none) (pu : IsPart vu none) (ps : IsPart vs (some (-1)))
    (h : Q (.ref s.heap.objs.size) { s with heap := s.heap.push { cls := .type "tuple", data := .seq items.toList.reverse.toArray } })
    (hsz : items.size ≤ sizeLine) : wpAny (model prog w) A (getItem (.ref t) (.ref sl)) Q E s := by
  have htake : sizeOk (.seq items.toList.reverse.toArray) := by
    show items.toList.reverse.toArray.size ≤ sizeLine
    rw [List.size_toArray, List.length_reverse, Array.length_toList]
    exact hsz
  obtain ⟨os, hos, hcs, hds⟩ := id hs
  have hTs : s.TypeIs (.ref sl) "slice" := ⟨os, hos, hcs⟩
  cases pl
  cases pu
  obtain ⟨u, rfl⟩ : ∃ u, vs = .int (-1) u := by cases ps; exact ⟨_, rfl⟩
  unfold getItem
  try with_reducible refine wpAny_holding ?_
  first | refine wpAny_bind (wpAny_pure ?_) | skip
  refine wpAny_bind (wpAny_sequenceKey ht.typeIs (by decide) ?_)
  refine wpAny_bind (wpAny_callSpecial?_slot (name := Str.ofString "__getitem__") ht.typeIs PyProof.Rows.slot_tuple_getitem
    (wpAny_call_entry PyProof.Rows.slot_tuple_getitem ht.typeIs entry_tuple_getitem ?_ (args_tuple_getitem _ _)))
  show wpAny _ _ (Builtin.Tuple.tupleItemsOf (.ref t) >>= _) _ _ s
  refine wpAny_bind (tupleItemsOf_ ht ?_)
  refine wpAny_bind (wpAny_typeOf hTs ?_)
  rw [if_pos (by decide)]
  refine wpAny_bind ?_
  · unfold Builtin.Slice.sliceApplied Builtin.Slice.sliceFields
    refine wpAny_bind (wpAny_bind (wpAny_field hos hds (x := .none) rfl (wpAny_bind (wpAny_field hos hds (x := .none) rfl (wpAny_bind (wpAny_field hos hds (x := .int (-1) u) rfl (wpAny_pure ?_)))))))
    refine wpAny_bind (slicePart_int ?_)
    show wpAny _ _ (if ((-1 : Int) == 0) = true then _ else _) _ _ s
    rw [if_neg (by decide)]
    refine wpAny_bind (slicePart_none (wpAny_bind (slicePart_none (wpAny_bind (wpAny_pure ?_)))))
    show wpAny _ _ (match Builtin.Slice.sliceAdjust none none (-1) (items.size : Int) with | (lo, hi) => pure (lo, (-1 : Int), Builtin.Slice.slicePlaces lo hi (-1))) _ _ s
    rw [back_adjust]
    show wpAny _ _ (pure ((items.size : Int) - 1, (-1 : Int), Builtin.Slice.slicePlaces ((items.size : Int) - 1) (-1) (-1))) _ _ s
    rw [back_places]
    refine wpAny_pure ?_
    have hno : ¬ (((((items.size : Int) - 1) == 0) && ((-1 : Int) == 1) && (items.size == items.size)) = true) := by
      have : ((-1 : Int) == 1) = false := by decide
      rw [this]; simp
    show wpAny _ _ (if (((((items.size : Int) - 1) == 0) && ((-1 : Int) == 1) && (items.size == items.size)) = true) then _ else _) _ _ s
    rw [if_neg hno]
    have e := pick_back items items.size rfl
    show wpAny _ _ (Builtin.Tuple.tupleExact (((List.range items.size).filterMap fun (m : Nat) => items[(((items.size : Int) - 1) + (m : Int) * (-1)).toNat]?).toArray) >>= _) _ _ s
    rw [e]
    first
      | exact wpAny_bind (m := Builtin.Tuple.tupleExact _) (wpAny_newObj_type (wpAny_pure ⟨_, rfl, wpAny_pure h⟩) htake)
      | exact wpAny_bind (m := Builtin.Tuple.tupleExact _) (wpAny_newObj_type (wpAny_bind (wpAny_pure (wpAny_pure ⟨_, rfl, wpAny_pure h⟩))) htake)
      | exact wpAny_bind (wpAny_bind (m := Builtin.Tuple.tupleExact _) (wpAny_newObj_type (wpAny_pure (wpAny_pure ⟨_, rfl, wpAny_pure h⟩)) htake))
      | exact wpAny_bind (wpAny_bind (m := Builtin.Tuple.tupleExact _) (wpAny_newObj_type (wpAny_pure ⟨_, rfl, wpAny_pure h⟩) htake))
end
def revS (t : Str) : Str := ⟨t.cps.toList.reverse.toArray⟩
theorem revS_by (t : Str) (u : Tok) : Txt.sliceBy t none none (-1, u) = revS t := by
  have h := PyProof.Rows.step_rev_list t u
  have e : (Txt.sliceBy t none none (-1, u)).cps = t.cps.toList.reverse.toArray := by
    apply Array.toList_inj.mp
    rw [h, List.toList_toArray]
    apply List.ext_getElem?
    intro i
    rw [List.getElem?_map]
    by_cases hi : i < t.cps.size
    · have hk : t.cps.size - 1 - i < t.cps.size := by omega
      rw [List.getElem?_reverse (by rw [Array.length_toList]; exact hi), List.getElem?_range (show i < t.length from hi), Array.length_toList, Array.getElem?_toList, Array.getElem?_eq_getElem hk]
      show some (t.cps.getD (t.cps.size - 1 - i) 0) = _
      congr 1
      simp [Array.getD, hk]
    · have a1 : (List.range t.length)[i]? = none := List.getElem?_eq_none (by rw [List.length_range]; show t.cps.size ≤ i; omega)
      have a2 : t.cps.toList.reverse[i]? = none := List.getElem?_eq_none (by rw [List.length_reverse, Array.length_toList]; omega)
      rw [a1, a2]
      rfl
  show (Txt.sliceBy t none none (-1, u)) = ⟨_⟩
  rw [← e]
def revV : D → Option D
  | .tup xs => some (.tup xs.reverse)
  | .str t => if t.cps.size ≤ 1000 then some (.str (revS t)) else none
  | _ => none
def tRevX (K : KW) (te : TE) : TE := fun σ H Q => te σ H fun x H1 => ∃ as O d r, Wf as O H1 ∧ RpB K as O H1 x d ∧ revV d = some r ∧ ∀ v H', Same H1 H' → Rp K as O H' v r → Q v H'
section
variable {X : Cx} {a : Expr} {fa : Ev} {pos : Pos}
theorem pe_revX {e : Expr} {te : TE} {k : Nat} {p1 p2 p3 : Pos} (he : PE X e te) : PE X (.Subscript e (.Slice none none (some (.UnaryOp .USub (.Constant (.int 1) k p1) p2)) p3) pos) (tRevX (kw X) te) := by
  refine ⟨fun pins s σ H Q I h => ?_⟩
  refine Subscript_ (thn (he.run pins s σ H _ I h) fun v s1 ⟨x, H1, I1, r1, q1⟩ => ?_)
  obtain ⟨as, O, d, r, w, rd, hg, kk⟩ := q1
  have hst : PO X (some (.UnaryOp .USub (.Constant (.int 1) k p1) p2)) (tPart (tUn (rU fun i => .int (-i)) (tC (.int 1)))) := po_some (pe_un un_neg pe_int)
  refine wpAny_Slice (thn (po_none.run pins s1 σ H1 (fun o H2 => o = none ∧ H2 = H1) I1 ⟨rfl, rfl⟩) fun vl s2 ⟨l, H2, I2, pl, el, e2⟩ => ?_)
  subst el e2
  refine thn (po_none.run pins s2 σ H2 (fun o H3 => o = none ∧ H3 = H2) I2 ⟨rfl, rfl⟩) fun vu s3 ⟨u, H3, I3, pu, eu, e3⟩ => ?_
  subst eu e3
  refine thn (hst.run pins s3 σ H3 (fun o H4 => o = some (-1) ∧ H4 = H3) I3 ⟨1, rfl, -1, rfl, rfl, rfl⟩) fun vs s4 ⟨o, H4, I4, ps, eo, e4⟩ => ?_
  subst eo e4
  have I5 : L2.Inv X pins σ H4 { s4 with heap := s4.heap.push { cls := .type "slice", data := .fields #[vl, vu, vs] } } := I4.kept (t' := s4.toks) fun b ob q => Heap.get?_push_of_some _ q
  unfold revV at hg
  split at hg
  · cases hg
    obtain ⟨a, xs, rfl, hx, t⟩ := rd.tup
    cases r1
    obtain ⟨its, rr, ht, hz⟩ := I5.tuple hx
    have hlen := rr.length
    show wpAny (model X.prog X.w) X.A (subscriptTail e (.Slice none none (some (.UnaryOp .USub (.Constant (.int 1) k p1) p2)) p3) (.ref a) (.ref s4.heap.objs.size)) (EP X pins σ Q) X.xe { s4 with heap := s4.heap.push { cls := .type "slice", data := .fields #[vl, vu, vs] } }
    refine tail_any (ops := [.ref a, .ref s4.heap.objs.size]) ht.typeIs (PyProof.Rows.slot_tuple_getitem.lookup) ?_ (by with_unfolding_all rfl)
    refine getItem_tuple_back ht (Heap.IsSliceOf.new _ vl vu vs) pl pu ps ?_ (by rw [List.size_toArray]; omega)
    have hp := I5.hok.fresh (Nat.le_refl _)
    have sm := same_new (o := .tup xs.reverse) hp
    refine ⟨.ref _, _, I5.laid (t' := s4.toks) (o := .tup xs.reverse) (fun b ob q => Heap.get?_push_of_some _ q) (Nat.le_refl _) ?_, rfl, kk _ _ sm (.tup (.inl (.inl upd_same)) ((RpL.rev t).stp w (Same.stp sm)))⟩
    exact ⟨by rw [List.length_reverse]; exact hz, _, rr.reverse, IsTup.new _ _⟩
  · rename_i t
    split at hg
    · rename_i hl
      cases hg
      have e := rd.str
      subst e
      obtain ⟨tk, rfl⟩ := r1
      cases pl
      cases pu
      obtain ⟨u, rfl⟩ : ∃ u, vs = .int (-1) u := by cases ps; exact ⟨_, rfl⟩
      refine tail_any (ops := [.str _ tk, .ref s4.heap.objs.size]) (typeIs_str _ _ _) PySem.F.slot_str_getitem.lookup ?_ (by with_unfolding_all rfl)
      refine wpAny_getItem_str_slice (l := none) (u := none) (st := some (-1, u)) (Heap.IsSliceOf.new _ _ _ _) rfl ?_
      have em : sliceMade t tk none none (some (-1, u)) = .str (revS t) := by
        rw [← revS_by t u]
        rfl
      rw [em]
      refine ⟨?_, ⟨.str (revS t), H4, I5.tok _, ⟨_, rfl⟩, kk _ _ (Same.refl _) (.str _)⟩⟩
      show t.cps.toList.reverse.toArray.size ≤ sizeLine
      rw [List.size_toArray, List.length_reverse, Array.length_toList, sizeLine_eq]
      omega
    · cases hg
  · cases hg
theorem me_revX {k : Nat} {p1 p2 p3 : Pos} (ha : PE X a (tOfB (kw X) fa)) : PE X (.Subscript a (.Slice none none (some (.UnaryOp .USub (.Constant (.int 1) k p1) p2)) p3) pos) (tOf (kw X) (eUn revV fa)) := (pe_revX ha).weak fun σ H Q q => by
  obtain ⟨as, O, ρ, S, d, S', R, hf, kk⟩ := q
  unfold eUn at hf
  obtain ⟨⟨d1, S1⟩, h1, hf⟩ := Option.bind_eq_some_iff.mp hf
  obtain ⟨r, h3, hf⟩ := Option.bind_eq_some_iff.mp hf
  cases hf
  refine ⟨as, O, ρ, S, d1, S1, R, h1, fun v H1 s1 c1 r1 => ?_⟩
  have R1 := R.step s1 c1
  exact ⟨as, O, d1, _, R1.wf, r1, h3, fun v H' sm r => kk v H' (s1.trans (Same.stp sm)) (c1.same R1.wf sm) r⟩
end
def kvT (ps : List (Str × Str)) : List (Key × V) := ps.map fun p => (.inr p.1, .str p.2)
def kdT (ps : List (Str × Str)) : List (Key × D) := ps.map fun p => (.inr p.1, .str p.2)
def eKT (ps : List (Str × Str)) : Ev := fun _ S => some (.kd (kdT ps), S)
section
variable {X : Cx} {pos : Pos}
inductive KTx : List (Option Expr) → List Expr → List (Str × Str) → Prop
  | nil : KTx [] [] []
  | cons {i j : Nat} {p1 p2 : Pos} {x y : Str} {ks : List (Option Expr)} {vs : List Expr} {ps : List (Str × Str)} : KTx ks vs ps → KTx (some (.Constant (.str x) i p1) :: ks) (.Constant (.str y) j p2 :: vs) ((x, y) :: ps)
def trT (ps : List (Str × Str)) : List (TE × TE) := ps.map fun p => (tC (.str p.1), tC (.str p.2))
theorem pps_t : ∀ {ks : List (Option Expr)} {vs : List Expr} {ps : List (Str × Str)}, KTx ks vs ps → PPs X pos ks vs (trT ps)
  | _, _, _, .nil => pps_nil
  | _, _, _, .cons h => pps_cons pe_str pe_str (pps_t h)
theorem tPairs_t : ∀ (ps : List (Str × Str)) {σ : L2.St} {H : Hp} {Q : List (V × V) → Hp → Prop}, Q (ps.map fun p => (V.str p.1, V.str p.2)) H → tPairs (trT ps) σ H Q
  | [], _, _, _, h => h
  | p :: ps, σ, H, Q, h => tPairs_t ps (Q := fun qs H3 => Q ((V.str p.1, V.str p.2) :: qs) H3) h
theorem ktx_all : ∀ {ks : List (Option Expr)} {vs : List Expr} {ps : List (Str × Str)}, KTx ks vs ps → ks.all (·.isSome) = true ∧ ks.length = vs.length ∧ ks.length = ps.length
  | _, _, _, .nil => ⟨rfl, rfl, rfl⟩
  | _, _, _, .cons h => by
    obtain ⟨a, b, c⟩ := ktx_all h
    exact ⟨by rw [List.all_cons, a]; rfl, by rw [List.length_cons, List.length_cons, b], by rw [List.length_cons, List.length_cons, c]⟩
theorem rp_kt {K : KW} {as : List Addr} {O : Addr → Prop} {H : Hp} : ∀ (ps : List (Str × Str)), RpL K as O H ((kvT ps).map (·.2)) ((kdT ps).map (·.2))
  | [] => .nil
  | p :: ps => .cons (.str _) (rp_kt ps)
theorem mf_kt {ks : List (Option Expr)} {vs : List Expr} {ps : List (Str × Str)} (h : KTx ks vs ps) (hne : ks ≠ []) (h15 : ks.length ≤ 15) (hm : mergeK [] (kvT ps) = kvT ps) : PE X (.Dict ks vs pos) (tOfF (kw X) (eKT ps)) := by
  obtain ⟨ha, hl, hp⟩ := ktx_all h
  refine (pe_toK (pe_disp (pps_t h) ha hl hne h15)).weak fun σ H Q q => ?_
  obtain ⟨as, O, ρ, S, d, S', R, hf, k⟩ := q
  cases hf
  intro p hpn
  refine tPairs_t ps ⟨upd_same, kvT ps, ?_, ?_, p, kvT ps, rfl, ?_, fun o => ?_⟩
  · unfold kvT; rw [List.map_map]; rfl
  · unfold kvT; rw [List.length_map]; omega
  · rw [upd_same, hm]
  · have e : upd (upd (upd H p (.dK [])) p (.dK (mergeK [] (kvT ps)))) p (DictKO X.w p o (kvT ps)) = upd H p (DictKO X.w p o (kvT ps)) := by rw [L2.upd_upd, L2.upd_upd]
    rw [e]
    have q := new_cells (o := DictKO X.w p o (kvT ps)) R.wf R.cells hpn
    refine k p _ hpn (Same.stp (same_new hpn)) q.1 (.kd upd_same ?_ (rp_kt ps))
    unfold kvT kdT
    rw [List.map_map, List.map_map]
    rfl
end
end DL
namespace DL
open PySem PySem.Spec PyProof.Rows L2
def kT (e : Int × Value) : Str := match e.2 with
  | .str k _ => k
  | _ => Str.empty
structure TSd (w : World) (n : Nat) (es : Array (Int × Value)) (t : SetTable) (l : List Str) : Prop where
  good : ∀ e ∈ es.toList, ∃ k u, e.2 = Value.str k u ∧ e.1 = hashStr w k
  nd : (es.toList.map kT).Nodup
  mem : ∀ k, k ∈ l ↔ k ∈ es.toList.map kT
  few : es.size ≤ n
  fit : t.fits es.size = true
  ris : Ris t.place.toList
  led : w.params.followText "set-order" = true ∨ t.led = true
def TS (w : World) (n : Nat) (h : Heap) (a : Addr) (l : List Str) : Prop := ∃ o es ep t, h.get? a = some o ∧ o.ExactSet ∧ o.data = .set es ep t ∧ TSd w n es t l
section
variable {P : Program} {w : World} {n : Nat} {h h' : Heap} {a : Addr} {l : List Str}
theorem TS.at (R : TS w n h a l) (k : ∀ o, h.get? a = some o → h'.get? a = some o) : TS w n h' a l := by
  obtain ⟨o, es, ep, t, ho, r⟩ := R
  exact ⟨o, es, ep, t, k o ho, r⟩
theorem TSd.is {es : Array (Int × Value)} {t : SetTable} (R : TSd w n es t l) {e : Int × Value} (he : e ∈ es.toList) (k : Str) : (strKind P w).is k e.2 = true ↔ kT e = k := by
  obtain ⟨k0, u, h1, _⟩ := R.good e he
  unfold kT
  rw [h1]
  show Value.isStrOf k (.str k0 u) = true ↔ k0 = k
  simp [Value.isStrOf]
theorem TSd.elems {es : Array (Int × Value)} {t : SetTable} (R : TSd w n es t l) : ElemsOf (strKind P w) es.toList := fun e he => by
  obtain ⟨k, u, h1, h2⟩ := R.good e he
  exact ⟨⟨k, (R.is he k).mpr (by unfold kT; rw [h1]), h2⟩, by rw [h1] <;> rfl⟩
theorem TSd.in {es : Array (Int × Value)} {t : SetTable} (R : TSd w n es t l) (k : Str) : k ∈ l ↔ ∃ e ∈ es.toList, (strKind P w).is k e.2 = true := by
  rw [R.mem, List.mem_map]
  exact ⟨fun ⟨e, he, q⟩ => ⟨e, he, (R.is he k).mpr q⟩, fun ⟨e, he, q⟩ => ⟨e, he, (R.is he k).mp q⟩⟩
theorem TSd.perm {es es' : Array (Int × Value)} {t t' : SetTable} (R : TSd w n es t l) (p : es'.toList.Perm es.toList) (f : t'.fits es'.size = true) (r : Ris t'.place.toList) (d : w.params.followText "set-order" = true ∨ t'.led = true) : TSd w n es' t' l where
  good := fun e he => R.good e (p.mem_iff.mp he)
  nd := (p.map kT).nodup_iff.mpr R.nd
  mem := fun k => (R.mem k).trans (p.map kT).mem_iff.symm
  few := by
    have := p.length_eq
    rw [Array.length_toList, Array.length_toList] at this
    rw [this]; exact R.few
  fit := f
  ris := r
  led := d
theorem TSd.more {es es' : Array (Int × Value)} {t t' : SetTable} {k : Str} {u : Tok} (R : TSd w n es t l) (nk : k ∉ l) (p : es'.toList.Perm (es.push (hashStr w k, .str k u)).toList) (f : t'.fits es'.size = true) (r : Ris t'.place.toList) (d : w.params.followText "set-order" = true ∨ t'.led = true) : TSd w (n + 1) es' t' (l ++ [k]) := by
  rw [Array.toList_push] at p
  have pc := p.trans (List.perm_append_singleton _ _)
  have pk : (es'.toList.map kT).Perm (k :: es.toList.map kT) := pc.map kT
  refine ⟨fun e he => ?_, pk.nodup_iff.mpr (List.nodup_cons.mpr ⟨fun z => nk ((R.mem k).mpr z), R.nd⟩), fun j => ?_, ?_, f, r, d⟩
  · rcases List.mem_cons.mp (pc.mem_iff.mp he) with z | z
    · rw [z]; exact ⟨k, u, rfl, rfl⟩
    · exact R.good e z
  · rw [pk.mem_iff, List.mem_cons, ← R.mem, List.mem_append, List.mem_singleton]
    exact Or.comm
  · have := pc.length_eq
    rw [List.length_cons, Array.length_toList, Array.length_toList] at this
    have := R.few
    omega
theorem TS.more0 (R : TS w n h a l) {k : Str} (hk : k ∈ l) : TS w (n + 1) h a (l ++ [k]) := by
  obtain ⟨o, es, ep, t, ho, hx, hd, r⟩ := R
  refine ⟨o, es, ep, t, ho, hx, hd, r.good, r.nd, fun j => ?_, Nat.le_succ_of_le r.few, r.fit, r.ris, r.led⟩
  rw [← r.mem, List.mem_append, List.mem_singleton]
  exact ⟨fun z => z.elim id fun e => e ▸ hk, .inl⟩
end
section
variable {P : Program} {w : World} {A : Around} {E : Value → Shared → Prop} {s : Shared} {a : Addr} {n : Nat} {l : List Str}
theorem ts_tail {g : Bool → Sem Unit} (hg : ∀ (b : Bool) (z : Shared) (Q : Unit → Shared → Prop), Q () z → wpAny (model P w) A (g b) Q E z)
    {o : Obj} {es : Array (Int × Value)} {ep : Nat} {t : SetTable} (ho : s.heap.get? a = some o) (hx : o.ExactSet) (hd : o.data = .set es ep t)
    {es1 : Array (Int × Value)} {t1 : SetTable} (R : TSd w n es1 t1 l) (hn : n ≤ 1001) {b : Bool} {Q : Option Bool → Shared → Prop}
    (k : ∀ h', Heap.SameBut a s.heap h' → TS w n h' a l → Q (some true) { s with heap := h' }) :
    wpAny (model P w) A (do
        storeSet a es1 t1
        if (!b && t1.tooFull) = true then do
            g (relayAll t1 es1 (SetTable.grown es1.size)).2.2
            storeSet a (relayAll t1 es1 (SetTable.grown es1.size)).1 (relayAll t1 es1 (SetTable.grown es1.size)).2.1
            pure (some true)
          else pure (some true)) Q E s := by
  have bd : es1.size < scanBound := Nat.lt_of_le_of_lt (Nat.le_trans R.few hn) (by decide)
  refine wpAny_bind (wpAny_storeSet_of ho hd ?_ (fits_of_scanBound bd))
  have ho1 := store_at (es' := es1) (t' := t1) ho hd
  have sb := Heap.SameBut.update s.heap a (Obj.putSet es1 t1)
  by_cases c : (!b && t1.tooFull) = true
  · rw [if_pos c]
    have pm := relayAll_perm t1 es1 (SetTable.grown es1.size)
    have R2 := R.perm pm (relayAll_fits t1 es1 _) (relayAll_ris t1 es1 _) (R.led.imp id fun z => by rw [relayAll_led]; exact z)
    generalize relayAll t1 es1 (SetTable.grown es1.size) = Z at R2 ⊢
    obtain ⟨es2, t2, gv⟩ := Z
    refine wpAny_bind (hg _ _ _ ?_)
    refine wpAny_bind (wpAny_storeSet_of ho1 rfl ?_ (fits_of_scanBound (Nat.lt_of_le_of_lt (Nat.le_trans R2.few hn) (by decide))))
    exact wpAny_pure (k _ (sb.trans (Heap.SameBut.update _ a _)) ⟨_, es2, _, t2, store_at (es' := es2) (t' := t2) ho1 rfl, hx, rfl, R2⟩)
  · rw [if_neg c]
    exact wpAny_pure (k _ sb ⟨_, es1, _, t1, ho1, hx, rfl, R⟩)
theorem ts_add {x : Str} {u : Tok} {Q : Bool → Shared → Prop} (R : TS w n s.heap a l) (hn : n ≤ 1000)
    (k : ∀ h' b, Heap.SameBut a s.heap h' → TS w (n + 1) h' a (l ++ [x]) → Q b { s with heap := h' }) :
    wpAny (model P w) A (setAddHashed a (.str x u) ((strKind P w).hash x)) Q E s := by
  obtain ⟨o, es, ep, t, ho, hx, hd, T⟩ := id R
  have key : (strKind P w).is x (.str x u) = true := by
    show Value.isStrOf x (.str x u) = true
    simp [Value.isStrOf]
  have sc : (Value.str x u).scannable = true := rfl
  have el : ElemsOf (strKind P w) es.toList := T.elems
  have bd : es.size < scanBound := Nat.lt_of_le_of_lt (Nat.le_trans T.few hn) (by decide)
  unfold setAddHashed setAddHashedIn
  refine wpAny_holding (wpAny_bind (wpAny_setState_of ho hd T.fit ?_))
  dsimp only
  rw [byScan_of sc bd el]
  simp only [↓reduceIte]
  unfold setAddByScan
  refine wpAny_bind (wpAny_bind (wpAny_rule (wpAny_bind (wpAny_setScan_of key ho hd T.fit el ?_))))
  cases hfi : List.findIdx? (fun e => (strKind P w).is x e.2) es.toList with
  | some j =>
    dsimp only
    obtain ⟨hj, pj, _⟩ := List.findIdx?_eq_some_iff_getElem.mp hfi
    have xin : x ∈ l := (T.in (P := P) x).mpr ⟨_, List.getElem_mem hj, pj⟩
    exact wpAny_pure (wpAny_pure (k s.heap _ (Heap.SameBut.refl a s.heap) (R.more0 xin)))
  | none =>
    dsimp only
    have nin : x ∉ l := fun z => by
      obtain ⟨e, he, q⟩ := (T.in (P := P) x).mp z
      have c := List.findIdx?_eq_none_iff.mp hfi e he
      rw [q] at c
      cases c
    have hgw : ∀ (b : Bool) {z : Shared} {Q' : Unit → Shared → Prop}, Q' () z → wpAny (model P w) A (match b with | true => rule "set.scan.the-table-gave-way" | false => pure ()) Q' E z :=
      fun b z Q' q => by cases b <;> first | exact wpAny_pure q | exact wpAny_rule q
    have hs : (strKind P w).hash x = hashStr w x := rfl
    rw [hs]
    have pm := layNew_perm t es (hashStr w x) (.str x u)
    have f1 := layNew_fits t es (hashStr w x) (.str x u)
    have r1 := layNew_ris t es (hashStr w x) (.str x u) T.ris
    have d1 := layNew_led t es (hashStr w x) (.str x u)
    generalize layNew t es (hashStr w x) (.str x u) = Z at pm f1 r1 d1 ⊢
    obtain ⟨es1, t1, wd, gv⟩ := Z
    dsimp only at pm f1 r1 d1 ⊢
    have led1 : w.params.followText "set-order" = true ∨ t1.led = true := T.led.imp id fun z => by rw [d1]; exact z
    have T1 := T.more nin pm f1 r1 led1
    refine wpAny_bind (hgw _ ?_)
    split
    · refine wpAny_bind ?_
      rw [hashByValue_scannable 8 sc]
      refine wpAny_pure ?_
      refine ts_tail (n := n + 1) (l := l ++ [x]) ?_ ho hx hd (T1.perm (List.Perm.refl _) ?_ ?_ ?_) (by omega) ?_
      · intro b z Q' q; cases b <;> first | exact wpAny_pure q | exact wpAny_rule q
      · first | (split <;> first | exact f1 | exact SetTable.fits_plain_off f1) | exact f1 | exact SetTable.fits_plain_off f1
      · first | (split <;> exact r1) | exact r1
      · first | (split <;> exact led1) | exact led1
      · intro h' sb r; dsimp only; exact wpAny_pure (k h' _ sb r)
    · refine wpAny_bind (wpAny_pure ?_)
      simp only [↓reduceIte]
      refine ts_tail (n := n + 1) (l := l ++ [x]) ?_ ho hx hd T1 (by omega) ?_
      · intro b z Q' q; cases b <;> first | exact wpAny_pure q | exact wpAny_rule q
      · intro h' sb r; dsimp only; exact wpAny_pure (k h' _ sb r)
end
theorem tkey {P : Program} {w : World} (x : Str) (u : Tok) : (strKind P w).is x (.str x u) = true := by
  show Value.isStrOf x (.str x u) = true
  simp [Value.isStrOf]
def sgT (x : Str) : List Str := x.cps.toList.map fun c => ⟨#[c]⟩
section
variable {P : Program} {w : World} {A : Around} {E : Value → Shared → Prop}
theorem sgT_take {x : Str} {i c : Nat} (h : x.cps[i]? = some c) : (sgT x).take (i + 1) = (sgT x).take i ++ [⟨#[c]⟩] := by
  rw [List.take_add_one]
  congr 1
  unfold sgT
  rw [List.getElem?_map, Array.getElem?_toList, h]
  rfl
theorem ts_loop {I : Addr} {fp wr : List Addr} {G : Array GenState → Array GenState → Prop} {x : Str} {St : Nat → Shared → Prop} {R : Result → Shared → Prop}
    (W : WalksS P w A.in1 I fp wr G x.cps.size (SignAt x) St) {a : Addr} (out : a ∉ fp) (few : x.cps.size ≤ 1000) : ∀ (m i : Nat) (s : Shared), i + m = x.cps.size → St i s → TS w i s.heap a ((sgT x).take i) →
      (∀ s', Moved (a :: wr) G s s' → TS w x.cps.size s'.heap a (sgT x) → R (.ok (.ret .none)) s') → codeAny (model P w) A (.builtin "set.update.loop" ⟨[.ref a, .ref I], []⟩) R s := by
  have aw : a ∉ wr := fun h => out (W.sub _ h)
  have up : ∀ b ∈ wr, b ∈ a :: wr := fun b hb => List.mem_cons_of_mem _ hb
  intro m
  induction m with
  | zero =>
    intro i s hi st T k
    obtain rfl : i = x.cps.size := by omega
    refine codeAny_builtin PyProof.Rows.F.entry_set_update_loop ?_
    rw [Around.under_plainId PyProof.Rows.F.plain_set_update_loop _]
    show wpAny _ A.in1 (pyNext (.ref I) >>= _) _ _ s
    refine wpAny_bind (W.done s _ _ st fun s' hm => ?_)
    have e : (sgT x).take x.cps.size = sgT x := List.take_of_length_le (by unfold sgT; rw [List.length_map, Array.length_toList]; exact Nat.le_refl _)
    rw [e] at T
    show wpAny _ A.in1 (ret Value.none) _ _ s'
    exact wpAny_pure (k s' (hm.mono up) (T.at fun o e => hm.heap a o aw e))
  | succ m ih =>
    intro i s hi st T k
    have lt : i < x.cps.size := by omega
    refine codeAny_builtin PyProof.Rows.F.entry_set_update_loop ?_
    rw [Around.under_plainId PyProof.Rows.F.plain_set_update_loop _]
    show wpAny _ A.in1 (pyNext (.ref I) >>= _) _ _ s
    refine wpAny_bind (W.item i s _ _ lt st fun v s' hv st' hm => ?_)
    obtain ⟨c, u, hc, rfl⟩ := hv
    have T' : TS w i s'.heap a ((sgT x).take i) := T.at fun o e => hm.heap a o aw e
    show wpAny _ A.in1 (holding [Value.str ⟨#[c]⟩ u] (setAdd a (.str ⟨#[c]⟩ u)) >>= _) _ _ s'
    refine wpAny_bind (wpAny_holding ?_)
    unfold setAdd
    refine wpAny_holding ?_
    refine wpAny_bind ((strKind P w).pyHash (k := (⟨#[c]⟩ : Str)) (tkey _ _) ?_)
    refine ts_add (s := { s' with toks := s'.toks + 1 }) T' (by omega) fun h' b sb T2 => ?_
    rw [← sgT_take hc] at T2
    refine wpAny_pure ⟨plainId_quiet PyProof.Rows.F.plain_set_update_loop _, ih (i + 1) _ (by omega) (W.frame _ s' _ _ st' (Nat.le_succ _) fun b hb o e => ?_) T2 fun s2 hm2 T3 => ?_⟩
    · rw [sb.2 b (fun h : b = a => out (by rw [← h]; exact hb))]; exact e
    · refine k s2 (Moved.trans W.gtrans ((hm.mono up).then_heap (Nat.le_succ _) fun b o hb e => ?_) hm2) T3
      rw [sb.2 b (fun h : b = a => hb (by rw [h]; exact List.mem_cons_self))]; exact e
end
theorem sub_str_set : isSubtype (.type "str") (.type "set") = pure false := by rw [isSubtype_type]; kernel_rfl
theorem sub_str_frozenset : isSubtype (.type "str") (.type "frozenset") = pure false := by rw [isSubtype_type]; kernel_rfl
theorem ts_fresh {h : Heap} (w : World) : TS w 0 (h.push { cls := .type "set", dict := none, data := .set #[] 0 (.fresh 0 0 (!w.params.followText "set-order")) }) h.objs.size [] :=
  ⟨_, #[], 0, _, Heap.get?_push_size _ rfl, ⟨rfl, rfl, rfl⟩, rfl, ⟨(fun e he => by simp at he), (by simp), (fun k => by simp), Nat.le_refl _, (by rfl), List.Pairwise.nil, by
    show _ ∨ (!w.params.followText "set-order") = true
    cases w.params.followText "set-order"
    · exact .inr rfl
    · exact .inl rfl⟩⟩
section
variable {P : Program} {w : World} {A : Around} {E : Value → Shared → Prop} {s : Shared}
def DoneT (w : World) (s : Shared) (x : Str) (z : Shared) : Prop := ∃ h' tk, z = { s with heap := h', toks := tk } ∧ TS w x.cps.size h' s.heap.objs.size (sgT x) ∧ ∀ b o, s.heap.get? b = some o → h'.get? b = some o
theorem set_of_str {x : Str} {t : Tok} {Q : Value → Shared → Prop} (nh : A.handled = none) (few : x.cps.size ≤ 1000) (k : ∀ z, DoneT w s x z → Q (.ref s.heap.objs.size) z) : wpAny (model P w) A (call (.type "set") [.str x t]) Q E s := by
  obtain ⟨c0, tl, hmro⟩ := F.called_set.mro
  have f1 := F.called_set.made
  have f2 := F.called_set.sub
  have f3 := F.called_set.notType
  have f4 := F.called_set.canCreate
  have f5 := F.typeCall_set_1 (.str x t)
  have f6 := F.called_set.init.lookup
  refine wpAny_call (codeAny_of_tree (show wpAny _ _ (callAny (.type "set") _) _ _ _ from wpAny_pure ⟨Code.quiet_builtin _ (by decide +kernel), codeAny_builtin F.entry_type_call ?_⟩))
  rw [Around.under_plain (weight_type_call_type "set" [.str x t] []) rfl]
  repeat (any_goals (first | assumption | wp_step))
  refine codeAny_mono (code_set_led1 (.str x t) (E := E) (Q₁ := fun o z => o = .ref s.heap.objs.size ∧ z = { s with heap := s.heap.push (mtS w) }) ⟨rfl, rfl⟩) fun r z hr => ?_
  cases r with
  | error e => exact hr
  | ok fl =>
  cases fl with
  | ret o =>
    obtain ⟨rfl, rfl⟩ := hr
    have g0 : (s.heap.push (mtS w)).get? s.heap.objs.size = some (mtS w) := Heap.get?_push_size _ rfl
    have ty : Shared.TypeIs { s with heap := s.heap.push (mtS w) } (.ref s.heap.objs.size) "set" := ⟨_, g0, rfl⟩
    have f7 := F.called_set.init.bind (.ref s.heap.objs.size)
    repeat (any_goals (first | assumption | wp_step))
    refine codeAny_mono (codeAny_call_builtin (R := wants (fun r z => r = .none ∧ DoneT w s x z) E) F.called_set.init.plain F.entry_set_init (check_set_init_1 ty ?_)) fun r z hz => ?_
    · have p1 := sub_str_set
      have p2 := sub_str_frozenset
      have p3 : (Value.type "str" == Value.type "dict") = false := by decide
      have z1 : (s.heap.push (mtS w)).objs.size = s.heap.objs.size + 1 := Heap.size_push ..
      unfold Builtin.«set.__init__» noKeywords Builtin.Frozenset.updateFrom
      generalize hG : pyIter = G
      wp_walk
      subst hG
      refine wpAny_pyIter_str fun o St W st0 => ?_
      refine wpAny_bind (wpAny_runValue ?_)
      have nh3 : A.in1.in1.in1.handled = none := by simp [nh]
      have out : s.heap.objs.size ∉ [(s.heap.push (mtS w)).objs.size] := by
        rw [z1, List.mem_singleton]
        omega
      refine ts_loop (W _ nh3).toS out few (x.cps.size - 0) 0 _ (by omega) st0 ((ts_fresh w).at fun o e => Heap.get?_push_of_some _ e) fun z hm hS => ?_
      obtain ⟨h', g2, d', tk', os'⟩ := z
      have e1 : g2 = s.gens := hm.gens
      have e2 : d' = s.drawn := hm.drawn
      have e3 : os' = s.os := hm.os
      subst e1 e2 e3
      refine wpAny_pure (show wpAny _ _ (ret Value.none) _ _ _ from wpAny_pure ⟨rfl, h', tk', rfl, hS, fun b o e => ?_⟩)
      have lb := Heap.lt_size e
      refine hm.heap b o ?_ (Heap.get?_push_of_some _ (Heap.get?_push_of_some _ e))
      simp only [List.mem_cons, List.not_mem_nil, or_false, not_or]
      exact ⟨Nat.ne_of_lt lb, by rw [z1]; exact Nat.ne_of_lt (Nat.lt_succ_of_lt lb)⟩
    · cases r with
      | error e => exact hz
      | ok fl =>
        cases fl with
        | ret r =>
          obtain ⟨rfl, d⟩ := hz
          repeat (any_goals (first | assumption | wp_step))
          exact k _ d
        | _ => exact hz.elim
  | _ => exact hr.elim
end
end DL
namespace DL
open PySem PySem.Spec PyProof.Rows L2
open PySem.W (EachIs alike dataLt sortLe SortsAt)
section
variable {P : Program} {w : World} {A : Around} {E : Value → Shared → Prop} {s : Shared} {a : Addr} {n : Nat} {l : List Str}
theorem each_of : ∀ (vs : List Value), (∀ v ∈ vs, ∃ k u, v = Value.str k u) → ∃ zs : List Str, EachIs (fun v (b : Str) => ∃ t, v = Value.str b t) vs zs
  | [], _ => ⟨[], .nil⟩
  | v :: vs, h => by
    obtain ⟨k, u, rfl⟩ := h v List.mem_cons_self
    obtain ⟨zs, e⟩ := each_of vs fun v hv => h v (List.mem_cons_of_mem _ hv)
    exact ⟨k :: zs, .cons ⟨u, rfl⟩ e⟩
theorem each_len {vs : List Value} {zs : List Str} (h : EachIs (fun v (b : Str) => ∃ t, v = Value.str b t) vs zs) : vs.length = zs.length := by
  induction h with
  | nil => rfl
  | cons _ _ ih => rw [List.length_cons, List.length_cons, ih]
def ddT : List Str → List Str
  | [] => []
  | x :: xs => if x ∈ xs then ddT xs else x :: ddT xs
theorem mem_ddT : ∀ {xs : List Str} {k : Str}, k ∈ ddT xs ↔ k ∈ xs
  | [], k => Iff.rfl
  | x :: xs, k => by
    unfold ddT
    split
    · rename_i h
      rw [mem_ddT, List.mem_cons]
      exact ⟨.inr, fun z => z.elim (fun e => e ▸ h) id⟩
    · rw [List.mem_cons, List.mem_cons, mem_ddT]
theorem nodup_ddT : ∀ (xs : List Str), (ddT xs).Nodup
  | [] => List.nodup_nil
  | x :: xs => by
    unfold ddT
    split
    · exact nodup_ddT xs
    · rename_i h
      exact List.nodup_cons.mpr ⟨fun z => h (mem_ddT.mp z), nodup_ddT xs⟩
theorem TSd.card {es : Array (Int × Value)} {t : SetTable} (R : TSd w n es t l) : es.size = (ddT l).length := by
  have p : (es.toList.map kT).Perm (ddT l) := (List.perm_ext_iff_of_nodup R.nd (nodup_ddT l)).mpr fun k => by rw [mem_ddT, ← R.mem]
  have := p.length_eq
  rwa [List.length_map, Array.length_toList] at this
theorem sorted_ts {Q : Value → Shared → Prop} (R : TS w n s.heap a l) (hh : A.handled = none) (few : n ≤ 1000) (hu : A.units + 4 < cLine)
    (hQ : ∀ s' p (out : Array Value) (c : Nat) (zs : List Str), (∀ b o, s.heap.get? b = some o → s'.heap.get? b = some o) → s'.gens = s.gens → s'.os = s.os → s.heap.objs.size ≤ p →
      s'.heap.get? p = some (seqObj "list" out c) → EachIs (fun v (b : Str) => ∃ t, v = Value.str b t) out.toList zs → zs.length = (ddT l).length → Q (.ref p) s') :
    wpAny (model P w) A (call (.builtin "sorted") [.ref a]) Q E s := by
  obtain ⟨o, es, ep, t, ho, hx, hd, T⟩ := R
  refine Calls.call_function_entry kind_sorted plain_sorted entry_sorted (args_sorted1 _) ?_
  unfold Builtin.«sorted»
  refine wpAny_bind (m := checkCount "sorted" 1 1 _) (wpAny_pure ?_)
  have bd : es.size < scanBound := Nat.lt_of_le_of_lt (Nat.le_trans T.few few) (by decide)
  refine wpAny_bind (collect_set (A := A.in1) hh ⟨o, ho, hx.1, hd⟩ T.fit bd T.ris T.led fun s1 vs k1 hz g1 o1 pm => ?_)
  have vl : vs.length = (ddT l).length := by rw [pm.length_eq, List.length_map, Array.length_toList, T.card]
  obtain ⟨zs, e⟩ := each_of vs fun v hv => by
    obtain ⟨x, hx, q⟩ := List.mem_map.mp (pm.mem_iff.mp hv)
    obtain ⟨k, u, h1, _⟩ := T.good x hx
    exact ⟨k, u, by rw [← q]; exact h1⟩
  have zl := each_len e
  have sz : vs.length ≤ sizeLine := by rw [pm.length_eq, List.length_map, Array.length_toList, sizeLine_eq]; have := T.few; omega
  refine wpAny_bind (wpAny_newList ?_ sz)
  have hoL : (s1.heap.push (seqObj "list" vs.toArray 0)).get? s1.heap.objs.size = some (seqObj "list" vs.toArray 0) := Heap.get?_push_size _ rfl
  refine wpAny_bind (wpAny_holding (PySem.W.list_sort_data (enc := fun b : Str => PyData.str b) hoL e (e.mono fun v b ⟨t, q⟩ => ⟨[], by rw [q]; exact .str b t, List.not_mem_nil⟩) (PySem.W.AllAlike.of fun b b' => rfl) (PySem.W.Sortable.others fun b => ⟨fun z => (by cases z), fun xs z => (by cases z)⟩) (by rw [← zl]; exact sz) (fun b _ => ?_) fun out ho eo => ?_))
  · show A.in1.units + 1 + 0 < cLine
    have : A.in1.units ≤ A.units + 2 := by
      first
        | exact Nat.le_succ_of_le (Nat.le_refl _)
        | exact Nat.le_refl _
        | (show A.units + 1 ≤ A.units + 2; omega)
    omega
  · obtain ⟨c, hc⟩ := sortedHeap_at (vs := vs) (out := out.toArray) hoL
    refine wpAny_pure ⟨_, rfl, hQ _ s1.heap.objs.size out.toArray c _ (fun b u q => ?_) g1 o1 hz hc (by rw [List.toList_toArray]; exact eo) (by rw [(List.mergeSort_perm _ _).length_eq, ← zl]; exact vl)⟩
    have q := k1 b u q
    have hlt := Heap.lt_size q
    show (sortedHeap (s1.heap.push (seqObj "list" vs.toArray 0)) s1.heap.objs.size vs out.toArray).get? b = some u
    rw [sortedHeap_old (Nat.ne_of_lt hlt) (by rw [size_push']; exact Nat.lt_succ_of_lt hlt)]
    exact Heap.get?_push_of_some _ q
end
def TSO (w : World) (a : Addr) (n : Nat) (l : List Str) : HO := .ext fun h => TS w n h a l
def rSetT (w : World) : List V → Hp → VK → Prop := fun xs H Q => ∃ x : Str, xs = [.str x] ∧ x.cps.size ≤ 1000 ∧ ∀ p, H p = none → Q (.ref p) (upd H p (TSO w p x.cps.size (sgT x)))
def rSortT (w : World) : List V → Hp → VK → Prop := fun xs H Q => ∃ (a : Addr) (n : Nat) (l : List Str), xs = [.ref a] ∧ H a = some (TSO w a n l) ∧ n ≤ 1000 ∧ ∀ (p : Addr) (zs : List Str), zs.length = (ddT l).length → H p = none → Q (.ref p) (upd H p (.lst (zs.map V.str)))
section
variable {X : Cx} {pos p1 p2 p3 q1 q2 : Pos} {a : Expr} {fa : Ev}
theorem tso_ok {P : Program} {w : World} {H : Hp} {h : Heap} {a : Addr} {n : Nat} {l : List Str} (R : TS w n h a l) : ObjOk P w H h a (TSO w a n l) := by
  have ⟨o, _, _, _, ho, _⟩ := R
  exact ⟨R, ⟨o, ho⟩, fun h1 h2 p k => TS.at p k⟩
theorem cr_setT (hc : X.calm = true) : CallR X (.type "set") (rSetT X.w) := by
  intro pins s σ H xs us Q I r h
  obtain ⟨x, rfl, few, k⟩ := h
  obtain ⟨u, rfl, ru⟩ := vals1 r
  obtain ⟨t, rfl⟩ : ∃ t, u = Value.str x t := ru
  refine set_of_str (I.ok.hd hc) few fun z hz => ?_
  obtain ⟨h', tk, rfl, R, kp⟩ := hz
  have hn : H s.heap.objs.size = none := I.hok.fresh (Nat.le_refl _)
  exact ⟨.ref s.heap.objs.size, upd H s.heap.objs.size (TSO X.w s.heap.objs.size x.cps.size (sgT x)), I.laid (t' := tk) kp (Nat.le_refl _) (tso_ok R), rfl, k _ hn⟩
theorem cr_sortT (hc : X.calm = true) (hu : X.A.units + 65 < cLine) : CallR X (.builtin "sorted") (rSortT X.w) := by
  intro pins s σ H vs us Q I r h
  obtain ⟨a, n, l, rfl, ha, few, k⟩ := h
  have R : TS X.w n s.heap a l := (I.hok a _ ha).1
  rw [Vals.ref1 r]
  refine sorted_ts R (I.ok.hd hc) few (by omega) fun s' p out c zs kp g o hp hg e zl => ?_
  have hn : H p = none := I.hok.fresh hp
  have lt : a < s.heap.objs.size := by obtain ⟨o, _, _, _, ho, _⟩ := R; exact Heap.lt_size ho
  have hlen : (zs.map V.str).length ≤ sizeLine := by
    obtain ⟨o, es, ep, t, ho, hx, hd, T⟩ := R
    rw [List.length_map, zl, ← T.card, sizeLine_eq]
    have := T.few
    omega
  have J : L2.Inv X pins σ (upd H p (.lst (zs.map V.str))) { s with heap := s'.heap, gens := s'.gens, drawn := s'.drawn, toks := s'.toks } :=
    I.call (ch := []) (Un.laid kp hp hn) (I.hok.laid kp hp ⟨hlen, out.toList, c, vals_strs e, by rw [Array.toArray_toList]; exact hg⟩) (by rw [g]; exact I.bare) (fun _ z => nomatch z)
  have e2 : s' = { s with heap := s'.heap, gens := s'.gens, drawn := s'.drawn, toks := s'.toks } := by
    cases s'
    cases s
    cases o
    rfl
  rw [e2]
  exact ⟨.ref p, _, J, rfl, k p zs zl hn⟩
def dCard : D → Option D
  | .str x => if x.cps.size ≤ 1000 then some (.int (ddT (sgT x)).length) else none
  | _ => none
theorem me_card (hc : X.calm = true) (hu : X.A.units + 65 < cLine) (hg : Gl X "len") (hm : X.mg "len" = none) (hg1 : Gl X "sorted") (hm1 : X.mg "sorted" = none) (hg2 : Gl X "set") (hm2 : X.mg "set" = none) (ha : PE X a (tOfB (kw X) fa))
    (he : starEach [a] X.env = (false, eval a X.env) :: starEach [] X.env := by rfl) (he2 : starEach [Expr.Call (.Name "set" p3) [a] [] q2] X.env = (false, eval (Expr.Call (.Name "set" p3) [a] [] q2) X.env) :: starEach [] X.env := by rfl)
    (he3 : starEach [Expr.Call (.Name "sorted" p2) [Expr.Call (.Name "set" p3) [a] [] q2] [] q1] X.env = (false, eval (Expr.Call (.Name "sorted" p2) [Expr.Call (.Name "set" p3) [a] [] q2] [] q1) X.env) :: starEach [] X.env := by rfl) :
    PE X (.Call (.Name "len" p1) [.Call (.Name "sorted" p2) [.Call (.Name "set" p3) [a] [] q2] [] q1] [] pos) (tOf (kw X) (eUn dCard fa)) :=
  (pe_callB call_len hg hm boot_len (pa_cons (pe_callB (cr_sortT hc hu) hg1 hm1 boot_sorted (pa_cons (pe_callTy (cr_setT hc) hg2 hm2 boot_set (pa_cons ha pa_nil he) (by decide) (by decide) he rfl) pa_nil he2) (by decide) (by decide) he2 rfl) pa_nil he3) (by decide) (by decide) he3 rfl).weak fun σ H Q h => by
    obtain ⟨as, O, ρ, S, d, S', R, hf, k⟩ := h
    unfold eUn at hf
    obtain ⟨⟨d1, S1⟩, h1, hf⟩ := Option.bind_eq_some_iff.mp hf
    obtain ⟨r, h3, hf⟩ := Option.bind_eq_some_iff.mp hf
    cases hf
    refine ⟨as, O, ρ, S, d1, S1, R, h1, fun v H1 s1 c1 r1 => ?_⟩
    have R1 := R.step s1 c1
    unfold dCard at h3
    split at h3
    · rename_i x e
      have e : d1 = .str x := e
      subst e
      split at h3
      · rename_i few
        cases h3
        obtain rfl := r1.str
        refine ⟨x, rfl, few, fun p hp => ⟨p, _, _, rfl, upd_same, few, fun p' zs zl hp' => ?_⟩⟩
        have s2 := same_new (o := TSO X.w p x.cps.size (sgT x)) hp
        have R2 := R1.step (Same.stp s2) (R1.cells.same R1.wf s2)
        have s3 := same_new (o := HO.lst (zs.map V.str)) hp'
        have c3 := R2.cells.same R2.wf s3
        refine ⟨_, zs.length, rfl, .inl ⟨zs.map V.str, .inl (.inl upd_same), by rw [List.length_map]⟩, ?_⟩
        rw [zl]
        exact k _ _ ((s1.trans (Same.stp s2)).trans (Same.stp s3)) c3 (.int _)
      · cases h3
    · cases h3
end
end DL
namespace DL
open PySem PySem.Spec PyProof.Rows L2
mutual
theorem py_nodict : ∀ d : D, (py d).hasDict = false
  | .non => by simp [py, PyData.hasDict]
  | .bl _ => by simp [py, PyData.hasDict]
  | .int _ => by simp [py, PyData.hasDict]
  | .str _ => by simp [py, PyData.hasDict]
  | .tup xs => by simp only [py, PyData.hasDict]; exact py_nodictL xs
  | .lst xs => by simp only [py, PyData.hasDict]; exact py_nodictL xs
  | .obj _ => by simp [py, PyData.hasDict]
  | .dct _ => by simp [py, PyData.hasDict]
  | .kd _ => by simp [py, PyData.hasDict]
  | .scr _ => by simp [py, PyData.hasDict]
theorem py_nodictL : ∀ ds : List D, PyData.hasDictAll (pyL ds) = false
  | [] => by simp [pyL, PyData.hasDictAll]
  | d :: ds => by simp only [pyL, PyData.hasDictAll, py_nodict d, py_nodictL ds, Bool.or_self]
end
def strOk (d : D) : Bool := okD 60 d && (py d).showable && decide ((py d).shown.length ≤ 16777216)
def dStr : D → Option D
  | .lst xs => if strOk (.lst xs) = true then some (.str (py (.lst xs)).shown) else none
  | .int i => if i.natAbs.log2 < 1920 then some (.str ((toString i : String) : Str)) else none
  | _ => none
section
variable {X : Cx}
theorem cd_str (hg : X.A.guards = some []) (hu : X.A.units + 65 < cLine) : CallR X (.type "str") (rC1 (kw X) dStr) := by
  intro pins s σ H xs us Q I r q
  obtain ⟨as, O, d, rr, x, rfl, w, rd, hf, k⟩ := q
  unfold dStr at hf
  split at hf
  · rename_i xs
    split at hf
    · rename_i hs
      cases hf
      unfold strOk at hs
      rw [Bool.and_eq_true, Bool.and_eq_true] at hs
      obtain ⟨⟨hok, hsh⟩, hlen⟩ := hs
      have hlen' := of_decide_eq_true hlen
      obtain ⟨u, rfl, ru⟩ := vals1 r
      obtain ⟨a, vs, e, h, t⟩ := rd.lst
      obtain ⟨rds, hr⟩ := Dp.reads I (py (.lst xs)) x u (RpB.dp hok rd) ru
      subst e
      obtain rfl : u = Value.ref a := ru
      refine str_of_reads hr hsh (fun z => by rw [py_nodict] at z; cases z) hg ?_ (fun b o e => e) (fun h' u tk hk => ?_) (by rw [sizeLine_16]; exact hlen')
      · have := (ok_lay 60 _ hok).2
        omega
      · exact ⟨.str (py (.lst xs)).shown, H, I.kept hk, ⟨u, rfl⟩, k _ H (Same.refl H) (.str _)⟩
    · cases hf
  · rename_i i
    split at hf
    · rename_i hs
      cases hf
      rw [rd.int] at r
      exact call_str_int pins s σ H _ us Q I r ⟨i, rfl, hs, k _ H (Same.refl H) (.str _)⟩
    · cases hf
  · cases hf
end
end DL
namespace DL
open PySem PySem.Spec PyProof.Rows L2
section
variable {X : Cx} {pos : Pos} {a b : Expr} {fa fb : Ev} {fr : Bool}
def sParOO (i j : Nat) (fa fb : Ev) : Sv := fun ρ S => (fa ρ S).bind fun p => (fb ρ p.2).bind fun q => if i < ρ.length ∧ j < ρ.length ∧ i ≠ j then some (.nx ((ρ.set i (.own p.1)).set j (.own q.1)) q.2) else none
def tOfPP (K : KW) (fa fb : Ev) : TA := fun σ H Q => ∃ as O ρ S d1 S1 d2 S2, RelE K as O σ H ρ S ∧ fa ρ S = some (d1, S1) ∧ fb ρ S1 = some (d2, S2) ∧
  ∀ p p2 H1 H2, H p = none → Stp as H H1 → Cells K as (ad O p) H1 S1 → CellR K as (ad O p) H1 p d1 → H1 p2 = none → Stp as H1 H2 → Cells K as (ad (ad O p) p2) H2 S2 → CellR K as (ad (ad O p) p2) H2 p2 d2 → Q [.ref p, .ref p2] H2
theorem mpp (ha : PE X a (tOfF (kw X) fa)) (hb : PE X b (tOfF (kw X) fb)) (s1 : starEach [a, b] X.env = (false, eval a X.env) :: starEach [b] X.env) (s2 : starEach [b] X.env = (false, eval b X.env) :: starEach [] X.env) : PA X [a, b] (tOfPP (kw X) fa fb) :=
  (pa_cons ha (pa_cons hb pa_nil s2) s1).weak fun σ H Q q => by
    obtain ⟨as, O, ρ, S, d1, S1, d2, S2, R, h1, h2, k⟩ := q
    refine ⟨as, O, ρ, S, d1, S1, R, h1, fun p H1 n t1 c1 q1 => ?_⟩
    have R1 := R.beside n t1 c1 q1
    exact ⟨as, ad O p, ρ, S1, d2, S2, R1, h2, fun p2 H2 n2 t2 c2 q2 => k p p2 H1 H2 n t1 c1 q1 n2 t2 c2 q2⟩
theorem ms_parOO {i j : Nat} {x y : Str} {px py pt : Pos} {kt k2 pt2} (hc : X.calm = true) (hN : X.N.Nodup) (hi : X.N[i]? = some x) (hj : X.N[j]? = some y) (hij : i ≠ j)
    (hx : X.env.scope.names.lookup x = some .local) (hy : X.env.scope.names.lookup y = some .local) (ha : PE X a (tOfF (kw X) fa)) (hb : PE X b (tOfF (kw X) fb))
    (hw : swappedStores [.Tuple [.Name x px, .Name y py] kt pt] (.Tuple [a, b] k2 pt2) X.env = pure (some [x, y]))
    (s1 : starEach [a, b] X.env = (false, eval a X.env) :: starEach [b] X.env := by rfl) (s2 : starEach [b] X.env = (false, eval b X.env) :: starEach [] X.env := by rfl)
    (hs : swapsWithSole [.Tuple [.Name x px, .Name y py] kt pt] (.Tuple [a, b] k2 pt2) pos.line X.env = pure false := by rfl) :
    PS X (.Assign [.Tuple [.Name x px, .Name y py] kt pt] (.Tuple [a, b] k2 pt2) pos) (tOfS fr (kw X) (sParOO i j fa fb)) :=
  (ps_par hc hN hi hj hij hx hy (mpp ha hb s1 s2) hw hs).weak fun D σ H q => by
    obtain ⟨as, O, B, G, ρ, S, o, R, hf, k⟩ := q
    unfold sParOO at hf
    obtain ⟨⟨d1, S1⟩, h1, hf⟩ := Option.bind_eq_some_iff.mp hf
    obtain ⟨⟨d2, S2⟩, h2, hf⟩ := Option.bind_eq_some_iff.mp hf
    split at hf
    · rename_i hil
      cases hf
      refine ⟨as, _, ρ, S, d1, S1, d2, S2, R.e, h1, h2, fun p p2 H1 H2 n t1 c1 q1 n2 t2 c2 q2 => ⟨_, _, rfl, ?_⟩⟩
      have R1 := R.setOwn i hil.1 n t1 c1 q1
      have sb : ∀ b, OO O (ρ.set i (.own d1)) (σ.set i (some (.ref p))) b → ad (OO O ρ σ) p b := fun b h => by
        rcases h with h | ⟨l, e, h1, h2⟩
        · exact .inl (.inl h)
        · rcases get_set h1 with ⟨rfl, z⟩ | ⟨ne, z⟩
          · rcases get_set h2 with ⟨_, y⟩ | ⟨y, _⟩
            · exact .inr (by cases y; rfl)
            · exact absurd rfl y
          · rw [List.getElem?_set_ne (Ne.symm ne)] at h2
            exact .inl (.inr ⟨l, e, z, h2⟩)
      have sb2 : ∀ b, ad (OO O (ρ.set i (.own d1)) (σ.set i (some (.ref p)))) p2 b → ad (ad (OO O ρ σ) p) p2 b := fun b h => h.elim (fun h => .inl (sb b h)) .inr
      have R2 := R1.setOwn j (by rw [List.length_set]; exact hil.2.1) n2 t2 (c2.anti sb2) (q2.anti sb2)
      exact k _ _ R2
    · cases hf
theorem parOO_s {ρ : List Slot} {S S' S2 : List D} {i j : Nat} {d d2 : D} (h : fa ρ S = some (d, S')) (h2 : fb ρ S' = some (d2, S2)) (hi : i < ρ.length) (hj : j < ρ.length) (hij : i ≠ j) : sParOO i j fa fb ρ S = some (.nx ((ρ.set i (.own d)).set j (.own d2)) S2) := by
  unfold sParOO
  rw [h, Option.bind_some, h2, Option.bind_some]
  exact if_pos ⟨hi, hj, hij⟩
end
end DL
namespace DL
open PySem PySem.Spec PyProof.Rows L2
section
variable {X : Cx} {pos : Pos} {a b e : Expr} {es : List Expr} {f fa fb : Ev} {fr : Bool}
def gOfL (K : KW) (ps : List Pat) : TG := fun v σ H Q => ∃ as O xs l, Rp K as O H v (.lst xs) ∧ bindsL ps xs = some l ∧ ∀ vl, RpP K as O H vl l → Q (putV σ vl) H
theorem mg_lst {k : Nat} {ps : List Pat} (hc : X.calm = true) (h : PGs X es (gsOf (kw X) ps)) (hn : (assignEach es X.env).length = ps.length := by rfl) (hst : (assignEach es X.env).findIdx? (·.1) = none := by rfl) : PG X (.Tuple es k pos) (gOfL (kw X) ps) :=
  (pg_unl hc h hn hst).weak fun v σ H Q q => by
    obtain ⟨as, O, xs, l, r, hb, k⟩ := q
    cases r with
    | lst n h t => exact ⟨_, _, rfl, .inl (.inl h), (Rp.length t).trans (bindsL_len hb), as, O, _, l, t, hb, k⟩
def sAsgL (ps : List Pat) (f : Ev) : Sv := fun ρ S => (f ρ S).bind fun q => match q.1 with
  | .lst xs => (bindsL ps xs).bind fun l => some (.nx (putD ρ l) q.2)
  | _ => none
theorem ms_asgL {tg : Expr} {ps : List Pat} (he : PE X e (tOf (kw X) f)) (hg : PG X tg (gOfL (kw X) ps)) (hs : swapsWithSole [tg] e pos.line X.env = pure false := by rfl) (hw : swappedStores [tg] e X.env = pure none := by rfl)
    (h1 : (assignEach [tg] X.env).map (·.2) = [assign tg X.env] := by rfl) : PS X (.Assign [tg] e pos) (tOfS fr (kw X) (sAsgL ps f)) := (ps_asg he hg hs hw h1).weak fun D σ H q => by
  obtain ⟨as, O, B, G, ρ, S, o, R, hf, k⟩ := q
  unfold sAsgL at hf
  obtain ⟨⟨d1, S1⟩, h1, hf⟩ := Option.bind_eq_some_iff.mp hf
  cases d1 with
  | lst xs =>
    obtain ⟨l, h2, hf⟩ := Option.bind_eq_some_iff.mp hf
    cases hf
    refine ⟨as, _, ρ, S, _, S1, R.e, h1, fun v H1 s1 c1 r1 => ?_⟩
    have R1 := R.step s1 c1
    exact ⟨as, _, xs, l, r1, h2, fun vl r2 => k _ _ (R1.put r2)⟩
  | _ => cases hf
def fmtD : D → Option Str
  | .str y => if y.length ≤ 16777216 then some y else none
  | .int i => if i.natAbs.log2 < 1920 then some ((toString i : String) : Str) else none
  | _ => none
def jsE : List (Bool × Ev) → Str → Ev
  | [], acc => fun _ S => some (.str acc, S)
  | p :: ps, acc => fun ρ S => (p.2 ρ S).bind fun q => (if p.1 = true then fmtD q.1 else match q.1 with | .str y => some y | _ => none).bind fun y => if (acc ++ y).length ≤ 16777216 then jsE ps (acc ++ y) ρ q.2 else none
inductive JD (X : Cx) : List Expr → List (Bool × Ev) → Prop
  | nil : JD X [] []
  | txt {e : Expr} {f : Ev} {es : List Expr} {ps : List (Bool × Ev)} : PE X e (tOf (kw X) f) → JD X es ps → JD X (e :: es) ((false, f) :: ps)
  | fmt {e : Expr} {f : Ev} {es : List Expr} {ps : List (Bool × Ev)} {pos : Pos} : PE X e (tOf (kw X) f) → JD X es ps → JD X (.FormattedValue e (-1) none pos :: es) ((true, f) :: ps)
theorem JD.run {es : List Expr} {ps : List (Bool × Ev)} (h : JD X es ps) : ∃ ts, PJ X es ts ∧ ∀ (acc : Str) (σ : L2.St) (H : Hp) (Q : Str → Hp → Prop) (as : List Addr) (O : Addr → Prop) (ρ : List Slot) (S : List D) (d : D) (S' : List D),
    RelE (kw X) as O σ H ρ S → jsE ps acc ρ S = some (d, S') → (∀ y H', d = .str y → Stp as H H' → Cells (kw X) as O H' S' → Q y H') → tJs ts acc σ H Q := by
  induction h with
  | nil =>
    refine ⟨[], .nil, fun acc σ H Q as O ρ S d S' R hf k => ?_⟩
    cases hf
    exact k _ H rfl Stp.refl R.cells
  | @txt e f es ps he _ ih =>
    obtain ⟨ts, hj, ih⟩ := ih
    refine ⟨_ :: ts, .cons he hj, fun acc σ H Q as O ρ S d S' R hf k => ?_⟩
    unfold jsE at hf
    obtain ⟨⟨d1, S1⟩, h1, hf⟩ := Option.bind_eq_some_iff.mp hf
    obtain ⟨y, hy, hf⟩ := Option.bind_eq_some_iff.mp hf
    rw [if_neg (by exact Bool.false_ne_true)] at hy
    split at hf
    · rename_i hl
      refine ⟨as, O, ρ, S, d1, S1, R, h1, fun v H1 s1 c1 r1 => ?_⟩
      cases d1 with
      | str z =>
        cases hy
        cases r1
        exact ⟨_, rfl, by rw [sizeLine_16]; exact hl, ih _ σ H1 Q as O ρ S1 d S' (R.step s1 c1) hf fun y' H' e s c => k y' H' e (s1.trans s) c⟩
      | _ => cases hy
    · cases hf
  | @fmt e f es ps pos he _ ih =>
    obtain ⟨ts, hj, ih⟩ := ih
    refine ⟨_ :: ts, .cons (pe_fmt he) hj, fun acc σ H Q as O ρ S d S' R hf k => ?_⟩
    unfold jsE at hf
    obtain ⟨⟨d1, S1⟩, h1, hf⟩ := Option.bind_eq_some_iff.mp hf
    obtain ⟨y, hy, hf⟩ := Option.bind_eq_some_iff.mp hf
    rw [if_pos rfl] at hy
    split at hf
    · rename_i hl
      refine ⟨as, O, ρ, S, d1, S1, R, h1, fun v H1 s1 c1 r1 => ?_⟩
      have go := ih (acc ++ y) σ H1 Q as O ρ S1 d S' (R.step s1 c1) hf fun y' H' e s c => k y' H' e (s1.trans s) c
      cases d1 with
      | str z =>
        have hy : (if z.length ≤ 16777216 then some z else none) = some y := hy
        split at hy
        · rename_i hz
          cases hy
          cases r1
          exact .inl ⟨_, rfl, by rw [sizeLine_16]; exact hz, _, rfl, by rw [sizeLine_16]; exact hl, go⟩
        · cases hy
      | int i =>
        have hy : (if i.natAbs.log2 < 1920 then some ((toString i : String) : Str) else none) = some y := hy
        split at hy
        · rename_i hz
          cases hy
          cases r1
          exact .inr ⟨_, rfl, hz, _, rfl, by rw [sizeLine_16]; exact hl, go⟩
        · cases hy
      | _ => cases hy
    · cases hf
theorem jsE_str : ∀ (ps : List (Bool × Ev)) (acc : Str) (ρ : List Slot) (S : List D) (d : D) (S' : List D), jsE ps acc ρ S = some (d, S') → ∃ y, d = .str y
  | [], acc, ρ, S, d, S', h => by cases h; exact ⟨_, rfl⟩
  | p :: ps, acc, ρ, S, d, S', h => by
    unfold jsE at h
    obtain ⟨q, h1, h⟩ := Option.bind_eq_some_iff.mp h
    obtain ⟨y, h2, h⟩ := Option.bind_eq_some_iff.mp h
    split at h
    · exact jsE_str ps _ _ _ _ _ h
    · cases h
theorem me_js {v1 v2 : Expr} {rest : List Expr} {ps : List (Bool × Ev)} (h : JD X (v1 :: v2 :: rest) ps) : PE X (.JoinedStr (v1 :: v2 :: rest) pos) (tOf (kw X) (jsE ps Str.empty)) := by
  obtain ⟨ts, hj, hr⟩ := h.run
  refine (pe_joined hj).weak fun σ H Q q => ?_
  obtain ⟨as, O, ρ, S, d, S', R, hf, k⟩ := q
  exact hr Str.empty σ H _ as O ρ S d S' R hf fun y H' e s c => by
    subst e
    exact k _ H' s c (.str y)
def dIntT : D → Option D
  | .str x => if x.length ≤ 640 then (PySem.intText? x).map .int else none
  | _ => none
theorem cd_intT : CallR X (.type "int") (rC1 (kw X) dIntT) := by
  intro pins s σ H xs us Q I r q
  obtain ⟨as, O, d, rr, x, rfl, w, rd, hg, k⟩ := q
  unfold dIntT at hg
  split at hg
  · split at hg
    · rename_i hl
      obtain ⟨n, hn, rfl⟩ := Option.map_eq_some_iff.mp hg
      rw [rd.str] at r
      exact L2.call_int_str pins s σ H _ us Q I r ⟨_, n, rfl, hn, hl, k _ H (Same.refl H) (.int n)⟩
    · cases hg
  · cases hg
def dSplit : D → D → Option D
  | .str a, .str b => if (b.length == 0) = false ∧ a.length + 2 ≤ 16777216 then some (.lst ((Txt.split a b).map .str)) else none
  | _, _ => none
theorem md_split : MtR X "str.split" (rM2 (kw X) dSplit) := by
  intro pins s σ H x xs v us Q I rx rxs q
  obtain ⟨as, O, d, e, r, y, rfl, w, rd, re, hg, k⟩ := q
  unfold dSplit at hg
  split at hg
  · split at hg
    · rename_i hl
      cases hg
      have e1 := rd.str
      have e2 := re.str
      subst e1 e2
      refine mt_split pins s σ H _ _ v us Q I rx rxs ⟨_, _, rfl, rfl, hl.1, by rw [sizeLine_16]; exact hl.2, fun p hp => ?_⟩
      exact k _ _ (same_new hp) (.lst (w.nel hp) upd_same (rp_strs _))
    · cases hg
  · cases hg
end
end DL
namespace DL
open PySem PySem.Spec PyProof.Rows L2
def sAug (i : Nat) (f : Ev) : Sv := fun ρ S => match ρ[i]? with
  | some (.val (.int a)) => (f ρ S).bind fun q => match q.1 with
    | .int b => some (.nx (ρ.set i (.val (.int (a + b)))) q.2)
    | _ => none
  | _ => none
section
variable {X : Cx} {pos : Pos} {a b e : Expr} {f fa fb : Ev} {fr : Bool}
theorem ms_aug {i : Nat} {x : Str} {pos' : Pos} (hN : X.N.Nodup) (hi : X.N[i]? = some x) (hx : Loc X.env.scope x) (he : PE X e (tOf (kw X) f)) (hf : X.fn x = true ∨ X.env.scope.names.lookup x = some .local := by first | exact .inl rfl | exact .inr rfl | assumption) :
    PS X (.AugAssign (.Name x pos') .Add e pos) (tOfS fr (kw X) (sAug i f)) := (ps_aug hN hi hx he ip_add hf).weak fun D σ H q => by
  obtain ⟨as, O, B, G, ρ, S, o, R, hf, k⟩ := q
  unfold sAug at hf
  split at hf
  · rename_i n hr
    obtain ⟨⟨d1, S1⟩, h1, hf⟩ := Option.bind_eq_some_iff.mp hf
    obtain ⟨v, hv, rv⟩ := R.e.val i _ hr
    cases rv
    dsimp only at hf
    split at hf
    · cases hf
      refine ⟨_, hv, as, _, ρ, S, _, S1, R.e, h1, fun w H1 s1 c1 r1 => ?_⟩
      cases r1
      exact ⟨_, _, rfl, rfl, k _ _ ((R.step s1 c1).set i (.int _))⟩
    · cases hf
  · cases hf
theorem aug_s {ρ : List Slot} {S S' : List D} {i : Nat} {n m : Int} (h : ρ[i]? = some (.val (.int n))) (h2 : f ρ S = some (.int m, S')) : sAug i f ρ S = some (.nx (ρ.set i (.val (.int (n + m)))) S') := by
  unfold sAug
  rw [h]
  show (f ρ S).bind _ = _
  rw [h2]
  rfl
def dLenK : D → Option D
  | .dct kvs => some (.int kvs.length)
  | _ => none
theorem cd_lenK : CallR X (.builtin "len") (rC1 (kw X) dLenK) := by
  intro pins s σ H xs us Q I r q
  obtain ⟨as, O, d, rr, x, rfl, w, rd, hg, k⟩ := q
  unfold dLenK at hg
  split at hg
  · rename_i kvs
    cases hg
    obtain ⟨a, ob, xs, rfl, hq, rk, rvv, ek, ok⟩ := rd.dct
    obtain ⟨u, rfl, ru⟩ := vals1 r
    obtain rfl : u = Value.ref a := ru
    obtain ⟨hd, hz, ys, xy, dd⟩ := dctOf I hq rk (by rw [ek, List.map_map]; rfl) (keysOk_ky ok)
    have hl : xs.length = ys.length := xy.length.symm
    refine call_len_dictH hd dd (by rw [← hl]; rw [sizeLine_eq] at hz; omega) ?_
    have e := congrArg List.length ek
    rw [List.length_map, List.length_map] at e
    rw [← hl, e]
    exact ⟨V.int (kvs.length : Int), H, I.tok _, ⟨_, rfl⟩, k _ H (Same.refl H) (.int _)⟩
  · cases hg
def eDIx (fo fk : Ev) : Ev := fun ρ S => (fo ρ S).bind fun p => (fk ρ p.2).bind fun q => match p.1 with
  | .dct kvs => if (isTupD q.1 && kyD 7 q.1) = true then (valD kvs q.1).bind fun r => some (r, q.2) else none
  | _ => none
theorem me_dix (hu : X.A.units + 64 < cLine) (ho : PE X e (tOfB (kw X) f)) (hb : PE X b (tOf (kw X) fb)) (hs : NoSl b := by intro _ _; rfl) : PE X (.Subscript e b pos) (tOf (kw X) (eDIx f fb)) := by
  refine ⟨fun pins s σ H Q I h => ?_⟩
  obtain ⟨as, O, ρ, S, d, S', R, hf, k⟩ := h
  unfold eDIx at hf
  obtain ⟨⟨d1, S1⟩, h1, hf⟩ := Option.bind_eq_some_iff.mp hf
  obtain ⟨⟨d2, S2⟩, h2, hf⟩ := Option.bind_eq_some_iff.mp hf
  obtain ⟨kvs, rfl⟩ : ∃ kvs, d1 = .dct kvs := by
    cases d1 <;> first | exact ⟨_, rfl⟩ | cases hf
  dsimp only at hf
  split at hf
  case isFalse => cases hf
  case isTrue kb =>
  have kb : (isTupD d2 && kyD 7 d2) = true := kb
  rw [Bool.and_eq_true] at kb
  obtain ⟨dv, hl, hf⟩ := Option.bind_eq_some_iff.mp hf
  cases hf
  refine subD_of PySem.F.slot_dict_getitem.lookup hs (thn (ho.run pins s σ H (fun v H1 => Stp as H H1 ∧ Cells (kw X) as O H1 S1 ∧ RpB (kw X) as O H1 v (.dct kvs)) I ⟨as, O, ρ, S, _, S1, R, h1, fun v H' s c r => ⟨s, c, r⟩⟩) fun u s1 ⟨v, H1, I1, rv, s1', c1, rr⟩ => ?_)
  have R1 := R.step s1' c1
  refine thn (hb.run pins s1 σ H1 (fun v H2 => Stp as H1 H2 ∧ Cells (kw X) as O H2 S' ∧ Rp (kw X) as O H2 v d2) I1 ⟨as, O, ρ, S1, d2, S', R1, h2, fun v H' s c r => ⟨s, c, r⟩⟩) fun iv s2 ⟨y, H2, I2, ry, s2', c2, r2⟩ => ?_
  have R2 := R1.step s2' c2
  obtain ⟨a, ob, xs, rfl, hq, rk, rvv, ek, ok⟩ := rr.dct
  obtain rfl : u = Value.ref a := rv
  obtain ⟨b', rfl⟩ := rp_tup_ref kb.1 r2
  obtain rfl : iv = Value.ref b' := ry
  have nb : a ∉ as ∨ False := by
    rcases rr with rr | ⟨a', e', n, cc⟩
    · cases rr with
      | dct n _ _ _ _ _ => exact .inl fun m => n (R1.wf.sub _ m)
    · cases e'
      exact .inl n
  have na : a ∉ as := nb.resolve_right id
  have hq2 : H2 a = some (DictO X.w a ob xs) := s2' a _ na hq
  obtain ⟨hd, hz, ys, xy, dd⟩ := dctOf I2 hq2 (rk.stp R1.wf s2') (by rw [ek, List.map_map]; rfl) (keysOk_ky ok)
  have kk := key_is I2 7 _ d2 (.ref b') r2 kb.2 rfl
  have tv2 := rvv.stp R1.wf s2'
  rcases val_get d2 xy ek tv2 with ⟨h4, h5⟩ | ⟨p, v0, d0, h4, h5, rv0, rd0⟩
  · rw [h5] at hl; cases hl
  · rw [h5] at hl
    cases hl
    exact ⟨dd.typeIs, wpAny_getItem_heap (knd := nestedKind X.prog X.w) (show X.A.units + 1 + 8 < cLine by omega) ⟨kk, Nat.le_succ_of_le (ky_depth 7 d2 kb.2)⟩ dd h4 ⟨v0, H2, I2.tok _, rv0, k _ H2 (s1'.trans s2') c2 rd0⟩⟩
def keysI : List (Key × D) → Option (List Int)
  | [] => some []
  | (.inl i, _) :: kvs => (keysI kvs).map (i :: ·)
  | (.inr _, _) :: _ => none
def sortKI : D → Option (List D)
  | .kd kvs => (keysI kvs).map fun is => (is.mergeSort (· ≤ ·)).map .int
  | _ => none
theorem keysI_keys : ∀ {kvs : List (Key × D)} {is : List Int}, keysI kvs = some is → kvs.map (·.1) = is.map Sum.inl
  | [], is, h => by cases h; rfl
  | (.inl i, d) :: kvs, is, h => by
    obtain ⟨js, h1, h2⟩ := Option.map_eq_some_iff.mp h
    subst h2
    rw [List.map_cons, List.map_cons, keysI_keys h1]
  | (.inr _, _) :: _, is, h => by cases h
theorem kv_len {es : List (Key × V)} {vs : List (Key × Value)} (r : KV es vs) : es.map (·.1) = vs.map (·.1) := KV.keys r
theorem ints_from {vs : List (Key × Value)} {P : Program} {w : World} : ∀ {is : List Int} {l : List Value}, l.length = is.length → (∀ (j : Nat) (v : Value), l[j]? = some v → ∃ i, is[j]? = some i ∧ ∃ t, v = .int i t) → IntsAre l is
  | [], [], _, _ => .nil
  | [], _ :: _, e, _ => by simp at e
  | _ :: _, [], e, _ => by simp at e
  | i :: is, v :: l, e, h => by
    obtain ⟨i', h1, t, h2⟩ := h 0 v rfl
    cases h1
    subst h2
    exact .cons i t (ints_from (vs := vs) (P := P) (w := w) (by simpa using e) fun j v hv => h (j + 1) v hv)
theorem cd_sortKI (hc : X.calm = true) : CallR X (.builtin "sorted") (rF1 (kw X) sortKI) := by
  intro pins s σ H xs us Q I r q
  obtain ⟨as, O, d, rr, x, rfl, w, rd, hg, k⟩ := q
  unfold sortKI at hg
  split at hg
  · rename_i kvs
    obtain ⟨is, h1, rfl⟩ := Option.map_eq_some_iff.mp hg
    obtain ⟨a, ob, es, rfl, hq, ek, t⟩ := rd.kd
    obtain ⟨u, rfl, ru⟩ := vals1 r
    obtain rfl : u = Value.ref a := ru
    obtain ⟨hd, hz, vs, kv, dd⟩ := (relK I hq).dict X.prog
    obtain ⟨ep, hat⟩ := dd.dictAt
    have hkeys : vs.map (·.1) = is.map Sum.inl := by rw [← KV.keys kv, ek, keysI_keys h1]
    have hlen : vs.length = is.length := by
      have := congrArg List.length hkeys
      rwa [List.length_map, List.length_map] at this
    have hn : vs.length ≤ sizeLine := by rw [← KV.length kv]; exact hz
    refine Calls.call_function_entry kind_sorted plain_sorted entry_sorted (args_sorted1 _) ?_
    unfold Builtin.«sorted»
    refine wpAny_bind (m := checkCount "sorted" 1 1 _) (wpAny_pure ?_)
    refine wpAny_bind (PySem.W.kdu_collect (A := X.A.in1) (PySem.W.kdl_dict (knd := mixKind X.prog X.w) (kvs := vs) (ep := ep) hd) (I.ok.hd hc) hat hn fun h' tk acc hk hacc => ?_)
    have hl : acc.toList.length = vs.length := by rw [Array.length_toList]; exact hacc.1
    have hi : IntsAre acc.toList is := ints_from (vs := vs) (P := X.prog) (w := X.w) (hl.trans hlen) fun j v hv => by
      obtain ⟨ky, x, hx, hy⟩ := hacc.2 j v (by rw [← Array.getElem?_toList]; exact hv)
      have e : (vs.map (·.1))[j]? = some ky := by rw [List.getElem?_map, hx]; rfl
      rw [hkeys, List.getElem?_map] at e
      cases hj : is[j]? with
      | none => rw [hj] at e; cases e
      | some i =>
        rw [hj] at e
        cases e
        rcases keyIs_shape (k := Sum.inl i) (v := v) hy with ⟨i', t', h1, h2⟩ | ⟨_, _, h1, _⟩
        · cases h1
          exact ⟨_, rfl, t', h2⟩
        · cases h1
    refine wpAny_bind (wpAny_newList ?_ (by rw [hl]; exact hn))
    have hob : (h'.push { cls := .type "list", data := .seq acc.toList.toArray }).get? h'.objs.size = some { cls := .type "list", data := .seq acc.toList.toArray } := Heap.get?_push_size _ rfl
    have hg : wpAny (model X.prog X.w) X.A.in1 (call (.builtin "list.sort") [.ref h'.objs.size]) (fun _ s' => EP X pins σ Q (.ref h'.objs.size) s') X.xe { s with heap := h'.push { cls := .type "list", data := .seq acc.toList.toArray }, toks := tk } := by
      refine wpAny_call_entry PyProof.Rows.slot_list_sort ⟨_, hob, rfl⟩ PyProof.Rows.entry_list_sort
        (SrtO.list_sort_ord SrtO.swo_int hob (by rw [hl]; exact hn) (fun h2 => SrtO.ints_sortable hi h2) fun out h1 h2 => ⟨.none, rfl, ?_⟩) (PyProof.Rows.args_list_sort _)
      obtain ⟨k1, k2, k3⟩ := SrtO.ints_out hi h1 h2
      obtain ⟨ep', he'⟩ := PyProof.Rows.sortedHeap_at (vs := acc.toList) (out := out.toArray) hob
      have hp : s.heap.get? h'.objs.size = none := by
        cases e : s.heap.get? h'.objs.size with
        | none => rfl
        | some o => exact absurd (Heap.lt_size (hk _ _ e)) (Nat.lt_irrefl _)
      have hf : H h'.objs.size = none := (I.kept (t' := tk) hk).hok.fresh (Nat.le_refl _)
      have hlen : ((out.map SrtO.iv).map V.int).length ≤ sizeLine := by
        rw [List.length_map, k2.length_eq, ← hlen]
        exact hn
      rw [← sort_one k2 k3] at k
      refine ⟨.ref _, upd H h'.objs.size (.lst ((out.map SrtO.iv).map V.int)), I.laidN (t' := tk) (fun b o q => ?_) hp hf ⟨hlen, out, ep', vals_of_ints k1, he'⟩, rfl, k _ _ (rp_ints _) hf⟩
      have q1 := Heap.get?_push_of_some { cls := .type "list", data := .seq acc.toList.toArray } (hk b o q)
      have hb : b ≠ h'.objs.size := Nat.ne_of_lt (Heap.lt_size (hk b o q))
      rw [PyProof.Rows.sortedHeap_old hb (Heap.lt_size q1)]
      exact q1
    refine wpAny_bind (wpAny_holding (wpAny_mono hg (fun _ s' x => ?_) fun _ _ e => e))
    exact wpAny_pure ⟨_, rfl, x⟩
  · cases hg
theorem RelE.besideM {K : KW} {as : List Addr} {O : Addr → Prop} {σ : L2.St} {H H' : Hp} {ρ : List Slot} {S S' : List D} {p : Addr} (R : RelE K as O σ H ρ S) (hp : H p = none) (s : Stp as H H') (c : Cells K as (ad O p) H' S') (q : Mut (H' p)) : RelE K as (ad O p) σ H' ρ S' := by
  have kk : Kp (ad O p) H H' := fun a u n e => s a u (fun m => n (.inl (R.wf.sub a m))) e
  have m1 : ∀ a, ad O p a → Nt (H a) := fun a o => by
    rcases o with o | o
    · exact R.wf.nt a o
    · rw [o, hp]; exact nt_none
  have w1 := R.wf.step s (c.anti ad_sub)
  refine ⟨⟨fun a m => .inl (R.wf.sub a m), fun a o => ?_, R.wf.nd⟩, c, R.len, fun i d h => ?_, fun i d h => ?_⟩
  · rcases o with o | o
    · exact w1.mt a o
    · rw [o]; exact q
  · obtain ⟨v, h2, r⟩ := R.val i d h
    exact ⟨v, h2, Rp.kp m1 kk _ _ (Rp.ad hp _ _ r)⟩
  · obtain ⟨a, h2, n, cc⟩ := R.own i d h
    refine ⟨a, h2, n, ?_⟩
    cases cc with
    | lst hh r => exact .lst (s a _ n hh) (RpL.kp m1 kk _ _ (RpL.ad hp _ _ r))
    | dct hh r t9 e9 k9 => exact .dct (s a _ n hh) (RpL.kp m1 kk _ _ (RpL.ad hp _ _ r)) (RpL.kp m1 kk _ _ (RpL.ad hp _ _ t9)) e9 k9
    | kd hh e9 t9 => exact .kd (s a _ n hh) e9 (RpL.kp m1 kk _ _ (RpL.ad hp _ _ t9))
theorem Cells.other {K : KW} {as : List Addr} {O : Addr → Prop} {H : Hp} {S : List D} {p : Addr} {o : HO} (w : Wf as O H) (np : p ∉ as) (hp : O p) (c : Cells K as O H S) : Cells K as O (upd H p o) S := ⟨c.len, fun i a d h1 h2 => by
  have na : a ≠ p := fun z => np (z ▸ List.mem_of_getElem? h1)
  have kk : Kp O H (upd H p o) := fun c u n e => by rw [upd_ne (show c ≠ p from fun z => n (by rw [z]; exact hp))]; exact e
  cases c.ix i a d h1 h2 with
  | lst h r => exact .lst ((upd_ne na).trans h) (RpL.kp w.nt kk _ _ r)
  | dct h r t e k => exact .dct ((upd_ne na).trans h) (RpL.kp w.nt kk _ _ r) (RpL.kp w.nt kk _ _ t) e k
  | kd h e t => exact .kd ((upd_ne na).trans h) e (RpL.kp w.nt kk _ _ t)⟩
def eK2 (i j : Int) (fa fb : Ev) : Ev := fun ρ S => if i = j then none else (fa ρ S).bind fun p => (fb ρ p.2).bind fun q => some (.kd [(.inl i, p.1), (.inl j, q.1)], q.2)
theorem mf_k2 {i j : Int} {k1 k2 : Nat} {p1 p2 : Pos} (ha : PE X a (tOf (kw X) fa)) (hb : PE X b (tOf (kw X) fb)) : PE X (.Dict [some (.Constant (.int i) k1 p1), some (.Constant (.int j) k2 p2)] [a, b] pos) (tOfF (kw X) (eK2 i j fa fb)) := by
  refine (pe_toK (pe_disp (pps_cons pe_int ha (pps_cons pe_int hb pps_nil)) rfl rfl (by exact List.cons_ne_nil _ _) (by exact (by decide : 2 ≤ 15)))).weak fun σ H Q q => ?_
  obtain ⟨as, O, ρ, S, d, S', R, hf, k⟩ := q
  unfold eK2 at hf
  split at hf
  · cases hf
  rename_i hij
  obtain ⟨⟨d1, S1⟩, h1, hf⟩ := Option.bind_eq_some_iff.mp hf
  obtain ⟨⟨d2, S2⟩, h2, hf⟩ := Option.bind_eq_some_iff.mp hf
  cases hf
  intro p hpn
  have q0 := new_cells (o := HO.dK []) R.wf R.cells hpn
  have R0 : RelE (kw X) as (ad O p) σ (upd H p (.dK [])) ρ S := R.besideM hpn (Same.stp (same_new hpn)) q0.1 (by rw [upd_same]; trivial)
  have np : p ∉ as := fun m => R.wf.trk (R.wf.sub p m) hpn
  refine ⟨as, _, ρ, S, d1, S1, R0, h1, fun v1 H1 t1 c1 r1 => ?_⟩
  have R1 := R0.step t1 c1
  refine ⟨as, _, ρ, S1, d2, S2, R1, h2, fun v2 H2 t2 c2 r2 => ?_⟩
  have R2 := R1.step t2 c2
  have e2 : H2 p = some (.dK []) := t2 p _ np (t1 p _ np upd_same)
  have hm : mergeK [] [((Sum.inl i : Key), v1), (Sum.inl j, v2)] = [((Sum.inl i : Key), v1), (Sum.inl j, v2)] := by
    have : ¬ (Sum.inl i : Key) = Sum.inl j := fun z => hij (Sum.inl.inj z)
    simp [mergeK, putK, this]
  refine ⟨e2, [(.inl i, v1), (.inl j, v2)], rfl, by exact (by decide : 2 ≤ 15), p, [(.inl i, v1), (.inl j, v2)], rfl, ?_, fun o => ?_⟩
  · rw [hm]; exact upd_same
  · rw [hm]
    have e : upd (upd H2 p (.dK [((Sum.inl i : Key), v1), (Sum.inl j, v2)])) p (DictKO X.w p o [(.inl i, v1), (.inl j, v2)]) = upd H2 p (DictKO X.w p o [(.inl i, v1), (.inl j, v2)]) := L2.upd_upd
    rw [e]
    have kk : Kp (ad O p) H2 (upd H2 p (DictKO X.w p o [(.inl i, v1), (.inl j, v2)])) := fun c u n e => by rw [upd_ne (fun z => n (.inr z))]; exact e
    have st : Stp as H (upd H2 p (DictKO X.w p o [(.inl i, v1), (.inl j, v2)])) := fun c u n e => by
      have ne : c ≠ p := fun z => by rw [z, hpn] at e; cases e
      rw [upd_ne ne]
      exact t2 c u n (t1 c u n ((upd_ne ne).trans e))
    exact k p _ hpn st (Cells.other R2.wf np (.inr rfl) c2) (.kd upd_same rfl (.cons (Rp.kp R2.wf.nt kk _ _ (r1.stp R1.wf t2)) (.cons (Rp.kp R2.wf.nt kk _ _ r2) .nil)))
def ltD (a b : D) : Bool := PySem.W.dataLt (py a) (py b)
def minOk (xs : List D) : Bool := okL 60 xs && xs.all (fun a => xs.all fun b => PySem.W.alike (py a) (py b)) && xs.all (fun a => (tupC a || flatC a))
def foldMin (x : D) (xs : List D) : D := xs.foldl (fun a y => if ltD y a then y else a) x
def dMinD : D → Option D
  | .lst (x :: xs) => if minOk (x :: xs) = true then some (foldMin x xs) else none
  | _ => none
theorem pyL_map' : ∀ xs : List D, pyL xs = xs.map py
  | [] => by simp only [pyL, List.map_nil]
  | x :: xs => by simp only [pyL, List.map_cons, pyL_map' xs]
theorem py_none {d : D} (h : (tupC d || flatC d) = true) : py d ≠ .none := by
  intro e
  cases d <;> first | (simp only [py] at e; cases e; done) | (revert h; simp [tupC, flatC])
theorem getD_py : ∀ (xs : List D) (i : Nat), (xs.map py).getD i .none = py (xs.getD i .non)
  | [], _ => by simp [py]
  | x :: xs, 0 => rfl
  | x :: xs, i + 1 => by
    have := getD_py xs i
    simpa using this
theorem reads_all {K : KW} {as : List Addr} {O : Addr → Prop} {H : Hp} {s : Shared} (rd : ∀ (d : D) (v : V) (u : Value), okD 60 d = true → Rp K as O H v d → RelV v u → ∃ as, Reads s.heap u (py d) as) :
    ∀ {ds : List D} {us : List Value} {vs : List V}, okL 60 ds = true → RpL K as O H vs ds → Vals vs us → ∃ bs, ReadsAll s.heap us (ds.map py) bs
  | [], us, vs, _, h, g => by
    cases h
    cases g
    exact ⟨[], .nil⟩
  | d :: ds, us, vs, hok, h, g => by
    cases h with
    | cons r t =>
      cases g with
      | cons a b =>
        have q : okD 60 d = true ∧ okL 60 ds = true := by simpa [okL] using hok
        obtain ⟨b1, h1⟩ := rd _ _ _ q.1 r a
        obtain ⟨b2, h2⟩ := reads_all rd q.2 t b
        exact ⟨_, .cons h1 h2⟩
theorem depth_le {xs : List D} (h : ∀ x ∈ xs, (py x).depth ≤ 60) : PyData.depthAll (xs.map py) ≤ 60 := by
  induction xs with
  | nil => exact Nat.zero_le _
  | cons x xs ih => exact Nat.max_le.mpr ⟨h x List.mem_cons_self, ih fun y hy => h y (List.mem_cons_of_mem _ hy)⟩
theorem foldMin_at (x : D) (xs : List D) : (x :: xs).getD (argBest (fun i j => PySem.W.dataLt (((x :: xs).map py).getD i .none) (((x :: xs).map py).getD j .none)) xs.length) .non = foldMin x xs := by
  have e := (PySem.W.argBest_fold ltD D.non x xs xs.length (Nat.le_refl _)).2
  rw [List.take_length] at e
  rw [← show (fun i j => ltD ((x :: xs).getD i .non) ((x :: xs).getD j .non)) = (fun i j => PySem.W.dataLt (((x :: xs).map py).getD i .none) (((x :: xs).map py).getD j .none)) from by
    funext i j
    rw [getD_py, getD_py]
    rfl]
  exact e
theorem cd_minD (hc : X.calm = true) (hu : X.A.units + 65 < cLine) : CallR X (.builtin "min") (rC1 (kw X) dMinD) := by
  intro pins s σ H vs0 us Q I r q
  obtain ⟨as, O, d, rr, v0, rfl, w, rd, hg, k⟩ := q
  unfold dMinD at hg
  split at hg
  · rename_i x xs
    split at hg
    · rename_i hs
      cases hg
      unfold minOk at hs
      rw [Bool.and_eq_true, Bool.and_eq_true] at hs
      obtain ⟨⟨hok, hal⟩, hnn⟩ := hs
      obtain ⟨a, vs, rfl, h, t⟩ := rd.lst
      obtain ⟨its, rv, hl, hz⟩ := I.list (.inl (.inl h))
      obtain ⟨u, rfl, ru⟩ := vals1 r
      obtain rfl : u = Value.ref a := ru
      obtain ⟨bs, hr⟩ := reads_all (K := kw X) (as := as) (O := O) (H := H) (s := s) (fun d v u hd r0 rv0 => Dp.reads I (py d) v u (Rp.dp 60 _ _ hd r0) rv0) hok t rv
      have hA : PySem.W.AlikeAll ((x :: xs).map py) := ⟨fun d hd e he => by
        obtain ⟨x1, h1, rfl⟩ := List.mem_map.mp hd
        obtain ⟨x2, h2, rfl⟩ := List.mem_map.mp he
        exact List.all_eq_true.mp (List.all_eq_true.mp hal x1 h1) x2 h2, fun d hd => by
        obtain ⟨x1, h1, rfl⟩ := List.mem_map.mp hd
        exact py_none (List.all_eq_true.mp hnn x1 h1)⟩
      have hdp : PyData.depthAll ((x :: xs).map py) ≤ 60 := depth_le fun y hy => by
        have := (ok_lay 60 y (okL_mem hok _ hy)).2
        omega
      have hlv : vs.length = xs.length + 1 := Rp.length t
      have hli : its.length = xs.length + 1 := by rw [← rv.length]; exact hlv
      have hr' : ReadsAll s.heap its.toArray.toList ((x :: xs).map py) bs := hr
      refine PySem.call_min_walkH (PySem.W.iter_listW (A := X.A.in1) (I.ok.hd hc) hl.isList fun s₂ e W st hfp hw hk => ?_)
      refine ⟨_, _, _, _, _, _, _, s.heap, _, rfl, W, st, hfp, by rw [List.size_toArray]; omega, hw, hk, PySem.W.cmpIn_lt (A := X.A.in1) hr' hA (by show X.A.units + 1 + _ < _; omega), fun v s' hP m => ?_⟩
      obtain ⟨h', tk, rfl, hk'⟩ := PySem.W.moved_old e rfl m
      have e1 : its.toArray.size - 1 = xs.length := by rw [List.size_toArray]; omega
      rw [e1] at hP
      have hP' : its[argBest (fun i j => PySem.W.dataLt (((x :: xs).map py).getD i .none) (((x :: xs).map py).getD j .none)) xs.length]? = some v := by simpa using hP
      have hlt := (List.getElem?_eq_some_iff.mp hP').1
      have hd : (x :: xs)[argBest (fun i j => PySem.W.dataLt (((x :: xs).map py).getD i .none) (((x :: xs).map py).getD j .none)) xs.length]? = some (foldMin x xs) := by
        have e2 := foldMin_at x xs
        rw [List.getD_eq_getElem?_getD] at e2
        rw [hli] at hlt
        rw [List.getElem?_eq_getElem (by rw [List.length_cons]; exact hlt)] at e2 ⊢
        exact congrArg some e2
      obtain ⟨v1, hv1, r1⟩ := t.get hd
      obtain ⟨u1, hu1, ru1⟩ := rv.get hv1
      rw [hP'] at hu1
      cases hu1
      exact ⟨v1, H, I.kept (t' := tk) hk', ru1, k _ H (Same.refl H) r1⟩
    · cases hg
  · cases hg
end
end DL
namespace DL
open PySem PySem.Spec PyProof.Rows L2
open PySem.W (EachIs alike dataLt sortLe SortsAt)
section
variable {P : Program} {w : World} {A : Around} {E : Value → Shared → Prop}
theorem ts_loopL {I : Addr} {fp wr : List Addr} {G : Array GenState → Array GenState → Prop} {ss : List Str} {Pv : Nat → Value → Prop} {St : Nat → Shared → Prop} {R : Result → Shared → Prop}
    (W : WalksS P w A.in1 I fp wr G ss.length Pv St) (val : ∀ i v, Pv i v → ∃ y u, ss[i]? = some y ∧ v = Value.str y u) {a : Addr} (out : a ∉ fp) (few : ss.length ≤ 1000) : ∀ (m i : Nat) (s : Shared), i + m = ss.length → St i s → TS w i s.heap a (ss.take i) →
      (∀ s', Moved (a :: wr) G s s' → TS w ss.length s'.heap a ss → R (.ok (.ret .none)) s') → codeAny (model P w) A (.builtin "set.update.loop" ⟨[.ref a, .ref I], []⟩) R s := by
  have aw : a ∉ wr := fun h => out (W.sub _ h)
  have up : ∀ b ∈ wr, b ∈ a :: wr := fun b hb => List.mem_cons_of_mem _ hb
  intro m
  induction m with
  | zero =>
    intro i s hi st T k
    obtain rfl : i = ss.length := by omega
    refine codeAny_builtin PyProof.Rows.F.entry_set_update_loop ?_
    rw [Around.under_plainId PyProof.Rows.F.plain_set_update_loop _]
    show wpAny _ A.in1 (pyNext (.ref I) >>= _) _ _ s
    refine wpAny_bind (W.done s _ _ st fun s' hm => ?_)
    have e : ss.take ss.length = ss := List.take_of_length_le (Nat.le_refl _)
    rw [e] at T
    show wpAny _ A.in1 (ret Value.none) _ _ s'
    exact wpAny_pure (k s' (hm.mono up) (T.at fun o e => hm.heap a o aw e))
  | succ m ih =>
    intro i s hi st T k
    have lt : i < ss.length := by omega
    refine codeAny_builtin PyProof.Rows.F.entry_set_update_loop ?_
    rw [Around.under_plainId PyProof.Rows.F.plain_set_update_loop _]
    show wpAny _ A.in1 (pyNext (.ref I) >>= _) _ _ s
    refine wpAny_bind (W.item i s _ _ lt st fun v s' hv st' hm => ?_)
    obtain ⟨y, u, hc, rfl⟩ := val i v hv
    have T' : TS w i s'.heap a (ss.take i) := T.at fun o e => hm.heap a o aw e
    show wpAny _ A.in1 (holding [Value.str y u] (setAdd a (.str y u)) >>= _) _ _ s'
    refine wpAny_bind (wpAny_holding ?_)
    unfold setAdd
    refine wpAny_holding ?_
    refine wpAny_bind ((strKind P w).pyHash (k := y) (tkey _ _) ?_)
    refine ts_add (s := { s' with toks := s'.toks + 1 }) T' (by omega) fun h' b sb T2 => ?_
    have et : ss.take i ++ [y] = ss.take (i + 1) := by rw [List.take_add_one, hc]; rfl
    rw [et] at T2
    refine wpAny_pure ⟨plainId_quiet PyProof.Rows.F.plain_set_update_loop _, ih (i + 1) _ (by omega) (W.frame _ s' _ _ st' (Nat.le_succ _) fun b hb o e => ?_) T2 fun s2 hm2 T3 => ?_⟩
    · rw [sb.2 b (fun h : b = a => out (by rw [← h]; exact hb))]; exact e
    · refine k s2 (Moved.trans W.gtrans ((hm.mono up).then_heap (Nat.le_succ _) fun b o hb e => ?_) hm2) T3
      rw [sb.2 b (fun h : b = a => hb (by rw [h]; exact List.mem_cons_self))]; exact e
end
section
variable {P : Program} {w : World} {A : Around} {E : Value → Shared → Prop} {s : Shared}
def DoneL (w : World) (s : Shared) (ss : List Str) (z : Shared) : Prop := ∃ h' tk, z = { s with heap := h', toks := tk } ∧ TS w ss.length h' s.heap.objs.size ss ∧ ∀ b o, s.heap.get? b = some o → h'.get? b = some o
theorem set_of_strs {l : Addr} {its : Array Value} (ss : List Str) {Q : Value → Shared → Prop} (nh : A.handled = none) (hl : s.heap.IsList l its) (sz : its.size = ss.length) (val : ∀ (i : Nat) (v : Value), its[i]? = some v → ∃ y u, ss[i]? = some y ∧ v = Value.str y u) (few : ss.length ≤ 1000)
    (k : ∀ z, DoneL w s ss z → Q (.ref s.heap.objs.size) z) : wpAny (model P w) A (call (.type "set") [.ref l]) Q E s := by
  obtain ⟨c0, tl, hmro⟩ := F.called_set.mro
  have f1 := F.called_set.made
  have f2 := F.called_set.sub
  have f3 := F.called_set.notType
  have f4 := F.called_set.canCreate
  have f5 := F.typeCall_set_1 (.ref l)
  have f6 := F.called_set.init.lookup
  refine wpAny_call (codeAny_of_tree (show wpAny _ _ (callAny (.type "set") _) _ _ _ from wpAny_pure ⟨Code.quiet_builtin _ (by decide +kernel), codeAny_builtin F.entry_type_call ?_⟩))
  rw [Around.under_plain (weight_type_call_type "set" [.ref l] []) rfl]
  repeat (any_goals (first | assumption | wp_step))
  refine codeAny_mono (code_set_led1 (.ref l) (E := E) (Q₁ := fun o z => o = .ref s.heap.objs.size ∧ z = { s with heap := s.heap.push (mtS w) }) ⟨rfl, rfl⟩) fun r z hr => ?_
  cases r with
  | error e => exact hr
  | ok fl =>
  cases fl with
  | ret o =>
    obtain ⟨rfl, rfl⟩ := hr
    have g0 : (s.heap.push (mtS w)).get? s.heap.objs.size = some (mtS w) := Heap.get?_push_size _ rfl
    have ty : Shared.TypeIs { s with heap := s.heap.push (mtS w) } (.ref s.heap.objs.size) "set" := ⟨_, g0, rfl⟩
    have f7 := F.called_set.init.bind (.ref s.heap.objs.size)
    repeat (any_goals (first | assumption | wp_step))
    refine codeAny_mono (codeAny_call_builtin (R := wants (fun r z => r = .none ∧ DoneL w s ss z) E) F.called_set.init.plain F.entry_set_init (check_set_init_1 ty ?_)) fun r z hz => ?_
    · obtain ⟨⟨oc, od, oda, os⟩, ho, hc, nl, hd⟩ := hl
      dsimp only at hc hd
      subst hc hd
      have ho' := Heap.get?_push_of_some (mtS w) ho
      have p1 := F.sub_list_set
      have p2 := F.sub_list_frozenset
      have p3 : (Value.type "list" == Value.type "dict") = false := by decide
      have lst : (s.heap.push (mtS w)).IsList l its := ⟨_, ho', rfl, nl, rfl⟩
      have lt := Heap.lt_size ho
      have z1 : (s.heap.push (mtS w)).objs.size = s.heap.objs.size + 1 := Heap.size_push ..
      unfold Builtin.«set.__init__» noKeywords Builtin.Frozenset.updateFrom
      generalize hG : pyIter = G
      wp_walk
      subst hG
      refine wpAny_pyIter_list lst (wpAny_bind (wpAny_runValue ?_))
      have nh3 : A.in1.in1.in1.handled = none := by simp [nh]
      have ne1 : l ≠ (s.heap.push (mtS w)).objs.size := by rw [z1]; exact Nat.ne_of_lt (Nat.lt_succ_of_lt lt)
      have out : s.heap.objs.size ∉ [(s.heap.push (mtS w)).objs.size, l] := by
        rw [z1]
        simp only [List.mem_cons, List.not_mem_nil, or_false, not_or]
        exact ⟨Nat.ne_of_lt (Nat.lt_succ_self _), Nat.ne_of_gt lt⟩
      have WL := (Walks.list (prog := P) (w := w) (A := A.in1.in1.in1) nh3 _ l ne1 its).toS
      rw [sz] at WL
      refine ts_loopL WL val out few (ss.length - 0) 0 _ (by omega) ⟨⟨_, Heap.get?_push_size _ rfl, rfl, rfl⟩, lst.push _⟩ (((ts_fresh w).at fun o e => Heap.get?_push_of_some _ e)) fun z hm hS' => ?_
      obtain ⟨h', g2, d', tk', os'⟩ := z
      have e1 : g2 = s.gens := hm.gens
      have e2 : d' = s.drawn := hm.drawn
      have e3 : os' = s.os := hm.os
      subst e1 e2 e3
      refine wpAny_pure (show wpAny _ _ (ret Value.none) _ _ _ from wpAny_pure ⟨rfl, h', tk', rfl, hS', fun b o e => ?_⟩)
      have lb := Heap.lt_size e
      refine hm.heap b o ?_ (Heap.get?_push_of_some _ (Heap.get?_push_of_some _ e))
      simp only [List.mem_cons, List.not_mem_nil, or_false, not_or]
      exact ⟨Nat.ne_of_lt lb, by rw [z1]; exact Nat.ne_of_lt (Nat.lt_succ_of_lt lb)⟩
    · cases r with
      | error e => exact hz
      | ok fl =>
        cases fl with
        | ret r =>
          obtain ⟨rfl, d⟩ := hz
          repeat (any_goals (first | assumption | wp_step))
          exact k _ d
        | _ => exact hz.elim
  | _ => exact hr.elim
end
def srtT (l : List Str) : List Str := sortBy D.str (ddT l)
theorem strTok_inj (x y : Str) (h : tokD (.str x) = tokD (.str y)) : x = y := by
  simp only [tokD, py, PySem.W.keyToks, List.cons.injEq, Sum.inr.injEq, and_true] at h
  exact PySem.W.str_of_cps h
section
variable {P : Program} {w : World} {A : Around} {E : Value → Shared → Prop} {s : Shared} {a : Addr} {n : Nat} {l : List Str}
theorem each_perm {vs : List Value} {zs : List Str} (e : EachIs (fun v (b : Str) => ∃ t, v = Value.str b t) vs zs) : zs = vs.map (fun v => match v with | .str k _ => k | _ => Str.empty) := by
  induction e with
  | nil => rfl
  | cons h _ ih =>
    obtain ⟨t, rfl⟩ := h
    rw [List.map_cons, ← ih]
theorem sorted_ts2 {Q : Value → Shared → Prop} (R : TS w n s.heap a l) (hh : A.handled = none) (few : n ≤ 1000) (hu : A.units + 4 < cLine)
    (hQ : ∀ s' p (out : Array Value) (c : Nat), (∀ b o, s.heap.get? b = some o → s'.heap.get? b = some o) → s'.gens = s.gens → s'.os = s.os → s.heap.objs.size ≤ p →
      s'.heap.get? p = some (seqObj "list" out c) → EachIs (fun v (b : Str) => ∃ t, v = Value.str b t) out.toList (srtT l) → Q (.ref p) s') :
    wpAny (model P w) A (call (.builtin "sorted") [.ref a]) Q E s := by
  obtain ⟨o, es, ep, t, ho, hx, hd, T⟩ := R
  refine Calls.call_function_entry kind_sorted plain_sorted entry_sorted (args_sorted1 _) ?_
  unfold Builtin.«sorted»
  refine wpAny_bind (m := checkCount "sorted" 1 1 _) (wpAny_pure ?_)
  have bd : es.size < scanBound := Nat.lt_of_le_of_lt (Nat.le_trans T.few few) (by decide)
  refine wpAny_bind (collect_set (A := A.in1) hh ⟨o, ho, hx.1, hd⟩ T.fit bd T.ris T.led fun s1 vs k1 hz g1 o1 pm => ?_)
  obtain ⟨zs, e⟩ := each_of vs fun v hv => by
    obtain ⟨x, hx, q⟩ := List.mem_map.mp (pm.mem_iff.mp hv)
    obtain ⟨k, u, h1, _⟩ := T.good x hx
    exact ⟨k, u, by rw [← q]; exact h1⟩
  have zl := each_len e
  have zp : zs.Perm (ddT l) := by
    have p0 : (es.toList.map kT).Perm (ddT l) := (List.perm_ext_iff_of_nodup T.nd (nodup_ddT l)).mpr fun k => by rw [mem_ddT, ← T.mem]
    refine List.Perm.trans ?_ p0
    rw [each_perm e]
    have p1 := pm.map (fun v : Value => match v with | .str k _ => k | _ => Str.empty)
    refine p1.trans ?_
    rw [List.map_map]
    exact List.Perm.refl _
  have sz : vs.length ≤ sizeLine := by rw [pm.length_eq, List.length_map, Array.length_toList, sizeLine_eq]; have := T.few; omega
  refine wpAny_bind (wpAny_newList ?_ sz)
  have hoL : (s1.heap.push (seqObj "list" vs.toArray 0)).get? s1.heap.objs.size = some (seqObj "list" vs.toArray 0) := Heap.get?_push_size _ rfl
  refine wpAny_bind (wpAny_holding (PySem.W.list_sort_data (enc := fun b : Str => PyData.str b) hoL e (e.mono fun v b ⟨t, q⟩ => ⟨[], by rw [q]; exact .str b t, List.not_mem_nil⟩) (PySem.W.AllAlike.of fun b b' => rfl) (PySem.W.Sortable.others fun b => ⟨fun z => (by cases z), fun xs z => (by cases z)⟩) (by rw [← zl]; exact sz) (fun b _ => ?_) fun out ho eo => ?_))
  · show A.in1.units + 1 + 0 < cLine
    have : A.in1.units ≤ A.units + 2 := by
      first
        | exact Nat.le_succ_of_le (Nat.le_refl _)
        | exact Nat.le_refl _
        | (show A.units + 1 ≤ A.units + 2; omega)
    omega
  · obtain ⟨c, hc⟩ := sortedHeap_at (vs := vs) (out := out.toArray) hoL
    have es2 : zs.mergeSort (PySem.W.dataLe false fun b : Str => PyData.str b) = srtT l := by
      have h1 : zs.mergeSort (PySem.W.dataLe false fun b : Str => PyData.str b) = sortBy D.str zs := by
        unfold sortBy
        congr 1
      rw [h1]
      exact (sortBy_iff strTok_inj zs (ddT l)).mpr zp
    rw [es2] at eo
    refine wpAny_pure ⟨_, rfl, hQ _ s1.heap.objs.size out.toArray c (fun b u q => ?_) g1 o1 hz hc (by rw [List.toList_toArray]; exact eo)⟩
    have q := k1 b u q
    have hlt := Heap.lt_size q
    show (sortedHeap (s1.heap.push (seqObj "list" vs.toArray 0)) s1.heap.objs.size vs out.toArray).get? b = some u
    rw [sortedHeap_old (Nat.ne_of_lt hlt) (by rw [size_push']; exact Nat.lt_succ_of_lt hlt)]
    exact Heap.get?_push_of_some _ q
end
def sortSetT : D → Option (List D)
  | .lst xs => (strsD xs).bind fun ss => if ss.length ≤ 1000 then some ((srtT ss).map .str) else none
  | _ => none
def rSetLT (K : KW) (w : World) : List V → Hp → VK → Prop := fun xs H Q => ∃ (a : Addr) (ss : List Str), xs = [.ref a] ∧ SqL K H a (ss.map V.str) ∧ ss.length ≤ 1000 ∧ ∀ p, H p = none → Q (.ref p) (upd H p (TSO w p ss.length ss))
def rSortT2 (w : World) : List V → Hp → VK → Prop := fun xs H Q => ∃ (a : Addr) (n : Nat) (l : List Str), xs = [.ref a] ∧ H a = some (TSO w a n l) ∧ n ≤ 1000 ∧ ∀ (p : Addr), H p = none → Q (.ref p) (upd H p (.lst ((srtT l).map V.str)))
theorem strs_val : ∀ {ss : List Str} {its : List Value}, Vals (ss.map V.str) its → its.length = ss.length ∧ ∀ (i : Nat) (v : Value), its[i]? = some v → ∃ y u, ss[i]? = some y ∧ v = Value.str y u
  | [], _, h => by cases h; exact ⟨rfl, fun i v e => by simp at e⟩
  | x :: ss, _, h => by
    cases h with
    | cons a b =>
      obtain ⟨h1, h2⟩ := strs_val b
      obtain ⟨u, rfl⟩ := a
      refine ⟨by rw [List.length_cons, List.length_cons, h1], fun i v e => ?_⟩
      cases i with
      | zero => cases e; exact ⟨x, u, rfl, rfl⟩
      | succ i => exact h2 i v e
theorem srtT_len (l : List Str) : (srtT l).length = (ddT l).length := (sortBy_perm D.str (ddT l)).length_eq
theorem ddT_le : ∀ l : List Str, (ddT l).length ≤ l.length
  | [] => Nat.le_refl _
  | x :: l => by
    have := ddT_le l
    unfold ddT
    split
    · rw [List.length_cons]; omega
    · rw [List.length_cons, List.length_cons]; omega
section
variable {X : Cx} {pos p1 p2 q : Pos} {a : Expr} {fa : Ev}
theorem cr_setLT (hc : X.calm = true) : CallR X (.type "set") (rSetLT (kw X) X.w) := by
  intro pins s σ H xs us Q I r h
  obtain ⟨a, ss, rfl, hs, few, k⟩ := h
  obtain ⟨its, rv, hl, hz⟩ := I.list hs
  rw [Vals.ref1 r]
  obtain ⟨sz, val⟩ := strs_val rv
  refine set_of_strs ss (I.ok.hd hc) hl.isList (by rw [List.size_toArray]; exact sz) (fun i v e => val i v (by simpa using e)) few fun z hz => ?_
  obtain ⟨h', tk, rfl, R, kp⟩ := hz
  have hn : H s.heap.objs.size = none := I.hok.fresh (Nat.le_refl _)
  exact ⟨.ref s.heap.objs.size, upd H s.heap.objs.size (TSO X.w s.heap.objs.size ss.length ss), I.laid (t' := tk) kp (Nat.le_refl _) (tso_ok R), rfl, k _ hn⟩
theorem cr_sortT2 (hc : X.calm = true) (hu : X.A.units + 65 < cLine) : CallR X (.builtin "sorted") (rSortT2 X.w) := by
  intro pins s σ H vs us Q I r h
  obtain ⟨a, n, l, rfl, ha, few, k⟩ := h
  have R : TS X.w n s.heap a l := (I.hok a _ ha).1
  rw [Vals.ref1 r]
  refine sorted_ts2 R (I.ok.hd hc) few (by omega) fun s' p out c kp g o hp hg e => ?_
  have hn : H p = none := I.hok.fresh hp
  have lt : a < s.heap.objs.size := by obtain ⟨o, _, _, _, ho, _⟩ := R; exact Heap.lt_size ho
  have hlen : ((srtT l).map V.str).length ≤ sizeLine := by
    obtain ⟨o, es, ep, t, ho, hx, hd, T⟩ := R
    rw [List.length_map, srtT_len, ← T.card, sizeLine_eq]
    have := T.few
    omega
  have J : L2.Inv X pins σ (upd H p (.lst ((srtT l).map V.str))) { s with heap := s'.heap, gens := s'.gens, drawn := s'.drawn, toks := s'.toks } :=
    I.call (ch := []) (Un.laid kp hp hn) (I.hok.laid kp hp ⟨hlen, out.toList, c, vals_strs e, by rw [Array.toArray_toList]; exact hg⟩) (by rw [g]; exact I.bare) (fun _ z => nomatch z)
  have e2 : s' = { s with heap := s'.heap, gens := s'.gens, drawn := s'.drawn, toks := s'.toks } := by
    cases s'
    cases s
    cases o
    rfl
  rw [e2]
  exact ⟨.ref p, _, J, rfl, k p hn⟩
theorem rp_strsL {K : KW} {as : List Addr} {O : Addr → Prop} {H : Hp} : ∀ ss : List Str, RpL K as O H (ss.map V.str) (ss.map D.str)
  | [] => .nil
  | x :: ss => .cons (.str x) (rp_strsL ss)
theorem mf_sortSetT (hc : X.calm = true) (hu : X.A.units + 65 < cLine) (hg : Gl X "sorted") (hm : X.mg "sorted" = none) (hg2 : Gl X "set") (hm2 : X.mg "set" = none) (ha : PE X a (tOfB (kw X) fa))
    (he : starEach [a] X.env = (false, eval a X.env) :: starEach [] X.env := by rfl) (he2 : starEach [Expr.Call (.Name "set" p2) [a] [] q] X.env = (false, eval (Expr.Call (.Name "set" p2) [a] [] q) X.env) :: starEach [] X.env := by rfl) :
    PE X (.Call (.Name "sorted" p1) [.Call (.Name "set" p2) [a] [] q] [] pos) (tOfF (kw X) (eUnF sortSetT fa)) :=
  (pe_callB (cr_sortT2 hc hu) hg hm boot_sorted (pa_cons (pe_callTy (cr_setLT hc) hg2 hm2 boot_set (pa_cons ha pa_nil he) (by decide) (by decide) he rfl) pa_nil he2) (by decide) (by decide) he2 rfl).weak fun σ H Q h => by
    obtain ⟨as, O, ρ, S, d, S', R, hf, k⟩ := h
    unfold eUnF at hf
    obtain ⟨⟨d1, S1⟩, h1, hf⟩ := Option.bind_eq_some_iff.mp hf
    obtain ⟨r, h3, hf⟩ := Option.bind_eq_some_iff.mp hf
    cases hf
    refine ⟨as, O, ρ, S, d1, S1, R, h1, fun v H1 s1 c1 r1 => ?_⟩
    have R1 := R.step s1 c1
    unfold sortSetT at h3
    split at h3
    · rename_i xs e
      have e : d1 = .lst xs := e
      subst e
      obtain ⟨ss, h4, h3⟩ := Option.bind_eq_some_iff.mp h3
      split at h3
      · rename_i few
        cases h3
        obtain ⟨a1, vs, rfl, h5, t⟩ := RpB.lst r1
        have ev := rp_strsD t h4
        subst ev
        refine ⟨a1, ss, rfl, .inl (.inl h5), few, fun p hp => ?_⟩
        refine ⟨p, _, _, rfl, upd_same, few, fun p' hp' => ?_⟩
        have s2 := same_new (o := TSO X.w p ss.length ss) hp
        have R2 := R1.step (Same.stp s2) (R1.cells.same R1.wf s2)
        have c2 := R2.cells
        have q := new_cells (o := .lst ((srtT ss).map V.str)) R2.wf c2 hp'
        have s12 := s1.trans (Same.stp s2)
        exact k p' _ (R.free s12 c2 hp') (s12.trans (Same.stp (same_new hp'))) q.1 (.lst upd_same (q.2 _ _ (rp_strsL _)))
      · cases h3
    · cases h3
end
end DL
namespace K
def fr (q : Rat) : Rat := q - q.floor
theorem fr_nonneg (q : Rat) : 0 ≤ fr q := by
  have := Rat.floor_le q
  unfold fr
  grind
theorem fr_lt (q : Rat) : fr q < 1 := by
  have := Rat.lt_floor_add_one q
  unfold fr
  have h : ((q.floor + 1 : Int) : Rat) = (q.floor : Rat) + 1 := by rw [Rat.intCast_add]; rfl
  grind
def Eqv (q r : Rat) : Prop := ∃ n : Int, q = r + n
theorem Eqv.refl (q : Rat) : Eqv q q := ⟨0, by grind⟩
theorem Eqv.symm {q r : Rat} (h : Eqv q r) : Eqv r q := by
  obtain ⟨n, h⟩ := h
  exact ⟨-n, by rw [Rat.intCast_neg]; grind⟩
theorem Eqv.trans {q r s : Rat} (h : Eqv q r) (h' : Eqv r s) : Eqv q s := by
  obtain ⟨n, h⟩ := h
  obtain ⟨m, h'⟩ := h'
  exact ⟨n + m, by rw [Rat.intCast_add]; grind⟩
theorem Eqv.add {q r q' r' : Rat} (h : Eqv q r) (h' : Eqv q' r') : Eqv (q + q') (r + r') := by
  obtain ⟨n, h⟩ := h
  obtain ⟨m, h'⟩ := h'
  exact ⟨n + m, by rw [Rat.intCast_add]; grind⟩
theorem Eqv.mul {q r : Rat} (h : Eqv q r) (k : Int) : Eqv (q * k) (r * k) := by
  obtain ⟨n, h⟩ := h
  exact ⟨n * k, by rw [Rat.intCast_mul]; grind⟩
theorem fr_eqv (q : Rat) : Eqv (fr q) q := ⟨-q.floor, by rw [Rat.intCast_neg]; unfold fr; grind⟩
theorem eqv_eq {q r : Rat} (h : Eqv q r) (h1 : 0 ≤ q) (h2 : q < 1) (h3 : 0 ≤ r) (h4 : r < 1) : q = r := by
  obtain ⟨n, h⟩ := h
  have a : ((-1 : Int) : Rat) < n := by grind
  have b : (n : Rat) < ((1 : Int) : Rat) := by grind
  rw [Rat.intCast_lt_intCast] at a b
  have : n = 0 := by omega
  subst this
  grind
theorem fr_eq_iff {q r : Rat} : fr q = fr r ↔ Eqv q r := by
  constructor
  · intro h
    exact (fr_eqv q).symm.trans (h ▸ fr_eqv r)
  · intro h
    exact eqv_eq (((fr_eqv q).trans h).trans (fr_eqv r).symm) (fr_nonneg q) (fr_lt q) (fr_nonneg r) (fr_lt r)
theorem fr_self {q : Rat} (h1 : 0 ≤ q) (h2 : q < 1) : fr q = q := eqv_eq (fr_eqv q) (fr_nonneg q) (fr_lt q) h1 h2
theorem fr_fr (q : Rat) : fr (fr q) = fr q := fr_self (fr_nonneg q) (fr_lt q)
theorem fr_zero : fr 0 = 0 := fr_self (by decide) (by decide)
theorem den_pos (q : Rat) : (0 : Int) < q.den := by have := q.den_nz; omega
theorem num_div_den (q : Rat) : (q.num : Rat) / (q.den : Rat) = q := by
  have := Rat.num_divInt_den q
  rw [Rat.divInt_eq_div] at this
  exact this
end K
namespace K
def has (n : Int) (p t : Rat) : Prop := Eqv (t * (n : Rat)) p
theorem Eqv.of_eq {q r : Rat} (h : q = r) : Eqv q r := h ▸ Eqv.refl q
theorem Eqv.neg {q r : Rat} (h : Eqv q r) : Eqv (-q) (-r) := by
  obtain ⟨n, h⟩ := h
  exact ⟨-n, by rw [Rat.intCast_neg]; grind⟩
theorem Eqv.sub {q r q' r' : Rat} (h : Eqv q r) (h' : Eqv q' r') : Eqv (q - q') (r - r') := by
  obtain ⟨n, h⟩ := h
  obtain ⟨m, h'⟩ := h'
  exact ⟨n - m, by rw [Rat.intCast_sub]; grind⟩
theorem Eqv.int (n : Int) : Eqv (n : Rat) 0 := ⟨n, by grind⟩
theorem has_eqv {n : Int} {p p' t : Rat} (h : Eqv p p') : has n p t ↔ has n p' t := ⟨fun q => q.trans h, fun q => q.trans h.symm⟩
theorem has_fr {n : Int} {p t : Rat} : has n (fr p) t ↔ has n p t := has_eqv (fr_eqv p)
theorem has_t {n : Int} {p t t' : Rat} (h : Eqv t t') : has n p t ↔ has n p t' := ⟨fun q => ((h.mul n).symm).trans q, fun q => (h.mul n).trans q⟩
theorem has_neg {n : Int} {p t : Rat} : has (-n) (-p) t ↔ has n p t := by
  have e : t * ((-n : Int) : Rat) = -(t * (n : Rat)) := by rw [Rat.intCast_neg]; grind
  unfold has
  rw [e]
  constructor
  · intro h
    have := h.neg
    rwa [Rat.neg_neg, Rat.neg_neg] at this
  · exact Eqv.neg
theorem has_zero {p t : Rat} : has 0 p t ↔ Eqv p 0 := by
  have e : t * ((0 : Int) : Rat) = 0 := by grind
  unfold has
  rw [e]
  exact ⟨Eqv.symm, Eqv.symm⟩
section
variable {n1 n2 g x y a b : Int} {p1 p2 t : Rat}
theorem meet_in (hg : x * n1 + y * n2 = g) (h1 : has n1 p1 t) (h2 : has n2 p2 t) : has g (p1 * x + p2 * y) t := by
  have e : t * (g : Rat) = t * (n1 : Rat) * x + t * (n2 : Rat) * y := by
    rw [← hg, Rat.intCast_add, Rat.intCast_mul, Rat.intCast_mul]; grind
  unfold has
  rw [e]
  exact (h1.mul x).add (h2.mul y)
theorem meet_out {c : Int} {n : Int} {p q : Rat} (hc : n = g * c) (h : has g q t) (h1 : Eqv (q * c) p) : has n p t := by
  have e : t * (n : Rat) = t * (g : Rat) * c := by rw [hc, Rat.intCast_mul]; grind
  unfold has
  rw [e]
  exact (h.mul c).trans h1
theorem meet_chk {c : Int} {n : Int} {p q : Rat} (hc : n = g * c) (h : has g q t) (h1 : has n p t) : Eqv (q * c) p := by
  have e : t * (n : Rat) = t * (g : Rat) * c := by rw [hc, Rat.intCast_mul]; grind
  unfold has at h1
  rw [e] at h1
  exact ((h.mul c).symm).trans h1
end
theorem frac_add {a b c d : Rat} (h1 : c ≠ 0) (h2 : d ≠ 0) : (a * d + b * c) / (c * d) = a / c + b / d := by
  have u := Rat.mul_inv_cancel c h1
  have v := Rat.mul_inv_cancel d h2
  rw [Rat.div_def, Rat.div_def, Rat.div_def, Rat.inv_mul_rev]
  grind
theorem int_pos_rat {n : Int} (h : 0 < n) : (0 : Rat) < n := by
  have : ((0 : Int) : Rat) < n := Rat.intCast_lt_intCast.mpr h
  exact this
theorem int_nn_rat {n : Int} (h : 0 ≤ n) : (0 : Rat) ≤ n := by
  have : ((0 : Int) : Rat) ≤ n := Rat.intCast_le_intCast.mpr h
  exact this
theorem ne_of_pos_rat {q : Rat} (h : 0 < q) : q ≠ 0 := fun e => by rw [e] at h; exact absurd h (by decide)
theorem row_time {n : Int} (hn : 0 < n) {p : Rat} (k : Int) : has n p ((p + k) / n) := by
  have := ne_of_pos_rat (int_pos_rat hn)
  refine ⟨k, ?_⟩
  rw [Rat.div_mul_cancel this]
theorem row_times {n : Int} (hn : 0 < n) {p t : Rat} (hp0 : 0 ≤ p) (hp1 : p < 1) (ht0 : 0 ≤ t) (ht1 : t < 1) : has n p t ↔ ∃ k : Int, 0 ≤ k ∧ k < n ∧ t = (p + k) / n := by
  have np := int_pos_rat hn
  have nz := ne_of_pos_rat np
  constructor
  · rintro ⟨k, hk⟩
    have e : t = (p + k) / n := by rw [← hk, Rat.mul_div_cancel nz]
    refine ⟨k, ?_, ?_, e⟩
    · have h1 : (0 : Rat) ≤ t * n := Rat.mul_nonneg ht0 (Rat.le_of_lt np)
      rw [hk] at h1
      have h2 : ((-1 : Int) : Rat) < k := by have : ((-1 : Int) : Rat) = -1 := rfl; grind
      rw [Rat.intCast_lt_intCast] at h2
      omega
    · have h1 : t * n < 1 * n := Rat.mul_lt_mul_of_pos_right ht1 np
      rw [hk] at h1
      have h2 : (k : Rat) < n := by grind
      rw [Rat.intCast_lt_intCast] at h2
      exact h2
  · rintro ⟨k, _, _, rfl⟩
    exact row_time hn k
theorem row_time_range {n : Int} (hn : 0 < n) {p : Rat} (hp0 : 0 ≤ p) (hp1 : p < 1) {k : Int} (h0 : 0 ≤ k) (h1 : k < n) : 0 ≤ (p + k) / n ∧ (p + k) / n < 1 := by
  have np := int_pos_rat hn
  have k0 := int_nn_rat h0
  have k1 : ((k + 1 : Int) : Rat) ≤ n := Rat.intCast_le_intCast.mpr (by omega)
  rw [Rat.intCast_add] at k1
  have e1 : ((1 : Int) : Rat) = 1 := rfl
  rw [e1] at k1
  constructor
  · rw [Rat.div_def]; exact Rat.mul_nonneg (by grind) (Rat.le_of_lt (Rat.inv_pos.mpr np))
  · rw [Rat.div_lt_iff np, Rat.one_mul]; grind
end K
namespace K
def IsEx {α : Type} (a b : List α) (e : List Nat) : Prop := e.Nodup ∧ e.map (fun k => b[k]?) = a.map some
def dnI (k i : Nat) : Nat := if k < i then i - 1 else i
def upI (k i : Nat) : Nat := if i < k then i else i + 1
theorem erase_up {α : Type} (m : List α) (k i : Nat) : (m.eraseIdx k)[i]? = m[upI k i]? := by
  rw [List.getElem?_eraseIdx]
  unfold upI
  split <;> rfl
theorem up_dn {k i : Nat} (h : i ≠ k) : upI k (dnI k i) = i := by
  unfold upI dnI
  split <;> split <;> omega
theorem up_ne (k i : Nat) : upI k i ≠ k := by
  unfold upI
  split <;> omega
theorem up_inj {k i j : Nat} (h : upI k i = upI k j) : i = j := by
  unfold upI at h
  split at h <;> split at h <;> omega
theorem dn_inj {k i j : Nat} (hi : i ≠ k) (hj : j ≠ k) (h : dnI k i = dnI k j) : i = j := by
  unfold dnI at h
  split at h <;> split at h <;> omega
theorem nodup_map_on {α β : Type} {f : α → β} : ∀ {l : List α}, (∀ x ∈ l, ∀ y ∈ l, f x = f y → x = y) → l.Nodup → (l.map f).Nodup
  | [], _, _ => List.nodup_nil
  | x :: l, h, n => by
    rw [List.map_cons, List.nodup_cons]
    rw [List.nodup_cons] at n
    refine ⟨fun m => ?_, nodup_map_on (fun a ha b hb => h a (List.mem_cons_of_mem _ ha) b (List.mem_cons_of_mem _ hb)) n.2⟩
    obtain ⟨y, hy, e⟩ := List.mem_map.mp m
    have := h y (List.mem_cons_of_mem _ hy) x List.mem_cons_self e
    subst this
    exact n.1 hy
theorem perm_erase {α : Type} : ∀ {m : List α} {k : Nat} {x : α}, m[k]? = some x → m.Perm (x :: m.eraseIdx k)
  | [], k, x, h => by simp at h
  | y :: m, 0, x, h => by
    have : y = x := by simpa using h
    subst this
    exact List.Perm.refl _
  | y :: m, k + 1, x, h => by
    have h' : m[k]? = some x := by simpa using h
    have := perm_erase h'
    exact (List.Perm.cons y this).trans (List.Perm.swap x y _)
theorem isEx_perm {α : Type} : ∀ {l m : List α} {e : List Nat}, IsEx l m e → ∃ r, m.Perm (l ++ r)
  | [], m, _, _ => ⟨m, List.Perm.refl _⟩
  | x :: l, m, [], h => by
    have := h.2
    simp at this
  | x :: l, m, k :: e, h => by
    obtain ⟨n, q⟩ := h
    rw [List.map_cons, List.map_cons] at q
    obtain ⟨q1, q2⟩ := List.cons.inj q
    rw [List.nodup_cons] at n
    have hk : ∀ i ∈ e, i ≠ k := fun i hi c => n.1 (c ▸ hi)
    have : IsEx l (m.eraseIdx k) (e.map (dnI k)) := by
      refine ⟨nodup_map_on (fun a ha b hb => dn_inj (hk a ha) (hk b hb)) n.2, ?_⟩
      rw [List.map_map, ← q2]
      refine List.map_congr_left fun i hi => ?_
      show (m.eraseIdx k)[dnI k i]? = m[i]?
      rw [erase_up, up_dn (hk i hi)]
    obtain ⟨r, hr⟩ := isEx_perm this
    exact ⟨r, (perm_erase q1).trans (List.Perm.cons x hr)⟩
theorem isEx_of_perm {α : Type} : ∀ {l m : List α}, l.Perm m → ∃ e, IsEx l m e
  | [], m, h => ⟨[], List.nodup_nil, rfl⟩
  | x :: l, m, h => by
    have hx : x ∈ m := h.mem_iff.mp List.mem_cons_self
    obtain ⟨k, hk⟩ := List.mem_iff_getElem?.mp hx
    have hp := h.trans (perm_erase hk)
    obtain ⟨e, n, q⟩ := isEx_of_perm hp.cons_inv
    refine ⟨k :: e.map (upI k), ?_, ?_⟩
    · rw [List.nodup_cons]
      refine ⟨fun c => ?_, nodup_map_on (fun a _ b _ => up_inj) n⟩
      obtain ⟨i, _, c⟩ := List.mem_map.mp c
      exact up_ne k i c
    · rw [List.map_cons, List.map_cons, hk, List.map_map, ← q]
      congr 1
      refine List.map_congr_left fun i hi => ?_
      show m[upI k i]? = (m.eraseIdx k)[i]?
      rw [erase_up]
theorem isEx_len {α : Type} {l m : List α} {e : List Nat} (h : IsEx l m e) : e.length = l.length := by
  have := congrArg List.length h.2
  simpa using this
theorem isEx_iff {α : Type} {l m : List α} (hl : l.length = m.length) : (∃ e, IsEx l m e) ↔ l.Perm m := by
  constructor
  · rintro ⟨e, h⟩
    obtain ⟨r, hr⟩ := isEx_perm h
    have := hr.length_eq
    rw [List.length_append] at this
    have : r = [] := List.eq_nil_of_length_eq_zero (by omega)
    subst this
    rw [List.append_nil] at hr
    exact hr.symm
  · exact isEx_of_perm
theorem zip_get {α β : Type} : ∀ (a : List α) (b : List β) (k : Nat), (a.zip b)[k]? = (match a[k]?, b[k]? with | some x, some y => some (x, y) | _, _ => none)
  | [], b, k => by simp
  | x :: a, [], k => by
    rw [List.zip_nil_right]
    simp
  | x :: a, y :: b, 0 => rfl
  | x :: a, y :: b, k + 1 => by
    simp only [List.zip_cons_cons, List.getElem?_cons_succ]
    exact zip_get a b k
theorem isEx_zip {α β : Type} {a a' : List α} {b b' : List β} {e : List Nat} (h1 : a.length = b.length) (h2 : a'.length = b'.length) : IsEx (a.zip b) (a'.zip b') e ↔ IsEx a a' e ∧ e.map (fun k => b'[k]?) = b.map some := by
  have key : ∀ (e : List Nat) (a : List α) (b : List β), a.length = b.length → (e.map (fun k => (a'.zip b')[k]?) = (a.zip b).map some ↔ e.map (fun k => a'[k]?) = a.map some ∧ e.map (fun k => b'[k]?) = b.map some) := by
    intro e
    induction e with
    | nil =>
      intro a b h
      cases a with
      | nil => cases b with
        | nil => simp
        | cons _ _ => simp at h
      | cons x a => cases b with
        | nil => simp at h
        | cons y b => simp
    | cons k e ih =>
      intro a b h
      cases a with
      | nil => cases b with
        | nil => simp
        | cons _ _ => simp at h
      | cons x a => cases b with
        | nil => simp at h
        | cons y b =>
          have h' : a.length = b.length := by simpa using h
          simp only [List.map_cons, List.zip_cons_cons]
          have t : ((a'.zip b')[k]? = some (x, y)) ↔ a'[k]? = some x ∧ b'[k]? = some y := by
            rw [zip_get]
            constructor
            · intro q
              split at q
              · cases q; exact ⟨‹_›, ‹_›⟩
              · cases q
            · rintro ⟨q1, q2⟩
              rw [q1, q2]
          constructor
          · intro q
            obtain ⟨q1, q2⟩ := List.cons.inj q
            obtain ⟨r1, r2⟩ := (ih a b h').mp q2
            obtain ⟨s1, s2⟩ := t.mp q1
            rw [s1, s2, r1, r2]
            exact ⟨rfl, rfl⟩
          · rintro ⟨q, r⟩
            obtain ⟨q1, q2⟩ := List.cons.inj q
            obtain ⟨r1, r2⟩ := List.cons.inj r
            rw [t.mpr ⟨q1, r1⟩, (ih a b h').mpr ⟨q2, r2⟩]
  unfold IsEx
  rw [key e a b h1]
  constructor
  · rintro ⟨n, p, q⟩; exact ⟨⟨n, p⟩, q⟩
  · rintro ⟨⟨n, p⟩, q⟩; exact ⟨n, p, q⟩
end K
namespace K
def plc (hands : List Int) (t : Rat) : List Rat := hands.map fun (h : Int) => fr (t * (h : Rat))
def trn (xs : List Rat) (c : Rat) : List Rat := xs.map fun x => fr (x + c)
def SeenBy (hands : List Int) (e : List Nat) (seen : List Rat) (c t : Rat) : Prop := ∀ p ∈ seen.zip e, has (hands.getD p.2 0) (p.1 + c) t
def stp (m s : Nat) : Rat := (s : Rat) / (m : Rat)
def Shows {α : Type} (hands : List Int) (L0 L : List α) (m : Nat) (seen : List Rat) (t : Rat) : Prop := ∃ e, IsEx L0 L e ∧ ∃ s, s < m ∧ SeenBy hands e seen (stp m s) t
theorem seenBy_iff {hands : List Int} {c t : Rat} : ∀ {seen : List Rat} {e : List Nat}, e.length = seen.length → (∀ k ∈ e, k < hands.length) → (SeenBy hands e seen c t ↔ e.map (fun k => (plc hands t)[k]?) = (trn seen c).map some)
  | [], [], _, _ => by simp [SeenBy, trn]
  | [], _ :: _, h, _ => by simp at h
  | _ :: _, [], h, _ => by simp at h
  | x :: seen, k :: e, h, hk => by
    have ih := seenBy_iff (hands := hands) (c := c) (t := t) (seen := seen) (e := e) (by simpa using h) (fun i hi => hk i (List.mem_cons_of_mem _ hi))
    have hk' := hk k List.mem_cons_self
    have e1 : hands.getD k 0 = hands[k] := by rw [List.getD_eq_getElem?_getD, List.getElem?_eq_getElem hk', Option.getD_some]
    have e2 : (plc hands t)[k]? = some (fr (t * (hands[k] : Rat))) := by
      unfold plc
      rw [List.getElem?_map, List.getElem?_eq_getElem hk', Option.map_some]
    have t1 : has (hands.getD k 0) (x + c) t ↔ fr (t * (hands[k] : Rat)) = fr (x + c) := by
      rw [e1, fr_eq_iff]
      rfl
    unfold SeenBy at ih ⊢
    unfold trn at ih ⊢
    simp only [List.zip_cons_cons, List.map_cons, e2]
    constructor
    · intro q
      have a := t1.mp (q (x, k) List.mem_cons_self)
      have b := ih.mp fun p hp => q p (List.mem_cons_of_mem _ hp)
      rw [a, b]
    · intro q
      obtain ⟨q1, q2⟩ := List.cons.inj q
      intro p hp
      rcases List.mem_cons.mp hp with rfl | hp
      · exact t1.mpr (Option.some.inj q1)
      · exact ih.mpr q2 p hp
theorem isEx_lt {α : Type} {l m : List α} {e : List Nat} (h : IsEx l m e) : ∀ k ∈ e, k < m.length := by
  intro k hk
  have : m[k]? ∈ e.map (fun k => m[k]?) := List.mem_map.mpr ⟨k, hk, rfl⟩
  rw [h.2] at this
  obtain ⟨x, _, e⟩ := List.mem_map.mp this
  exact (List.getElem?_eq_some_iff.mp e.symm).1
theorem shows_perm {α : Type} {hands : List Int} {L0 L : List α} {m : Nat} {seen : List Rat} {t : Rat} (hh : hands.length = L.length) (hs : seen.length = L0.length) (hL : L0.length = L.length) :
    Shows hands L0 L m seen t ↔ ∃ s, s < m ∧ (L0.zip (trn seen (stp m s))).Perm (L.zip (plc hands t)) := by
  have l1 : ∀ c, L0.length = (trn seen c).length := fun c => by unfold trn; rw [List.length_map, hs]
  have l2 : L.length = (plc hands t).length := by unfold plc; rw [List.length_map, hh]
  have key : ∀ e s, IsEx (L0.zip (trn seen (stp m s))) (L.zip (plc hands t)) e ↔ IsEx L0 L e ∧ SeenBy hands e seen (stp m s) t := by
    intro e s
    rw [isEx_zip (l1 _) l2]
    constructor
    · rintro ⟨a, b⟩
      refine ⟨a, (seenBy_iff ?_ ?_).mpr b⟩
      · rw [isEx_len a, hs]
      · intro k hk; rw [hh]; exact isEx_lt a k hk
    · rintro ⟨a, b⟩
      refine ⟨a, (seenBy_iff ?_ ?_).mp b⟩
      · rw [isEx_len a, hs]
      · intro k hk; rw [hh]; exact isEx_lt a k hk
  constructor
  · rintro ⟨e, he, s, hs', q⟩
    exact ⟨s, hs', (isEx_iff (by rw [List.length_zip, List.length_zip, ← l1, ← l2, hL])).mp ⟨e, (key e s).mpr ⟨he, q⟩⟩⟩
  · rintro ⟨s, hs', q⟩
    obtain ⟨e, he⟩ := isEx_of_perm q
    obtain ⟨a, b⟩ := (key e s).mp he
    exact ⟨e, a, s, hs', b⟩
def rws {α : Type} (L : List α) (xs : List Rat) (m s : Nat) : List (α × Rat) := L.zip (trn xs (stp m s))
theorem fr_add_fr (x c : Rat) : fr (fr x + c) = fr (x + c) := fr_eq_iff.mpr ((fr_eqv x).add (Eqv.refl c))
theorem trn_plc (hands : List Int) (t : Rat) (m : Nat) : trn (plc hands t) (stp m 0) = plc hands t := by
  unfold trn plc stp
  rw [List.map_map]
  refine List.map_congr_left fun h _ => ?_
  show fr (fr _ + ((0 : Nat) : Rat) / (m : Rat)) = _
  have : ((0 : Nat) : Rat) / (m : Rat) = 0 := by rw [Rat.div_def]; exact Rat.zero_mul _
  rw [this, Rat.add_zero, fr_fr]
theorem stp_add {m : Nat} (hm : 0 < m) (s j : Nat) : Eqv (stp m s + stp m j) (stp m ((s + j) % m)) := by
  have mz : (m : Rat) ≠ 0 := by
    intro h
    have : m = 0 := by exact_mod_cast h
    omega
  refine ⟨((s + j) / m : Nat), ?_⟩
  have h := Nat.mod_add_div (s + j) m
  have h2 : (((s + j) % m + m * ((s + j) / m) : Nat) : Rat) = ((s + j : Nat) : Rat) := by rw [h]
  rw [Rat.natCast_add, Rat.natCast_mul, Rat.natCast_add] at h2
  unfold stp
  have e : (((((s + j) / m : Nat) : Int)) : Rat) = (((s + j) / m : Nat) : Rat) := Rat.intCast_natCast _
  rw [e]
  rw [Rat.div_def, Rat.div_def, Rat.div_def]
  have : (m : Rat) * (m : Rat)⁻¹ = 1 := Rat.mul_inv_cancel _ mz
  grind
theorem trn_trn {m : Nat} (hm : 0 < m) (xs : List Rat) (s j : Nat) : trn (trn xs (stp m s)) (stp m j) = trn xs (stp m ((s + j) % m)) := by
  unfold trn
  rw [List.map_map]
  refine List.map_congr_left fun x _ => ?_
  show fr (fr (x + stp m s) + stp m j) = fr (x + stp m ((s + j) % m))
  rw [fr_add_fr, Rat.add_assoc]
  exact fr_eq_iff.mpr ((Eqv.refl x).add (stp_add hm s j))
theorem zip_trn {α : Type} (L : List α) (xs : List Rat) (c : Rat) : L.zip (trn xs c) = (L.zip xs).map fun p => (p.1, fr (p.2 + c)) := by
  unfold trn
  rw [List.zip_map_right]
  rfl
theorem rot_perm : ∀ m, m ≤ 6 → ∀ s, s < m → ((List.range m).map fun j => (s + j) % m).Perm (List.range m) := by
  intro m hm s hs
  have key : ∀ m ∈ List.range 7, ∀ s ∈ List.range 6, s < m → ((List.range m).map fun j => (s + j) % m).isPerm (List.range m) = true := by decide +kernel
  exact List.isPerm_iff.mp (key m (List.mem_range.mpr (by omega)) s (List.mem_range.mpr (by omega)) hs)
theorem looks_iff {α γ δ : Type} {m : Nat} (hm : m ≤ 6) {L0 L : List α} {xs ys : List Rat} (hys : trn ys (stp m 0) = ys) (hl : L0.length = L.length)
    {G : List (α × Rat) → γ} {F : List γ → δ} (hG : ∀ a b : List (α × Rat), G a = G b ↔ a.Perm b) (hF : ∀ a b : List γ, F a = F b ↔ a.Perm b) (h0 : 0 < m) :
    F ((List.range m).map fun s => G (rws L ys m s)) = F ((List.range m).map fun s => G (rws L0 xs m s)) ↔ ∃ s, s < m ∧ (L0.zip (trn xs (stp m s))).Perm (L.zip ys) := by
  rw [hF]
  constructor
  · intro h
    have : G (rws L ys m 0) ∈ (List.range m).map fun s => G (rws L0 xs m s) := h.mem_iff.mp (List.mem_map.mpr ⟨0, List.mem_range.mpr h0, rfl⟩)
    obtain ⟨s, hs, e⟩ := List.mem_map.mp this
    refine ⟨s, List.mem_range.mp hs, ?_⟩
    have := (hG _ _).mp e
    unfold rws at this
    rw [hys] at this
    exact this
  · rintro ⟨s, hs, q⟩
    have e : ((List.range m).map fun j => G (rws L ys m j)) = ((List.range m).map fun j => (s + j) % m).map fun i => G (rws L0 xs m i) := by
      rw [List.map_map]
      refine List.map_congr_left fun j _ => ?_
      show G _ = G _
      rw [hG]
      unfold rws
      rw [← trn_trn h0 xs s j, zip_trn L0 (trn xs (stp m s)), zip_trn L ys]
      exact (q.map _).symm
    rw [e]
    exact (rot_perm m hm s hs).map _
end K
namespace K
def SW (a b : Int) : Prop := (0 ≤ a ∧ 0 ≤ b) ∨ (a ≤ 0 ∧ b ≤ 0)
theorem fm_eq (a b : Int) : a - a.fdiv b * b = a.fmod b := by rw [Int.fmod_def, Int.mul_comm]
theorem fm_small (a b : Int) (hb : b ≠ 0) : (a.fmod b).natAbs < b.natAbs ∧ SW b (a.fmod b) := by
  rcases Int.lt_or_gt_of_ne hb with h | h
  · have e := Int.neg_fmod_neg (-a) (-b)
    rw [Int.neg_neg, Int.neg_neg] at e
    have h1 := Int.fmod_lt_of_pos (-a) (show 0 < -b by omega)
    have h2 := Int.fmod_nonneg_of_pos (-a) (show 0 < -b by omega)
    rw [e]
    exact ⟨by omega, .inr ⟨by omega, by omega⟩⟩
  · have h1 := Int.fmod_lt_of_pos a h
    have h2 := Int.fmod_nonneg_of_pos a h
    exact ⟨by omega, .inl ⟨by omega, by omega⟩⟩
theorem sw_div {a b : Int} (h : SW a b) : 0 ≤ a.fdiv b := by
  rcases h with h | h
  · exact Int.fdiv_nonneg h.1 h.2
  · have e := Int.neg_fdiv_neg a b
    rw [← e]
    exact Int.fdiv_nonneg (by omega) (by omega)
theorem sw_abs {a b : Int} (h : SW a b) (hb : b ≠ 0) : a.natAbs = (a.fdiv b).natAbs * b.natAbs + (a.fmod b).natAbs := by
  have e := Int.mul_fdiv_add_fmod a b
  have q := sw_div h
  have s := (fm_small a b hb).2
  have key : ∀ (q b m : Int), 0 ≤ q → SW b m → (b * q + m).natAbs = q.natAbs * b.natAbs + m.natAbs := by
    intro q b m hq hs
    have e1 : q.natAbs * b.natAbs = (b * q).natAbs := by rw [Int.natAbs_mul, Nat.mul_comm]
    rw [e1]
    rcases hs with hs | hs
    · have := Int.mul_nonneg hs.1 hq
      omega
    · have := Int.mul_nonneg (show 0 ≤ -b by omega) hq
      rw [Int.neg_mul] at this
      omega
  have := key (a.fdiv b) b (a.fmod b) q s
  rw [e] at this
  exact this
theorem gcd_fm (a b : Int) : Nat.gcd b.natAbs (a.fmod b).natAbs = Nat.gcd a.natAbs b.natAbs := by
  have e1 : Int.gcd b (a.fmod b) = Int.gcd b a := by
    rw [← fm_eq]
    have := Int.gcd_add_mul_left_right b a (-(a.fdiv b))
    have e2 : a - a.fdiv b * b = a + b * -(a.fdiv b) := by rw [Int.mul_neg, Int.mul_comm b]; omega
    rw [e2]
    exact this
  have : Int.gcd b a = Int.gcd a b := Int.gcd_comm b a
  rw [this] at e1
  exact e1
structure Eq3 where
  a : Int
  b : Int
  c : Rat
def Eq3.sat (e : Eq3) (t u : Rat) : Prop := Eqv (u * (e.a : Rat) + t * (e.b : Rat)) e.c
def Eq3.less (e f : Eq3) (q : Int) : Eq3 := ⟨e.a - q * f.a, e.b - q * f.b, fr (e.c + fr (f.c * ((-q : Int) : Rat)))⟩
theorem less_sat {e f : Eq3} {q : Int} {t u : Rat} : (f.sat t u ∧ (e.less f q).sat t u) ↔ (e.sat t u ∧ f.sat t u) := by
  have c1 : Eqv (e.less f q).c (e.c - f.c * (q : Rat)) := by
    have h1 := fr_eqv (e.c + fr (f.c * ((-q : Int) : Rat)))
    have h2 := (Eqv.refl e.c).add (fr_eqv (f.c * ((-q : Int) : Rat)))
    refine (h1.trans h2).trans (Eqv.of_eq ?_)
    rw [Rat.intCast_neg]; grind
  have c2 : u * ((e.less f q).a : Rat) + t * ((e.less f q).b : Rat) = (u * (e.a : Rat) + t * (e.b : Rat)) - (u * (f.a : Rat) + t * (f.b : Rat)) * (q : Rat) := by
    show u * ((e.a - q * f.a : Int) : Rat) + t * ((e.b - q * f.b : Int) : Rat) = _
    rw [Rat.intCast_sub, Rat.intCast_sub, Rat.intCast_mul, Rat.intCast_mul]
    grind
  unfold Eq3.sat
  rw [c2]
  constructor
  · rintro ⟨hf, h⟩
    refine ⟨?_, hf⟩
    have h1 := (h.trans c1).add (hf.mul q)
    exact ((Eqv.of_eq (by grind)).trans h1).trans (Eqv.of_eq (by grind))
  · rintro ⟨he, hf⟩
    exact ⟨hf, (he.sub (hf.mul q)).trans c1.symm⟩
def MN (N : Nat) (c : Rat) : Prop := ∃ k : Int, c = fr ((k : Rat) / (N : Rat))
theorem MN.less {N : Nat} (hN : 0 < N) {c d : Rat} (q : Int) (h : MN N c) (h' : MN N d) : MN N (fr (c + fr (d * (q : Rat)))) := by
  obtain ⟨k, rfl⟩ := h
  obtain ⟨l, rfl⟩ := h'
  refine ⟨k + l * q, fr_eq_iff.mpr ?_⟩
  have h1 := (fr_eqv ((k : Rat) / (N : Rat))).add ((fr_eqv (fr ((l : Rat) / (N : Rat)) * (q : Rat))).trans ((fr_eqv ((l : Rat) / (N : Rat))).mul q))
  refine h1.trans (Eqv.of_eq ?_)
  rw [Rat.intCast_add, Rat.intCast_mul, Rat.div_def, Rat.div_def, Rat.div_def]
  grind
theorem MN.mul {N : Nat} {d : Rat} (q : Int) (h' : MN N d) : MN N (fr (d * (q : Rat))) := by
  obtain ⟨l, rfl⟩ := h'
  refine ⟨l * q, fr_eq_iff.mpr ?_⟩
  refine ((fr_eqv ((l : Rat) / (N : Rat))).mul q).trans (Eqv.of_eq ?_)
  rw [Rat.intCast_mul, Rat.div_def, Rat.div_def]
  grind
theorem MN.zero {N : Nat} : MN N 0 := ⟨0, by
  have : ((0 : Int) : Rat) / (N : Rat) = 0 := by rw [Rat.div_def]; exact Rat.zero_mul _
  rw [this, fr_zero]⟩
theorem euc_step {a0 a1 b0 b1 : Int} {B : Nat} (hs : SW a0 a1) (h1 : a1 ≠ 0) (h : b1.natAbs * a0.natAbs + b0.natAbs * a1.natAbs ≤ B) :
    (b0 - a0.fdiv a1 * b1).natAbs * a1.natAbs + b1.natAbs * (a0.fmod a1).natAbs ≤ B ∧ (b0 - a0.fdiv a1 * b1).natAbs ≤ B := by
  have a : (b0 - a0.fdiv a1 * b1).natAbs ≤ b0.natAbs + (a0.fdiv a1).natAbs * b1.natAbs := by
    have := Int.natAbs_sub_le b0 (a0.fdiv a1 * b1)
    rw [Int.natAbs_mul] at this
    exact this
  have e := sw_abs hs h1
  have hp : 0 < a1.natAbs := by omega
  generalize (b0 - a0.fdiv a1 * b1).natAbs = X at *
  generalize (a0.fdiv a1).natAbs = q at *
  generalize (a0.fmod a1).natAbs = m at *
  generalize a1.natAbs = r at *
  generalize b1.natAbs = y at *
  generalize b0.natAbs = x at *
  rw [e] at h
  have c := Nat.mul_le_mul_right r a
  rw [Nat.add_mul] at c
  rw [Nat.mul_add] at h
  have e3 : y * (q * r) = q * y * r := by rw [← Nat.mul_assoc, Nat.mul_comm y q]
  rw [e3] at h
  have b : X * r + y * m ≤ B := by omega
  refine ⟨b, ?_⟩
  have := Nat.mul_le_mul_left X hp
  omega
theorem euc_first {a0 a1 b0 b1 : Int} {A H : Nat} (h1 : a1 ≠ 0) (ha0 : a0.natAbs ≤ A) (ha1 : a1.natAbs ≤ A) (hb0 : b0.natAbs ≤ H) (hb1 : b1.natAbs ≤ H) :
    (b0 - a0.fdiv a1 * b1).natAbs * a1.natAbs + b1.natAbs * (a0.fmod a1).natAbs ≤ H * ((2 * A + 2) * (A + 1)) ∧ (b0 - a0.fdiv a1 * b1).natAbs ≤ H * ((2 * A + 2) * (A + 1)) := by
  have a : (b0 - a0.fdiv a1 * b1).natAbs ≤ b0.natAbs + (a0.fdiv a1).natAbs * b1.natAbs := by
    have := Int.natAbs_sub_le b0 (a0.fdiv a1 * b1)
    rw [Int.natAbs_mul] at this
    exact this
  have hm := (fm_small a0 a1 h1).1
  have hq : (a0.fdiv a1).natAbs ≤ 2 * A := by
    have e := Int.mul_fdiv_add_fmod a0 a1
    have e1 : (a1 * a0.fdiv a1).natAbs ≤ a0.natAbs + (a0.fmod a1).natAbs := by omega
    rw [Int.natAbs_mul] at e1
    have hp : 0 < a1.natAbs := by omega
    have := Nat.mul_le_mul_right (a0.fdiv a1).natAbs hp
    omega
  generalize (b0 - a0.fdiv a1 * b1).natAbs = X at *
  generalize (a0.fdiv a1).natAbs = q at *
  generalize (a0.fmod a1).natAbs = m at *
  generalize a1.natAbs = r at *
  generalize b1.natAbs = y at *
  generalize b0.natAbs = x at *
  have s1 : q * y ≤ 2 * A * H := Nat.mul_le_mul hq hb1
  have s2 : X ≤ H * (2 * A + 1) := by
    have : H * (2 * A + 1) = 2 * A * H + H := by rw [Nat.mul_add, Nat.mul_one, Nat.mul_comm]
    omega
  have s3 : X * r ≤ H * (2 * A + 1) * A := Nat.mul_le_mul s2 ha1
  have s4 : y * m ≤ H * A := Nat.mul_le_mul hb1 (by omega)
  have s5 : H * ((2 * A + 2) * (A + 1)) = H * (2 * A + 1) * A + H * A + H * (2 * A + 2) := by
    have : (2 * A + 2) * (A + 1) = (2 * A + 1) * A + A + (2 * A + 2) := by
      rw [Nat.mul_add (2 * A + 2) A 1, Nat.mul_one, Nat.add_mul, Nat.add_mul]
      omega
    rw [this, Nat.mul_add, Nat.mul_add, Nat.mul_assoc]
  have s6 : H * (2 * A + 1) ≤ H * (2 * A + 2) := Nat.mul_le_mul_left H (by omega)
  generalize H * (2 * A + 1) * A = z1 at *
  generalize H * A = z2 at *
  generalize H * (2 * A + 2) = z3 at *
  generalize H * (2 * A + 1) = z4 at *
  omega
end K
namespace K
theorem nodup_sub_len {α : Type} [DecidableEq α] : ∀ {a b : List α}, a.Nodup → (∀ x ∈ a, x ∈ b) → a.length ≤ b.length
  | [], _, _, _ => Nat.zero_le _
  | x :: a, b, n, h => by
    rw [List.nodup_cons] at n
    have hx := h x List.mem_cons_self
    have := nodup_sub_len (a := a) (b := b.erase x) n.2 fun y hy => by
      have : y ≠ x := fun e => n.1 (e ▸ hy)
      exact (List.mem_erase_of_ne this).mpr (h y (List.mem_cons_of_mem _ hy))
    rw [List.length_erase_of_mem hx] at this
    have : 0 < b.length := List.length_pos_of_mem hx
    rw [List.length_cons]
    omega
def Asc (r : List Rat) : Prop := r.Pairwise (· < ·)
theorem asc_uniq : ∀ {a b : List Rat}, Asc a → Asc b → (∀ x, x ∈ a ↔ x ∈ b) → a = b := fun {a b} ha hb h => by
  have irr : ∀ x : Rat, ¬ x < x := fun x => Rat.lt_irrefl
  have na : a.Nodup := ha.imp fun h e => by subst e; exact irr _ h
  have nb : b.Nodup := hb.imp fun h e => by subst e; exact irr _ h
  have p := (List.perm_ext_iff_of_nodup na nb).mpr h
  exact List.Perm.eq_of_pairwise (le := fun x y : Rat => x < y) (fun x y _ _ h1 h2 => absurd (by grind : x < x) (irr x)) ha hb p
def lcmL (ds : List Nat) : Nat := ds.foldl Nat.lcm 1
theorem lcm_acc : ∀ (ds : List Nat) (l : Nat), l ∣ ds.foldl Nat.lcm l ∧ ∀ d ∈ ds, d ∣ ds.foldl Nat.lcm l
  | [], l => ⟨Nat.dvd_refl _, fun _ h => nomatch h⟩
  | d :: ds, l => by
    obtain ⟨a, b⟩ := lcm_acc ds (Nat.lcm l d)
    refine ⟨Nat.dvd_trans (Nat.dvd_lcm_left l d) a, fun x hx => ?_⟩
    rcases List.mem_cons.mp hx with rfl | hx
    · exact Nat.dvd_trans (Nat.dvd_lcm_right l x) a
    · exact b x hx
theorem dvd_lcmL {ds : List Nat} {d : Nat} (h : d ∈ ds) : d ∣ lcmL ds := (lcm_acc ds 1).2 d h
theorem lcm_bd (n : Nat) : ∀ (ds : List Nat) (l k : Nat), (∀ d ∈ ds, 0 < d ∧ d < 2 ^ n) → 0 < l → l ≤ 2 ^ k → 0 < ds.foldl Nat.lcm l ∧ ds.foldl Nat.lcm l ≤ 2 ^ (k + ds.length * n)
  | [], l, k, _, h0, h1 => ⟨h0, by simpa using h1⟩
  | d :: ds, l, k, h, h0, h1 => by
    obtain ⟨d0, d1⟩ := h d List.mem_cons_self
    have e : Nat.lcm l d ≤ 2 ^ (k + n) := by
      have := Nat.le_of_dvd (Nat.mul_pos h0 d0) (Nat.lcm_dvd_mul l d)
      rw [Nat.pow_add]
      exact Nat.le_trans this (Nat.mul_le_mul h1 (Nat.le_of_lt d1))
    obtain ⟨a, b⟩ := lcm_bd n ds (Nat.lcm l d) (k + n) (fun x hx => h x (List.mem_cons_of_mem _ hx)) (Nat.lcm_pos h0 d0) e
    refine ⟨a, ?_⟩
    rw [List.length_cons, Nat.add_mul, Nat.one_mul]
    have : k + (ds.length * n + n) = k + n + ds.length * n := by omega
    rw [this]
    exact b
theorem lcm_div {l d : Nat} : l / Nat.gcd l d * d = Nat.lcm l d := by
  unfold Nat.lcm
  exact (Nat.div_mul_right_comm (Nat.gcd_dvd_left l d) d)
def numOver (L : Nat) (t : Rat) : Int := t.num * ((L / t.den : Nat) : Int)
theorem numOver_eq {L : Nat} {t : Rat} (hL : 0 < L) (h : t.den ∣ L) : (numOver L t : Rat) / (L : Rat) = t := by
  obtain ⟨k, hk⟩ := h
  have dp : 0 < t.den := Nat.pos_of_ne_zero t.den_nz
  have kp : 0 < k := by
    rcases Nat.eq_zero_or_pos k with z | z
    · subst z; rw [Nat.mul_zero] at hk; omega
    · exact z
  have e1 : L / t.den = k := by rw [hk]; exact Nat.mul_div_cancel_left k dp
  unfold numOver
  rw [e1, hk, Rat.intCast_mul, Rat.natCast_mul, Rat.intCast_natCast]
  have h1 : (t.den : Rat) ≠ 0 := by exact_mod_cast t.den_nz
  have h2 : (k : Rat) ≠ 0 := by
    intro z
    have : k = 0 := by exact_mod_cast z
    omega
  have e2 := num_div_den t
  have u := Rat.mul_inv_cancel _ h1
  have v := Rat.mul_inv_cancel _ h2
  rw [Rat.div_def, Rat.inv_mul_rev]
  rw [Rat.div_def] at e2
  have : (t.num : Rat) * (k : Rat) * ((k : Rat)⁻¹ * (t.den : Rat)⁻¹) = (t.num : Rat) * (t.den : Rat)⁻¹ := by grind
  rw [this, e2]
theorem numOver_inj {L : Nat} {t u : Rat} (hL : 0 < L) (h : t.den ∣ L) (h' : u.den ∣ L) (e : numOver L t = numOver L u) : t = u := by
  rw [← numOver_eq hL h, e, numOver_eq hL h']
end K
namespace K
theorem eqv_gcd (w : Rat) : ∀ (m n : Nat), Eqv (w * (m : Rat)) 0 → Eqv (w * (n : Rat)) 0 → Eqv (w * (Nat.gcd m n : Rat)) 0 := by
  intro m n
  induction m, n using Nat.gcd.induction with
  | H0 n => intro _ h; rw [Nat.gcd_zero_left]; exact h
  | H1 m n hm ih =>
    intro h1 h2
    rw [Nat.gcd_rec]
    refine ih ?_ h1
    have e := Nat.mod_add_div n m
    have e2 : ((n % m : Nat) : Rat) = (n : Rat) - (m : Rat) * ((n / m : Nat) : Rat) := by
      have : ((n % m + m * (n / m) : Nat) : Rat) = (n : Rat) := by rw [e]
      rw [Rat.natCast_add, Rat.natCast_mul] at this
      grind
    rw [e2]
    have h3 := h1.mul ((n / m : Nat) : Int)
    rw [Rat.intCast_natCast] at h3
    have h4 := h2.sub h3
    refine (Eqv.of_eq ?_).trans (h4.trans (Eqv.of_eq ?_)) <;> grind
theorem eqv_abs {w : Rat} {h : Int} (q : Eqv (w * (h : Rat)) 0) : Eqv (w * (h.natAbs : Rat)) 0 := by
  rcases Int.natAbs_eq h with e | e
  · rw [e, Rat.intCast_natCast] at q
    exact q
  · rw [e, Rat.intCast_neg, Rat.intCast_natCast] at q
    have := q.neg
    refine (Eqv.of_eq ?_).trans (this.trans (Eqv.of_eq ?_)) <;> grind
def gcdF (l : List Int) : Nat := l.foldl (fun g h => Nat.gcd g h.natAbs) 0
theorem eqv_gcdF (w : Rat) : ∀ (l : List Int) (g : Nat), Eqv (w * (g : Rat)) 0 → (∀ h ∈ l, Eqv (w * (h : Rat)) 0) → Eqv (w * ((l.foldl (fun g h => Nat.gcd g h.natAbs) g : Nat) : Rat)) 0
  | [], g, hg, _ => hg
  | x :: l, g, hg, h => eqv_gcdF w l (Nat.gcd g x.natAbs) (eqv_gcd w g x.natAbs hg (eqv_abs (h x List.mem_cons_self))) fun y hy => h y (List.mem_cons_of_mem _ hy)
theorem eqv_one {w : Rat} {l : List Int} (h1 : gcdF l = 1) (h : ∀ x ∈ l, Eqv (w * (x : Rat)) 0) : Eqv w 0 := by
  have q := eqv_gcdF w l 0 ⟨0, by grind⟩ h
  have e : (l.foldl (fun g h => Nat.gcd g h.natAbs) 0) = 1 := h1
  rw [e] at q
  exact (Eqv.of_eq (by show w = w * (1 : Rat); grind)).trans q
theorem seen_uniq {hands : List Int} {e : List Nat} {seen : List Rat} {c u v : Rat} (g : gcdF hands = 1) (cov : ∀ k, k < hands.length → k ∈ e) (hl : e.length = seen.length) (hu : SeenBy hands e seen c u) (hv : SeenBy hands e seen c v) (u0 : 0 ≤ u) (u1 : u < 1) (v0 : 0 ≤ v) (v1 : v < 1) : u = v := by
  have w : Eqv (u - v) 0 := by
    refine eqv_one g fun h hh => ?_
    obtain ⟨k, hk, rfl⟩ := List.getElem_of_mem hh
    have hke := cov k hk
    obtain ⟨i, hi, ei⟩ := List.getElem_of_mem hke
    have hm : (seen[i]'(by omega), k) ∈ seen.zip e := by
      rw [List.mem_iff_getElem]
      exact ⟨i, by rw [List.length_zip]; omega, by rw [List.getElem_zip, ei]⟩
    have a := hu _ hm
    have b := hv _ hm
    unfold has at a b
    have e1 : hands.getD k 0 = hands[k] := by rw [List.getD_eq_getElem?_getD, List.getElem?_eq_getElem hk, Option.getD_some]
    simp only [e1] at a b
    have := a.sub b
    refine (Eqv.of_eq ?_).trans (this.trans (Eqv.of_eq ?_)) <;> grind
  have q := w.add (Eqv.refl v)
  exact eqv_eq ((Eqv.of_eq (by grind)).trans (q.trans (Eqv.of_eq (by grind)))) u0 u1 v0 v1
theorem isEx_cov {α : Type} {a b : List α} {e : List Nat} (h : IsEx a b e) (hl : a.length = b.length) : ∀ k, k < b.length → k ∈ e := by
  intro k hk
  have h1 : e.Perm (List.range b.length) := by
    have : IsEx e (List.range b.length) e := by
      refine ⟨h.1, List.map_congr_left fun i hi => ?_⟩
      rw [List.getElem?_range (isEx_lt h i hi)]
    exact (isEx_iff (by rw [isEx_len h, List.length_range, hl])).mp ⟨e, this⟩
  exact h1.mem_iff.mpr (List.mem_range.mpr hk)
open Classical in
theorem shows_cov {α : Type} {hands : List Int} {L0 L : List α} {m : Nat} {seen : List Rat} (es : List (List Nat)) (hes : ∀ e, IsEx L0 L e → e ∈ es) (g : gcdF hands = 1) (hh : hands.length = L.length) (hs : seen.length = L0.length) (hL : L0.length = L.length) :
    ∃ cov : List Rat, cov.length ≤ es.length * m ∧ ∀ u, 0 ≤ u → u < 1 → Shows hands L0 L m seen u → u ∈ cov := by
  refine ⟨es.flatMap fun e => (List.range m).map fun s => if h : ∃ u : Rat, (0 ≤ u ∧ u < 1) ∧ SeenBy hands e seen (stp m s) u then h.choose else 0, ?_, ?_⟩
  · rw [List.length_flatMap]
    have : ∀ l : List (List Nat), (l.map fun e => ((List.range m).map fun s => if h : ∃ u : Rat, (0 ≤ u ∧ u < 1) ∧ SeenBy hands e seen (stp m s) u then h.choose else 0).length).sum ≤ l.length * m := by
      intro l
      induction l with
      | nil => simp
      | cons x l ih =>
        rw [List.map_cons, List.sum_cons, List.length_cons, Nat.add_mul, Nat.one_mul, List.length_map, List.length_range]
        omega
    exact this es
  · intro u u0 u1 ⟨e, he, s, hs', q⟩
    rw [List.mem_flatMap]
    refine ⟨e, hes e he, List.mem_map.mpr ⟨s, List.mem_range.mpr hs', ?_⟩⟩
    have ex : ∃ u : Rat, (0 ≤ u ∧ u < 1) ∧ SeenBy hands e seen (stp m s) u := ⟨u, ⟨u0, u1⟩, q⟩
    rw [dif_pos ex]
    exact seen_uniq g (fun k hk => isEx_cov he hL k (by omega)) (by rw [isEx_len he, hs]) ex.choose_spec.2 q ex.choose_spec.1.1 ex.choose_spec.1.2 u0 u1
theorem hand_times {h : Int} (hz : h ≠ 0) {x u : Rat} (u0 : 0 ≤ u) (u1 : u < 1) (q : has h x u) : ∃ w : Nat, w < h.natAbs ∧ u = fr ((x + (w : Rat)) / (h : Rat)) := by
  obtain ⟨k, hk⟩ := q
  have hr : (h : Rat) ≠ 0 := by
    intro z
    have : h = 0 := by exact_mod_cast z
    exact hz this
  have e1 : u = (x + k) / h := by rw [← hk, Rat.mul_div_cancel hr]
  have ha : (h.natAbs : Int) ≠ 0 := by omega
  have m0 := Int.emod_nonneg k ha
  have m1 := Int.emod_lt_of_pos k (show (0 : Int) < (h.natAbs : Int) by omega)
  refine ⟨(k % (h.natAbs : Int)).toNat, by omega, ?_⟩
  have e2 : (((k % (h.natAbs : Int)).toNat : Nat) : Rat) = ((k % (h.natAbs : Int) : Int) : Rat) := by
    rw [← Rat.intCast_natCast, Int.toNat_of_nonneg m0]
  rw [e2, ← fr_self u0 u1, e1]
  refine fr_eq_iff.mpr ?_
  have dv := Int.emod_add_mul_ediv k (h.natAbs : Int)
  have e3 : (k : Rat) = ((k % (h.natAbs : Int) : Int) : Rat) + ((h.natAbs : Int) : Rat) * ((k / (h.natAbs : Int) : Int) : Rat) := by
    rw [← Rat.intCast_mul, ← Rat.intCast_add, dv]
  obtain ⟨g, hg⟩ : ∃ g : Int, ((h.natAbs : Int) : Rat) = (h : Rat) * (g : Rat) := by
    rcases Int.natAbs_eq h with e | e
    · exact ⟨1, by rw [← e]; show (h : Rat) = (h : Rat) * (1 : Rat); grind⟩
    · refine ⟨-1, ?_⟩
      have : (h.natAbs : Int) = -h := by omega
      rw [this, Rat.intCast_neg, Rat.intCast_neg]
      show -(h : Rat) = (h : Rat) * (-(1 : Rat))
      grind
  refine ⟨g * (k / (h.natAbs : Int)), ?_⟩
  rw [e3, hg, Rat.intCast_mul, Rat.div_def, Rat.div_def]
  have := Rat.mul_inv_cancel _ hr
  grind
end K
namespace K
open PySem
def Stop (r : List Nat) : Prop := ∀ c ∈ r.head?, c < 48 ∨ 57 < c
theorem stop_nil : Stop [] := fun c h => nomatch h
theorem stop_cons {c : Nat} {r : List Nat} (h : c < 48 ∨ 57 < c) : Stop (c :: r) := fun d hd => by
  have : c = d := by simpa using hd
  subst this
  exact h
theorem figs_inj : ∀ {a b r r' : List Nat}, (∀ c ∈ a, 48 ≤ c ∧ c ≤ 57) → (∀ c ∈ b, 48 ≤ c ∧ c ≤ 57) → Stop r → Stop r' → a ++ r = b ++ r' → a = b ∧ r = r'
  | [], [], _, _, _, _, _, _, e => ⟨rfl, e⟩
  | [], y :: b, r, r', _, hb, hr, _, e => by
    have e : r = y :: (b ++ r') := e
    have z := hb y List.mem_cons_self
    have := hr y (by rw [e]; rfl)
    omega
  | x :: a, [], r, r', ha, _, _, hr', e => by
    have e : x :: (a ++ r) = r' := e
    have z := ha x List.mem_cons_self
    have := hr' x (by rw [← e]; rfl)
    omega
  | x :: a, y :: b, r, r', ha, hb, hr, hr', e => by
    have e : x :: (a ++ r) = y :: (b ++ r') := e
    injection e with e1 e2
    subst e1
    obtain ⟨e3, e4⟩ := figs_inj (fun c hc => ha c (List.mem_cons_of_mem _ hc)) (fun c hc => hb c (List.mem_cons_of_mem _ hc)) hr hr' e2
    exact ⟨by rw [e3], e4⟩
theorem num_inj {m n : Nat} {r r' : List Nat} (hr : Stop r) (hr' : Stop r') (e : TL.numL m ++ r = TL.numL n ++ r') : m = n ∧ r = r' := by
  obtain ⟨e1, e2⟩ := figs_inj (fun c hc => TL.numL_digits m c hc) (fun c hc => TL.numL_digits n c hc) hr hr' e
  exact ⟨TL.numL_inj e1, e2⟩
theorem num_head (n : Nat) : ∃ c l, TL.numL n = c :: l ∧ 48 ≤ c ∧ c ≤ 57 := by
  cases h : TL.numL n with
  | nil => exact absurd h (TL.numL_ne n)
  | cons c l => exact ⟨c, l, rfl, TL.numL_digits n c (by rw [h]; exact List.mem_cons_self)⟩
def sjn (z : Nat) : List (List Nat) → List Nat
  | [] => [z]
  | x :: xs => 44 :: 32 :: (x ++ sjn z xs)
theorem joinL_sjn (z : Nat) : ∀ (x : List Nat) (xs : List (List Nat)), TL.joinL [44, 32] (x :: xs) ++ [z] = x ++ sjn z xs
  | x, [] => rfl
  | x, y :: r => by
    show x ++ ([44, 32] ++ TL.joinL [44, 32] (y :: r)) ++ [z] = x ++ (44 :: 32 :: (y ++ sjn z r))
    rw [List.append_assoc, List.append_assoc, joinL_sjn z y r]
    rfl
structure Code {α : Type} (P : α → Prop) (e : α → List Nat) (z : Nat) : Prop where
  inj : ∀ a b r r', P a → P b → Stop r → Stop r' → e a ++ r = e b ++ r' → a = b ∧ r = r'
  hd : ∀ a, P a → ∃ c l, e a = c :: l ∧ c ≠ z
section
variable {α : Type} {P : α → Prop} {e : α → List Nat} {z : Nat}
theorem sjn_inj (h : Code P e z) (hz : z < 48 ∨ 57 < z) (hc : z ≠ 44) : ∀ (as bs : List α) (r r' : List Nat), (∀ a ∈ as, P a) → (∀ b ∈ bs, P b) → sjn z (as.map e) ++ r = sjn z (bs.map e) ++ r' → as = bs ∧ r = r'
  | [], [], r, r', _, _, q => ⟨rfl, by injection q⟩
  | [], b :: bs, r, r', _, _, q => by
    injection q with q1 _
    exact absurd q1 hc
  | a :: as, [], r, r', _, _, q => by
    injection q with q1 _
    exact absurd q1.symm hc
  | a :: as, b :: bs, r, r', ha, hb, q => by
    have q : 44 :: 32 :: (e a ++ sjn z (as.map e)) ++ r = 44 :: 32 :: (e b ++ sjn z (bs.map e)) ++ r' := q
    injection q with _ q
    injection q with _ q
    simp only [List.append_eq, List.append_assoc] at q
    have st : ∀ (l : List (List Nat)) (t : List Nat), Stop (sjn z l ++ t) := fun l t => by
      cases l with
      | nil => exact stop_cons hz
      | cons x l => exact stop_cons (.inl (by decide))
    obtain ⟨q1, q2⟩ := h.inj a b _ _ (ha a List.mem_cons_self) (hb b List.mem_cons_self) (st _ _) (st _ _) q
    obtain ⟨q3, q4⟩ := sjn_inj h hz hc as bs r r' (fun x hx => ha x (List.mem_cons_of_mem _ hx)) (fun x hx => hb x (List.mem_cons_of_mem _ hx)) q2
    exact ⟨by rw [q1, q3], q4⟩
def encS (o z : Nat) (e : α → List Nat) (l : List α) : List Nat := o :: (TL.joinL [44, 32] (l.map e) ++ [z])
theorem encS_inj {o : Nat} (h : Code P e z) (hz : z < 48 ∨ 57 < z) (hc : z ≠ 44) (as bs : List α) (r r' : List Nat) (ha : ∀ a ∈ as, P a) (hb : ∀ b ∈ bs, P b) (q : encS o z e as ++ r = encS o z e bs ++ r') : as = bs ∧ r = r' := by
  unfold encS at q
  rw [List.cons_append, List.cons_append] at q
  injection q with _ q
  match as, bs, ha, hb, q with
  | [], [], _, _, q => exact ⟨rfl, by simpa using q⟩
  | [], b :: bs, _, hb, q =>
    rw [List.map_cons, joinL_sjn] at q
    obtain ⟨c, l, e1, ne⟩ := h.hd b (hb b List.mem_cons_self)
    rw [e1] at q
    injection q with q1 _
    exact absurd q1.symm ne
  | a :: as, [], ha, _, q =>
    rw [List.map_cons, joinL_sjn] at q
    obtain ⟨c, l, e1, ne⟩ := h.hd a (ha a List.mem_cons_self)
    rw [e1] at q
    injection q with q1 _
    exact absurd q1 ne
  | a :: as, b :: bs, ha, hb, q =>
    rw [List.map_cons, List.map_cons, joinL_sjn, joinL_sjn, List.append_assoc, List.append_assoc] at q
    have st : ∀ (l : List (List Nat)) (t : List Nat), Stop (sjn z l ++ t) := fun l t => by
      cases l with
      | nil => exact stop_cons hz
      | cons x l => exact stop_cons (.inl (by decide))
    obtain ⟨q1, q2⟩ := h.inj a b _ _ (ha a List.mem_cons_self) (hb b List.mem_cons_self) (st _ _) (st _ _) q
    obtain ⟨q3, q4⟩ := sjn_inj h hz hc as bs r r' (fun x hx => ha x (List.mem_cons_of_mem _ hx)) (fun x hx => hb x (List.mem_cons_of_mem _ hx)) q2
    exact ⟨by rw [q1, q3], q4⟩
theorem encS_code {o y : Nat} (h : Code P e z) (hz : z < 48 ∨ 57 < z) (hc : z ≠ 44) (ho : o ≠ y) : Code (fun l : List α => ∀ a ∈ l, P a) (encS o z e) y :=
  ⟨fun as bs r r' ha hb _ _ q => encS_inj h hz hc as bs r r' ha hb q, fun l _ => ⟨o, _, rfl, ho⟩⟩
end
abbrev shL (d : PyData) : List Nat := TL.tl d.shown
theorem sh_list (xs : List PyData) : shL (.list xs) = 91 :: (TL.joinL [44, 32] (xs.map shL) ++ [93]) := by
  unfold shL
  rw [PyData.shown_list, TL.tl_append, TL.tl_append, TL.tl_join]
  have e : (PyData.shownAll xs).map TL.tl = xs.map shL := by
    induction xs with
    | nil => rw [PyData.shownAll_nil]; rfl
    | cons x xs ih => rw [PyData.shownAll_cons, List.map_cons, List.map_cons, ih]
  rw [e]
  have a : TL.tl ("[" : Str) = [91] := by decide +kernel
  have b : TL.tl ("]" : Str) = [93] := by decide +kernel
  have c : TL.tl (", " : Str) = [44, 32] := by decide +kernel
  rw [a, b, c]
  rfl
theorem sh_tuple (xs : List PyData) (h : xs.length ≠ 1) : shL (.tuple xs) = 40 :: (TL.joinL [44, 32] (xs.map shL) ++ [41]) := by
  unfold shL
  rw [PyData.shown_tuple, TL.tl_append, TL.tl_append, TL.tl_join]
  have e : (PyData.shownAll xs).map TL.tl = xs.map shL := by
    induction xs with
    | nil => rw [PyData.shownAll_nil]; rfl
    | cons x xs ih =>
      have : ∀ ys : List PyData, (PyData.shownAll ys).map TL.tl = ys.map shL := fun ys => by
        induction ys with
        | nil => rw [PyData.shownAll_nil]; rfl
        | cons y ys ih => rw [PyData.shownAll_cons, List.map_cons, List.map_cons, ih]
      exact this _
  rw [e, if_neg (by simpa using h)]
  have a : TL.tl ("(" : Str) = [40] := by decide +kernel
  have b : TL.tl (")" : Str) = [41] := by decide +kernel
  have c : TL.tl (", " : Str) = [44, 32] := by decide +kernel
  rw [a, b, c]
  rfl
theorem sh_nat (n : Nat) : shL (.int (n : Int)) = TL.numL n := by
  unfold shL
  rw [PyData.shown_int]
  exact TL.tl_num n
theorem sh_len (d : PyData) : d.shown.length = (shL d).length := TL.len_tl _
theorem joinL_len (y : List Nat) : ∀ (l : List (List Nat)) (k : Nat), (∀ x ∈ l, x.length ≤ k) → (TL.joinL y l).length ≤ l.length * (k + y.length)
  | [], k, _ => Nat.zero_le _
  | [x], k, h => by
    show x.length ≤ 1 * (k + y.length)
    have := h x List.mem_cons_self
    omega
  | x :: z :: r, k, h => by
    show (x ++ (y ++ TL.joinL y (z :: r))).length ≤ (r.length + 1 + 1) * (k + y.length)
    have h1 := h x List.mem_cons_self
    have h2 := joinL_len y (z :: r) k (fun w hw => h w (List.mem_cons_of_mem _ hw))
    rw [List.length_append, List.length_append, Nat.succ_mul]
    have : (z :: r).length = r.length + 1 := rfl
    rw [this] at h2
    omega
theorem encS_len {α : Type} {e : α → List Nat} {o z k : Nat} (l : List α) (h : ∀ a ∈ l, (e a).length ≤ k) : (encS o z e l).length ≤ l.length * (k + 2) + 2 := by
  unfold encS
  rw [List.length_cons, List.length_append, List.length_singleton]
  have := joinL_len [44, 32] (l.map e) k (fun x hx => by
    obtain ⟨a, ha, rfl⟩ := List.mem_map.mp hx
    exact h a ha)
  rw [List.length_map] at this
  have e2 : ([44, 32] : List Nat).length = 2 := rfl
  rw [e2] at this
  omega
end K
namespace DL
open PySem PySem.Spec PyProof.Rows L2
def insS {α : Type} (le : α → α → Bool) (a : α) : List α → List α
  | [] => [a]
  | b :: l => if le a b = true then a :: b :: l else b :: insS le a l
def iSort {α : Type} (le : α → α → Bool) : List α → List α
  | [] => []
  | a :: l => insS le a (iSort le l)
theorem insS_mid {α : Type} {le : α → α → Bool} {a : α} : ∀ {l1 l2 : List α}, (∀ b ∈ l1, le a b = false) → (∀ b ∈ l2, le a b = true) → insS le a (l1 ++ l2) = l1 ++ a :: l2
  | [], [], _, _ => rfl
  | [], b :: l2, _, h => if_pos (h b List.mem_cons_self)
  | b :: l1, l2, h1, h2 => by
    show (if le a b = true then _ else b :: insS le a (l1 ++ l2)) = _
    rw [if_neg (by rw [h1 b List.mem_cons_self]; exact Bool.false_ne_true), insS_mid (fun c hc => h1 c (List.mem_cons_of_mem _ hc)) h2]
    rfl
theorem merge_iSort {α : Type} {le : α → α → Bool} (tr : ∀ a b c, le a b = true → le b c = true → le a c = true) (to : ∀ a b, (le a b || le b a) = true) : ∀ l : List α, l.mergeSort le = iSort le l
  | [] => by simp [iSort]
  | a :: l => by
    obtain ⟨l1, l2, h1, h2, h3⟩ := List.mergeSort_cons tr to a l
    show _ = insS le a (iSort le l)
    rw [← merge_iSort tr to l, h2, h1]
    refine (insS_mid (fun b hb => by simpa using h3 b hb) fun b hb => ?_).symm
    have p : (List.mergeSort (a :: l) le).Pairwise (fun x y => le x y = true) := List.pairwise_mergeSort tr to (a :: l)
    rw [h1] at p
    exact List.rel_of_pairwise_cons (List.pairwise_append.mp p).2.1 hb
def sortD2 : D → Option (List D)
  | .lst xs => if sortOk xs = true then some (iSort leD xs) else none
  | _ => none
theorem leD_iSort (l : List D) : l.mergeSort leD = iSort leD l := merge_iSort (fun a b c h1 h2 => leD_total.trans a b c h1 h2) (fun a b => by
  rcases leD_total.total a b with h | h
  · rw [h]; rfl
  · rw [h, Bool.or_true]) l
theorem sortD_2 : sortD = sortD2 := by
  funext d
  cases d <;> first | rfl | (unfold sortD sortD2; dsimp only; rw [leD_iSort])
def sortKI2 : D → Option (List D)
  | .kd kvs => (keysI kvs).map fun is => (iSort (fun a b => decide (a ≤ b)) is).map .int
  | _ => none
theorem le_iSort (l : List Int) : l.mergeSort (· ≤ ·) = iSort (fun a b => decide (a ≤ b)) l := merge_iSort (fun a b c h1 h2 => by simp only [decide_eq_true_eq] at *; omega) (fun a b => by simp only [Bool.or_eq_true, decide_eq_true_eq]; omega) l
theorem sortKI_2 : sortKI = sortKI2 := by
  funext d
  cases d <;> first | rfl | (unfold sortKI sortKI2; dsimp only; congr 1; funext is; rw [le_iSort])
end DL
namespace RZ
section
variable {α : Type} [DecidableEq α]
def ins (V : Nat → α) (n : Nat) : List Nat := (List.range n).filter fun k => decide (0 < k ∧ V k ≠ V (k - 1))
def lst (bs : List Nat) : Nat := bs.getLastD 0
def dif (p : Nat × Nat) : Nat × Nat := (p.1, p.2 - p.1)
def prs (bs : List Nat) (n : Nat) : List (Nat × Nat) := ((0 :: bs).zip bs).map dif ++ [dif (lst bs, n)]
def tag (V : Nat → α) (l : List (Nat × Nat)) : List (Nat × Nat × α) := l.map fun p => (p.1, p.2, V p.1)
def stepC (acc : List (Nat × Nat × α)) (c : Nat × Nat × α) : List (Nat × Nat × α) := match acc.getLast? with
  | some l => if l.2.2 = c.2.2 then acc.dropLast ++ [(l.1, l.2.1 + c.2.1 - c.1, c.2.2)] else acc ++ [(c.1, c.2.1 - c.1, c.2.2)]
  | none => [(c.1, c.2.1 - c.1, c.2.2)]
theorem zip_snoc : ∀ (bs : List Nat) (a n : Nat), (a :: (bs ++ [n])).zip (bs ++ [n]) = (a :: bs).zip bs ++ [(bs.getLastD a, n)]
  | [], a, n => rfl
  | b :: bs, a, n => by
    show (a, b) :: (b :: (bs ++ [n])).zip (bs ++ [n]) = (a, b) :: ((b :: bs).zip bs ++ _)
    rw [zip_snoc bs b n]
    cases bs <;> rfl
theorem lst_snoc (bs : List Nat) (n : Nat) : lst (bs ++ [n]) = n := by simp [lst, List.getLastD_concat]
theorem prs_snoc (bs : List Nat) (n m : Nat) : prs (bs ++ [n]) m = prs bs n ++ [dif (n, m)] := by
  unfold prs
  rw [zip_snoc, lst_snoc, List.map_append]
  rfl
theorem ins_le {V : Nat → α} {n : Nat} : ∀ k ∈ ins V n, 0 < k ∧ k < n ∧ V k ≠ V (k - 1) := fun k h => by
  obtain ⟨h1, h2⟩ := List.mem_filter.mp h
  have h2 := of_decide_eq_true h2
  exact ⟨h2.1, List.mem_range.mp h1, h2.2⟩
theorem ins_succ (V : Nat → α) (n : Nat) : ins V (n + 1) = ins V n ++ (if 0 < n ∧ V n ≠ V (n - 1) then [n] else []) := by
  unfold ins
  rw [List.range_succ, List.filter_append]
  congr 1
  by_cases h : 0 < n ∧ V n ≠ V (n - 1)
  · rw [if_pos h, List.filter_cons_of_pos (by exact decide_eq_true h)]; rfl
  · rw [if_neg h, List.filter_cons_of_neg (by simpa using h)]; rfl
theorem ins_same {V : Nat → α} {n : Nat} : ∀ (d : Nat), (∀ k, n ≤ k → k < n + 1 + d → V k = V n) → ins V (n + 1 + d) = ins V (n + 1)
  | 0, _ => rfl
  | d + 1, h => by
    show ins V (n + 1 + d + 1) = _
    rw [ins_succ, ins_same d fun k a b => h k a (by omega), if_neg, List.append_nil]
    rintro ⟨_, z⟩
    exact z (by rw [h (n + 1 + d) (by omega) (by omega), h (n + 1 + d - 1) (by omega) (by omega)])
theorem lst_view (V : Nat → α) : ∀ n, 0 < n → V (lst (ins V n)) = V (n - 1) ∧ lst (ins V n) < n
  | 1, _ => by
    have e : ins V 1 = [] := by simp [ins]
    rw [e]
    exact ⟨rfl, Nat.zero_lt_one⟩
  | n + 2, _ => by
    obtain ⟨h1, h2⟩ := lst_view V (n + 1) (Nat.succ_pos _)
    rw [ins_succ]
    by_cases h : 0 < n + 1 ∧ V (n + 1) ≠ V (n + 1 - 1)
    · rw [if_pos h, lst_snoc]
      exact ⟨rfl, Nat.lt_succ_self _⟩
    · rw [if_neg h, List.append_nil]
      have e : V (n + 1) = V (n + 1 - 1) := Classical.byContradiction fun z => h ⟨Nat.succ_pos _, z⟩
      exact ⟨by rw [h1]; exact e.symm, Nat.lt_succ_of_lt h2⟩
theorem step_cell {V : Nat → α} {n m : Nat} (h0 : 0 < n) (h : n < m) (hv : ∀ k, n ≤ k → k < m → V k = V n) : stepC (tag V (prs (ins V n) n)) (n, m, V n) = tag V (prs (ins V m) m) := by
  obtain ⟨d, rfl⟩ : ∃ d, m = n + 1 + d := ⟨m - n - 1, by omega⟩
  obtain ⟨l1, l2⟩ := lst_view V n h0
  have hl : (tag V (prs (ins V n) n)).getLast? = some (lst (ins V n), n - lst (ins V n), V (lst (ins V n))) := by
    unfold prs tag
    rw [List.map_append]
    exact List.getLast?_concat
  have hd : (tag V (prs (ins V n) n)).dropLast = tag V (((0 :: ins V n).zip (ins V n)).map dif) := by
    unfold prs tag
    rw [List.map_append]
    exact List.dropLast_concat
  rw [ins_same d hv, ins_succ]
  unfold stepC
  rw [hl]
  dsimp only
  by_cases hh : V n = V (n - 1)
  · rw [if_pos (by rw [l1, hh]), if_neg (fun z => z.2 hh), List.append_nil, hd]
    unfold prs tag
    rw [List.map_append]
    have e : n - lst (ins V n) + (n + 1 + d) - n = n + 1 + d - lst (ins V n) := by omega
    rw [e, hh, ← l1]
    rfl
  · rw [if_neg (by rw [l1]; exact fun z => hh z.symm), if_pos ⟨h0, hh⟩, prs_snoc]
    unfold tag
    rw [List.map_append]
    rfl
theorem step_first {V : Nat → α} {m : Nat} (h : 0 < m) (hv : ∀ k, k < m → V k = V 0) : stepC [] (0, m, V 0) = tag V (prs (ins V m) m) := by
  obtain ⟨d, rfl⟩ : ∃ d, m = 0 + 1 + d := ⟨m - 1, by omega⟩
  rw [ins_same d fun k _ b => hv k b]
  have e : ins V (0 + 1) = [] := by simp [ins]
  rw [e]
  rfl
theorem fold_cells {V : Nat → α} : ∀ (es : List Nat) (n : Nat), 0 < n → (n :: es).Pairwise (· < ·) → (∀ p ∈ (n :: es).zip es, ∀ k, p.1 ≤ k → k < p.2 → V k = V p.1) →
    (((n :: es).zip es).map fun p => (p.1, p.2, V p.1)).foldl stepC (tag V (prs (ins V n) n)) = tag V (prs (ins V (es.getLastD n)) (es.getLastD n))
  | [], n, _, _, _ => rfl
  | m :: es, n, h0, hp, hv => by
    rw [List.pairwise_cons] at hp
    have hnm := hp.1 m List.mem_cons_self
    rw [List.zip_cons_cons, List.map_cons, List.foldl_cons, step_cell h0 hnm (hv (n, m) (by rw [List.zip_cons_cons]; exact List.mem_cons_self)),
      fold_cells es m (by omega) hp.2 fun p hp' => hv p (by rw [List.zip_cons_cons]; exact List.mem_cons_of_mem _ hp')]
    cases es <;> rfl
theorem fold_all {V : Nat → α} {m : Nat} {es : List Nat} (hp : (0 :: m :: es).Pairwise (· < ·)) (hv : ∀ p ∈ (0 :: m :: es).zip (m :: es), ∀ k, p.1 ≤ k → k < p.2 → V k = V p.1) :
    (((0 :: m :: es).zip (m :: es)).map fun p => (p.1, p.2, V p.1)).foldl stepC [] = tag V (prs (ins V (es.getLastD m)) (es.getLastD m)) := by
  rw [List.pairwise_cons] at hp
  have h0 := hp.1 m List.mem_cons_self
  rw [List.zip_cons_cons, List.map_cons, List.foldl_cons, step_first h0 (fun k hk => hv (0, m) (by rw [List.zip_cons_cons]; exact List.mem_cons_self) k (Nat.zero_le _) hk)]
  exact fold_cells es m h0 hp.2 fun p hp' => hv p (by rw [List.zip_cons_cons]; exact List.mem_cons_of_mem _ hp')
def wrapC (l : List (Nat × Nat × α)) : List (Nat × Nat × α) := match l.head?, l.getLast? with
  | some a, some z => if 1 < l.length ∧ a.2.2 = z.2.2 then l.tail.dropLast ++ [(z.1, z.2.1 + a.2.1, a.2.2)] else l
  | _, _ => l
def cyc (V : Nat → α) (n : Nat) : List Nat := (List.range n).filter fun k => decide (V k ≠ V (if k = 0 then n - 1 else k - 1))
def strL (V : Nat → α) (n : Nat) : List (Nat × Nat) := match cyc V n with
  | [] => [(0, n)]
  | b :: bs => ((b :: bs).zip (bs ++ [b + n])).map dif
theorem cyc_eq (V : Nat → α) (n : Nat) (h : 0 < n) : cyc V n = (if V 0 = V (n - 1) then [] else [0]) ++ ins V n := by
  obtain ⟨m, rfl⟩ : ∃ m, n = m + 1 := ⟨n - 1, by omega⟩
  unfold cyc ins
  rw [List.range_succ_eq_map, List.filter_cons, List.filter_cons, List.filter_map, List.filter_map]
  have e : (fun k => decide (V k ≠ V (if k = 0 then m + 1 - 1 else k - 1))) ∘ Nat.succ = (fun k => decide (0 < k ∧ V k ≠ V (k - 1))) ∘ Nat.succ := by
    funext k
    simp
  rw [e]
  by_cases z : V 0 = V (m + 1 - 1)
  · rw [if_pos z]; simp at z ⊢; simp [z]
  · rw [if_neg z]; simp at z ⊢; simp [z]
theorem zip_end : ∀ (bs : List Nat) (a n : Nat), (a :: bs).zip (bs ++ [n]) = (a :: bs).zip bs ++ [(bs.getLastD a, n)]
  | [], a, n => rfl
  | b :: bs, a, n => by
    show (a, b) :: (b :: bs).zip (bs ++ [n]) = (a, b) :: ((b :: bs).zip bs ++ _)
    rw [zip_end bs b n]
    cases bs <;> rfl
theorem wrap_eq (V : Nat → α) (n : Nat) (h : 0 < n) : wrapC (tag V (prs (ins V n) n)) = tag V (strL V n) := by
  obtain ⟨l1, l2⟩ := lst_view V n h
  unfold strL
  rw [cyc_eq V n h]
  cases hb : ins V n with
  | nil =>
    rw [hb] at l1 l2
    have e : V 0 = V (n - 1) := l1
    rw [if_pos e]
    simp [wrapC, tag, prs, dif, lst]
  | cons b bs =>
    rw [hb] at l1 l2
    have hlast : (tag V (prs (b :: bs) n)).getLast? = some (lst (b :: bs), n - lst (b :: bs), V (lst (b :: bs))) := by
      unfold prs tag
      rw [List.map_append]
      exact List.getLast?_concat
    have hfirst : (tag V (prs (b :: bs) n)).head? = some (0, b - 0, V 0) := rfl
    have hlen : 1 < (tag V (prs (b :: bs) n)).length := by
      unfold tag prs
      simp
    unfold wrapC
    rw [hlast, hfirst]
    dsimp only
    by_cases e : V 0 = V (n - 1)
    · rw [if_pos ⟨hlen, by rw [l1, e]⟩, if_pos e, List.nil_append]
      dsimp only
      rw [zip_end]
      have e1 : (tag V (prs (b :: bs) n)).tail.dropLast = tag V (((b :: bs).zip bs).map dif) := by
        unfold prs tag
        rw [List.zip_cons_cons, List.map_cons, List.cons_append, List.map_cons, List.tail_cons, List.map_append]
        exact List.dropLast_concat
      rw [e1]
      unfold tag
      rw [List.map_append, List.map_append]
      congr 1
      have e2 : lst (b :: bs) = bs.getLastD b := by cases bs <;> rfl
      rw [e2] at l1 l2 ⊢
      show [(bs.getLastD b, n - bs.getLastD b + (b - 0), V 0)] = [(bs.getLastD b, b + n - bs.getLastD b, V (bs.getLastD b))]
      rw [l1, e]
      have : n - bs.getLastD b + (b - 0) = b + n - bs.getLastD b := by omega
      rw [this]
    · rw [if_neg (fun z => e (by rw [z.2, l1])), if_neg e]
      show tag V (prs (b :: bs) n) = tag V ((((0 : Nat) :: b :: bs).zip ((b :: bs) ++ [0 + n])).map dif)
      rw [zip_end, Nat.zero_add]
      unfold prs
      rw [List.map_append]
      congr 1
theorem str_congr {β : Type} [DecidableEq β] {V : Nat → α} {W : Nat → β} {n : Nat} (h : ∀ i j, i < n → j < n → (V i = V j ↔ W i = W j)) : strL V n = strL W n := by
  have e : cyc V n = cyc W n := by
    unfold cyc
    refine List.filter_congr fun k hk => ?_
    have hk := List.mem_range.mp hk
    exact decide_eq_decide.mpr (not_congr (h k _ hk (by split <;> omega)))
  unfold strL
  rw [e]
end
end RZ
namespace RY
open DL
open PySem (PyData)
def rwE (p : Nat × Int) : D := .tup [.str ⟨#[p.1]⟩, .int p.2]
def rowD (l : List (Nat × Int)) : D := .lst (l.map rwE)
theorem tok_rwE (p : Nat × Int) : tokD (rwE p) = [.inl 1, .inr [p.1], .inl 1, .inl p.2, .inl 0] := by
  unfold tokD rwE
  simp only [py, pyL, PySem.W.keyToks, PySem.W.keyToksAll]
  rfl
theorem rwE_inj (p q : Nat × Int) (h : tokD (rwE p) = tokD (rwE q)) : p = q := by
  rw [tok_rwE, tok_rwE] at h
  simp only [List.cons.injEq, Sum.inr.injEq, Sum.inl.injEq, and_true, true_and] at h
  exact Prod.ext h.1 h.2
theorem tok_rowD (l : List (Nat × Int)) : tokD (rowD l) = l.foldr (fun p r => .inl 1 :: (tokD (rwE p) ++ r)) [.inl 0] := by
  unfold tokD rowD
  simp only [py, PySem.W.keyToks]
  induction l with
  | nil => rfl
  | cons p l ih =>
    simp only [List.map_cons, pyL, PySem.W.keyToksAll, List.foldr_cons, ih]
theorem rowD_inj : ∀ (a b : List (Nat × Int)), tokD (rowD a) = tokD (rowD b) → a = b
  | [], [], _ => rfl
  | [], q :: b, h => by
    rw [tok_rowD, tok_rowD] at h
    simp at h
  | p :: a, [], h => by
    rw [tok_rowD, tok_rowD] at h
    simp at h
  | p :: a, q :: b, h => by
    rw [tok_rowD, tok_rowD, List.foldr_cons, List.foldr_cons] at h
    have h1 := (List.cons.inj h).2
    have h2 := List.append_inj h1 (by rw [tok_rwE, tok_rwE]; rfl)
    rw [rwE_inj p q h2.1, rowD_inj a b (by rw [tok_rowD, tok_rowD]; exact h2.2)]
theorem okD_rwE {p : Nat × Int} (h : PyData.strOk ⟨#[p.1]⟩ = true) (n : Nat) : okD (n + 1) (rwE p) = true := by unfold rwE; simp [okD, okL, h]
theorem alike_rwE (p q : Nat × Int) : PySem.W.alike (py (rwE p)) (py (rwE q)) = true := by unfold rwE; simp [py, pyL, PySem.W.alike, PySem.W.alikeAll]
theorem alike_rowD : ∀ (a b : List (Nat × Int)), PySem.W.alike (py (rowD a)) (py (rowD b)) = true := by
  intro a b
  unfold rowD
  simp only [py, PySem.W.alike]
  induction a generalizing b with
  | nil => simp [pyL, PySem.W.alikeAll]
  | cons p a ih =>
    cases b with
    | nil => simp [pyL, PySem.W.alikeAll]
    | cons q b => simp only [List.map_cons, pyL, PySem.W.alikeAll, alike_rwE, ih b, Bool.and_self]
theorem okD_rowD {l : List (Nat × Int)} (h : ∀ p ∈ l, PyData.strOk ⟨#[p.1]⟩ = true) (n : Nat) : okD (n + 2) (rowD l) = true := by
  unfold rowD
  show okL (n + 1) (l.map rwE) = true
  refine okL_of fun d hd => ?_
  obtain ⟨p, hp, rfl⟩ := List.mem_map.mp hd
  exact okD_rwE (h p hp) n
def srt (l : List (Nat × Int)) : List (Nat × Int) := sortBy rwE l
theorem sort_row {l : List (Nat × Int)} (h : ∀ p ∈ l, PyData.strOk ⟨#[p.1]⟩ = true) : sortD (.lst (l.map rwE)) = some ((srt l).map rwE) :=
  sortD_eq _ (fun p hp => okD_rwE (h p hp) 59) (fun p _ q _ => alike_rwE p q) (.inl fun p _ => rfl)
theorem srt_iff (a b : List (Nat × Int)) : srt a = srt b ↔ a.Perm b := sortBy_iff rwE_inj a b
theorem leD_lt {a b : D} : leD a b = !ltD b a := rfl
theorem fm_le : ∀ (xs : List D) (x : D), foldMin x xs ∈ x :: xs ∧ ∀ y ∈ x :: xs, leD (foldMin x xs) y = true
  | [], x => ⟨List.mem_cons_self, fun y hy => by
      rw [List.mem_singleton.mp hy]
      rcases leD_total.total x x with h | h <;> exact h⟩
  | z :: xs, x => by
    have e : foldMin x (z :: xs) = foldMin (if ltD z x then z else x) xs := rfl
    obtain ⟨h1, h2⟩ := fm_le xs (if ltD z x then z else x)
    rw [e]
    have h3 := h2 _ List.mem_cons_self
    by_cases c : ltD z x = true
    · simp only [c, if_true] at h1 h2 h3 ⊢
      refine ⟨List.mem_cons_of_mem _ h1, fun y hy => ?_⟩
      rcases List.mem_cons.mp hy with rfl | hy
      · refine leD_total.trans _ _ _ h3 ?_
        rcases leD_total.total z y with q | q
        · exact q
        · rw [leD_lt, c] at q; cases q
      · exact h2 y hy
    · simp only [c, if_false] at h1 h2 h3 ⊢
      refine ⟨?_, fun y hy => ?_⟩
      · rcases List.mem_cons.mp h1 with h | h
        · rw [h]; exact List.mem_cons_self
        · exact List.mem_cons_of_mem _ (List.mem_cons_of_mem _ h)
      · rcases List.mem_cons.mp hy with rfl | hy
        · exact h3
        · rcases List.mem_cons.mp hy with rfl | hy
          · refine leD_total.trans _ _ _ h3 ?_
            rw [leD_lt]
            simpa using c
          · exact h2 y (List.mem_cons_of_mem _ hy)
def minL : List D → D
  | [] => .non
  | x :: xs => foldMin x xs
theorem minL_mem {l : List D} (h : l ≠ []) : minL l ∈ l ∧ ∀ y ∈ l, leD (minL l) y = true := by
  cases l with
  | nil => exact absurd rfl h
  | cons x xs => exact fm_le xs x
theorem min_iff {β : Type} {e : β → D} {P : β → Prop} (inj : ∀ x y, P x → P y → tokD (e x) = tokD (e y) → x = y) {a b : List β} (ha : ∀ x ∈ a, P x) (hb : ∀ x ∈ b, P x) (na : a ≠ []) (nb : b ≠ []) (hd : ∀ x, x ∈ a → x ∈ b → ∀ y, y ∈ a ↔ y ∈ b) :
    minL (a.map e) = minL (b.map e) ↔ ∃ x, x ∈ a ∧ x ∈ b := by
  obtain ⟨a1, a2⟩ := minL_mem (l := a.map e) (by simpa using na)
  obtain ⟨b1, b2⟩ := minL_mem (l := b.map e) (by simpa using nb)
  obtain ⟨x, hx, ex⟩ := List.mem_map.mp a1
  obtain ⟨y, hy, ey⟩ := List.mem_map.mp b1
  constructor
  · intro h
    have : x = y := inj x y (ha x hx) (hb y hy) (by rw [ex, ey, h])
    exact ⟨x, hx, this ▸ hy⟩
  · rintro ⟨z, h1, h2⟩
    have hs := hd z h1 h2
    have l1 := a2 (e y) (List.mem_map.mpr ⟨y, (hs y).mpr hy, rfl⟩)
    have l2 := b2 (e x) (List.mem_map.mpr ⟨x, (hs x).mp hx, rfl⟩)
    rw [← ex] at l1
    rw [← ey] at l2
    have : x = y := inj x y (ha x hx) (hb y hy) (leD_anti l1 l2)
    rw [← ex, ← ey, this]
theorem dMinD_eq {l : List D} (hn : l ≠ []) (h : minOk l = true) : dMinD (.lst l) = some (minL l) := by
  cases l with
  | nil => exact absurd rfl hn
  | cons x xs => exact if_pos h
theorem minOk_of {β : Type} {e : β → D} (l : List β) (ok : ∀ x ∈ l, okD 60 (e x) = true) (al : ∀ x ∈ l, ∀ y ∈ l, PySem.W.alike (py (e x)) (py (e y)) = true) (fl : ∀ x ∈ l, flatC (e x) = true) : minOk (l.map e) = true := by
  unfold minOk
  rw [Bool.and_eq_true, Bool.and_eq_true]
  refine ⟨⟨okL_of fun d hd => ?_, List.all_eq_true.mpr fun d hd => List.all_eq_true.mpr fun d' hd' => ?_⟩, List.all_eq_true.mpr fun d hd => ?_⟩
  · obtain ⟨x, hx, rfl⟩ := List.mem_map.mp hd
    exact ok x hx
  · obtain ⟨x, hx, rfl⟩ := List.mem_map.mp hd
    obtain ⟨y, hy, rfl⟩ := List.mem_map.mp hd'
    exact al x hx y hy
  · obtain ⟨x, hx, rfl⟩ := List.mem_map.mp hd
    rw [fl x hx, Bool.or_true]
def row (L : List Nat) (own : List Int) (k dots : Int) (s : Nat) : List (Nat × Int) := (L.zip own).map fun p => (p.1, (p.2 + s * k) % dots)
def rows (L : List Nat) (own : List Int) (k dots : Int) (m : Nat) : List (List (Nat × Int)) := (List.range m).map fun s => srt (row L own k dots s)
theorem row_shift (L : List Nat) (own : List Int) (k dots : Int) (s t : Nat) : row L own k dots (s + t) = (row L own k dots s).map fun p => (p.1, (p.2 + t * k) % dots) := by
  unfold row
  rw [List.map_map]
  refine List.map_congr_left fun p _ => ?_
  show (p.1, (p.2 + ((s + t : Nat) : Int) * k) % dots) = (p.1, ((p.2 + (s : Int) * k) % dots + t * k) % dots)
  rw [Int.emod_add_emod]
  have : p.2 + ((s + t : Nat) : Int) * k = p.2 + (s : Int) * k + t * k := by
    rw [Int.natCast_add, Int.add_mul]; omega
  rw [this]
theorem row_mod (L : List Nat) (own : List Int) {k dots : Int} {m : Nat} (h : dots = m * k) (s : Nat) : row L own k dots (s % m) = row L own k dots s := by
  unfold row
  refine List.map_congr_left fun p _ => ?_
  have e : ((s : Nat) : Int) = ((s % m : Nat) : Int) + (m : Int) * ((s / m : Nat) : Int) := by
    have := Nat.mod_add_div s m
    rw [← Int.natCast_mul, ← Int.natCast_add, this]
  have e2 : p.2 + (s : Int) * k = p.2 + ((s % m : Nat) : Int) * k + dots * ((s / m : Nat) : Int) := by
    rw [e, h, Int.add_mul]
    have : (m : Int) * ((s / m : Nat) : Int) * k = m * k * ((s / m : Nat) : Int) := by rw [Int.mul_assoc, Int.mul_comm ((s / m : Nat) : Int) k, ← Int.mul_assoc]
    omega
  rw [e2, Int.add_mul_emod_self_left]
def Same (L : List Nat) (o1 o2 : List Int) (k dots : Int) (m : Nat) : Prop := ∃ s s' : Nat, s < m ∧ s' < m ∧ (row L o1 k dots s).Perm (row L o2 k dots s')
theorem rows_meet {L : List Nat} {o1 o2 : List Int} {k dots : Int} {m : Nat} : (∃ x, x ∈ rows L o1 k dots m ∧ x ∈ rows L o2 k dots m) ↔ Same L o1 o2 k dots m := by
  constructor
  · rintro ⟨x, h1, h2⟩
    obtain ⟨s, hs, e⟩ := List.mem_map.mp h1
    obtain ⟨s', hs', e'⟩ := List.mem_map.mp h2
    exact ⟨s, s', List.mem_range.mp hs, List.mem_range.mp hs', (srt_iff _ _).mp (e.trans e'.symm)⟩
  · rintro ⟨s, s', hs, hs', h⟩
    exact ⟨_, List.mem_map.mpr ⟨s, List.mem_range.mpr hs, rfl⟩, List.mem_map.mpr ⟨s', List.mem_range.mpr hs', ((srt_iff _ _).mpr h).symm⟩⟩
theorem same_sub {L : List Nat} {o1 o2 : List Int} {k dots : Int} {m : Nat} (h : dots = m * k) (hs : Same L o1 o2 k dots m) : ∀ y ∈ rows L o1 k dots m, y ∈ rows L o2 k dots m := fun y hy => by
  obtain ⟨s, s', h1, h2, hp⟩ := hs
  obtain ⟨t, ht, rfl⟩ := List.mem_map.mp hy
  have ht := List.mem_range.mp ht
  have m0 : 0 < m := by omega
  refine List.mem_map.mpr ⟨(s' + (t + (m - s))) % m, List.mem_range.mpr (Nat.mod_lt _ m0), (srt_iff _ _).mpr ?_⟩
  rw [row_mod L o2 h]
  have e1 : row L o1 k dots t = row L o1 k dots (s + (t + (m - s))) := by
    rw [← row_mod L o1 h (s + (t + (m - s)))]
    have : (s + (t + (m - s))) % m = t := by
      have : s + (t + (m - s)) = t + m := by omega
      rw [this, Nat.add_mod_right, Nat.mod_eq_of_lt ht]
    rw [this]
  rw [e1, row_shift L o1, row_shift L o2]
  exact (hp.map _).symm
theorem Same.symm {L : List Nat} {o1 o2 : List Int} {k dots : Int} {m : Nat} (h : Same L o1 o2 k dots m) : Same L o2 o1 k dots m :=
  let ⟨s, s', a, b, p⟩ := h
  ⟨s', s, b, a, p.symm⟩
theorem rows_all {L : List Nat} {o1 o2 : List Int} {k dots : Int} {m : Nat} (h : dots = m * k) : ∀ x, x ∈ rows L o1 k dots m → x ∈ rows L o2 k dots m → ∀ y, y ∈ rows L o1 k dots m ↔ y ∈ rows L o2 k dots m := fun x h1 h2 y => by
  have hs := rows_meet.mp ⟨x, h1, h2⟩
  exact ⟨same_sub h hs y, same_sub h hs.symm y⟩
def viewD (L : List Nat) (own : List Int) (k dots : Int) (m : Nat) : D := minL ((rows L own k dots m).map rowD)
theorem rows_ne {L : List Nat} {own : List Int} {k dots : Int} {m : Nat} (m0 : 0 < m) : rows L own k dots m ≠ [] := by
  unfold rows
  intro h
  have := congrArg List.length h
  rw [List.length_map, List.length_range] at this
  exact Nat.lt_irrefl _ (this ▸ m0)
theorem view_iff {L : List Nat} {o1 o2 : List Int} {k dots : Int} {m : Nat} (m0 : 0 < m) (h : dots = m * k) : viewD L o1 k dots m = viewD L o2 k dots m ↔ Same L o1 o2 k dots m := by
  unfold viewD
  rw [min_iff (P := fun _ => True) (fun x y _ _ => rowD_inj x y) (fun _ _ => trivial) (fun _ _ => trivial) (rows_ne m0) (rows_ne m0) (rows_all h)]
  exact rows_meet
theorem rows_str {L : List Nat} {own : List Int} {k dots : Int} {m : Nat} (hL : ∀ c ∈ L, PyData.strOk ⟨#[c]⟩ = true) : ∀ r ∈ rows L own k dots m, ∀ p ∈ r, PyData.strOk ⟨#[p.1]⟩ = true := fun r hr p hp => by
  obtain ⟨s, _, rfl⟩ := List.mem_map.mp hr
  have hp := (sortBy_perm rwE _).mem_iff.mp hp
  obtain ⟨q, hq, rfl⟩ := List.mem_map.mp hp
  exact hL _ (List.of_mem_zip hq).1
theorem min_rows {L : List Nat} {own : List Int} {k dots : Int} {m : Nat} (m0 : 0 < m) (hL : ∀ c ∈ L, PyData.strOk ⟨#[c]⟩ = true) : dMinD (.lst ((rows L own k dots m).map rowD)) = some (viewD L own k dots m) :=
  dMinD_eq (by simpa using rows_ne m0) (minOk_of _ (fun r hr => okD_rowD (rows_str hL r hr) 58) (fun a _ b _ => alike_rowD a b) (fun _ _ => rfl))
theorem view_mem {L : List Nat} {own : List Int} {k dots : Int} {m : Nat} (m0 : 0 < m) : ∃ r ∈ rows L own k dots m, viewD L own k dots m = rowD r := by
  obtain ⟨h, _⟩ := minL_mem (l := (rows L own k dots m).map rowD) (by simpa using rows_ne m0)
  obtain ⟨r, hr, e⟩ := List.mem_map.mp h
  exact ⟨r, hr, e.symm⟩
end RY
namespace RY
open DL K
open PySem (PyData)
def RwP (p : Nat × Int) : Prop := p.1 ∈ [97, 98, 99, 100] ∧ 0 ≤ p.2 ∧ p.2 < 2 ^ 60
def rwC (p : Nat × Int) : List Nat := 40 :: 39 :: p.1 :: 39 :: 44 :: 32 :: (TL.numL p.2.toNat ++ [41])
theorem sh_letter : ∀ c ∈ [97, 98, 99, 100], shL (.str ⟨#[c]⟩) = [39, c, 39] := by decide +kernel
theorem ok_letter : ∀ c ∈ [97, 98, 99, 100], PyData.strOk ⟨#[c]⟩ = true := by decide +kernel
theorem sh_rwE {p : Nat × Int} (h : RwP p) : shL (py (rwE p)) = rwC p := by
  have e : py (rwE p) = .tuple [.str ⟨#[p.1]⟩, .int p.2] := by unfold rwE; simp [py, pyL]
  rw [e, sh_tuple _ (by rw [List.length_cons, List.length_cons, List.length_nil]; omega)]
  have e2 : shL (.int p.2) = TL.numL p.2.toNat := by
    have : p.2 = ((p.2.toNat : Nat) : Int) := (Int.toNat_of_nonneg h.2.1).symm
    rw [this]; exact sh_nat _
  show 40 :: (shL (.str ⟨#[p.1]⟩) ++ ([44, 32] ++ shL (.int p.2)) ++ [41]) = _
  rw [sh_letter _ h.1, e2]
  unfold rwC
  simp only [List.cons_append, List.nil_append]
theorem rwC_code (y : Nat) (hy : 40 ≠ y) : Code RwP rwC y := by
  refine ⟨fun a b r r' ha hb hr hr' q => ?_, fun a _ => ⟨40, _, rfl, hy⟩⟩
  unfold rwC at q
  simp only [List.cons_append, List.append_assoc, List.cons.injEq, true_and] at q
  obtain ⟨q1, q⟩ := q
  obtain ⟨q2, q⟩ := num_inj (stop_cons (.inl (by decide))) (stop_cons (.inl (by decide))) q
  simp only [List.nil_append, List.cons.injEq, true_and] at q
  refine ⟨Prod.ext q1 ?_, q⟩
  have := ha.2.1
  have := hb.2.1
  omega
def rowC (l : List (Nat × Int)) : List Nat := encS 91 93 rwC l
theorem pyL_map2 : ∀ xs : List D, pyL xs = xs.map py
  | [] => by simp [pyL]
  | x :: xs => by simp [pyL, pyL_map2 xs]
theorem sh_rowD {l : List (Nat × Int)} (h : ∀ p ∈ l, RwP p) : shL (py (rowD l)) = rowC l := by
  have e : py (rowD l) = .list ((l.map rwE).map py) := by
    unfold rowD
    simp only [py, pyL_map2]
  rw [e, sh_list]
  unfold rowC encS
  rw [List.map_map, List.map_map]
  have : l.map ((shL ∘ py) ∘ rwE) = l.map rwC := List.map_congr_left fun p hp => sh_rwE (h p hp)
  rw [this]
def txt (l : List (Nat × Int)) : PySem.Str := (py (rowD l)).shown
theorem txt_inj {a b : List (Nat × Int)} (ha : ∀ p ∈ a, RwP p) (hb : ∀ p ∈ b, RwP p) (h : txt a = txt b) : a = b := by
  have e : rowC a ++ [] = rowC b ++ [] := by
    rw [← sh_rowD ha, ← sh_rowD hb]
    exact congrArg (· ++ []) (congrArg TL.tl h)
  exact (encS_inj (rwC_code 93 (by decide)) (.inr (by decide)) (by decide) a b [] [] ha hb e).1
theorem showL_of2 : ∀ {ds : List PyData}, (∀ d ∈ ds, d.showable = true) → PyData.showableAll ds = true
  | [], _ => by simp only [PyData.showableAll]
  | d :: ds, h => by simp only [PyData.showableAll, h d List.mem_cons_self, showL_of2 fun x hx => h x (List.mem_cons_of_mem _ hx), Bool.and_self]
theorem rwC_len {p : Nat × Int} (h : RwP p) : (rwC p).length ≤ 40 := by
  have e60 : (2 : Int) ^ 60 = 1152921504606846976 := rfl
  have e20 : (10 : Nat) ^ 20 = 100000000000000000000 := rfl
  have := h.2.1
  have := h.2.2
  have a := TL.numL_len (n := p.2.toNat) (k := 20) (by decide) (by omega)
  unfold rwC
  simp only [List.length_cons, List.length_append, List.length_nil]
  omega
theorem str_row {l : List (Nat × Int)} (h4 : l.length ≤ 6) (h : ∀ p ∈ l, RwP p) : dStr (.lst (l.map rwE)) = some (.str (txt l)) ∧ (txt l).length ≤ 400 := by
  have hlen : (rowC l).length ≤ 400 := by
    have := encS_len (o := 91) (z := 93) (e := rwC) (k := 40) l fun p hp => rwC_len (h p hp)
    have : l.length * (40 + 2) ≤ 6 * 42 := Nat.mul_le_mul_right _ h4
    unfold rowC
    omega
  refine ⟨?_, by unfold txt; rw [sh_len, sh_rowD h]; exact hlen⟩
  unfold dStr
  refine if_pos ?_
  unfold strOk
  rw [Bool.and_eq_true, Bool.and_eq_true]
  refine ⟨⟨?_, ?_⟩, decide_eq_true ?_⟩
  · show okL 59 (l.map rwE) = true
    refine okL_of fun y hy => ?_
    obtain ⟨p, hp, rfl⟩ := List.mem_map.mp hy
    exact okD_rwE (ok_letter _ (h p hp).1) 58
  · simp only [py, PyData.showable, pyL_map2]
    refine showL_of2 fun d hd => ?_
    rw [List.map_map] at hd
    obtain ⟨p, hp, rfl⟩ := List.mem_map.mp hd
    have q := h p hp
    have b1 : p.2.natAbs.log2 < 1920 := by
      by_cases z : p.2.natAbs = 0
      · rw [z]; decide
      · have e60 : (2 : Int) ^ 60 = 1152921504606846976 := rfl
        have e61 : (2 : Nat) ^ 60 = 1152921504606846976 := rfl
        have := q.2.1
        have := q.2.2
        exact Nat.lt_of_lt_of_le ((Nat.log2_lt z).mpr (show p.2.natAbs < 2 ^ 60 by omega)) (by decide)
    show (py (rwE p)).showable = true
    simp only [rwE, py, pyL, PyData.showable, PyData.showableAll, decide_eq_true b1, Bool.and_self]
  · have e2 := sh_rowD h
    have e3 : shL (py (.lst (l.map rwE))) = rowC l := e2
    rw [sh_len, e3]
    omega
def viewT (L : List Nat) (own : List Int) (k dots : Int) (m : Nat) : D := minL ((rows L own k dots m).map fun r => .str (txt r))
theorem tok_txt (r : List (Nat × Int)) : tokD (.str (txt r)) = [.inr (txt r).cps.toList] := by simp [tokD, py, PySem.W.keyToks]
theorem rows_P {L : List Nat} {own : List Int} {k dots : Int} {m : Nat} (hL : ∀ c ∈ L, c ∈ [97, 98, 99, 100]) (d0 : 0 < dots) (d1 : dots < 2 ^ 60) : ∀ r ∈ rows L own k dots m, ∀ p ∈ r, RwP p := fun r hr p hp => by
  obtain ⟨s, _, rfl⟩ := List.mem_map.mp hr
  have hp := (sortBy_perm rwE _).mem_iff.mp hp
  obtain ⟨q, hq, rfl⟩ := List.mem_map.mp hp
  exact ⟨hL _ (List.of_mem_zip hq).1, Int.emod_nonneg _ (Int.ne_of_gt d0), Int.lt_trans (Int.emod_lt_of_pos _ d0) d1⟩
theorem viewT_iff {L : List Nat} {o1 o2 : List Int} {k dots : Int} {m : Nat} (m0 : 0 < m) (h : dots = m * k) (hL : ∀ c ∈ L, c ∈ [97, 98, 99, 100]) (d0 : 0 < dots) (d1 : dots < 2 ^ 60) : viewT L o1 k dots m = viewT L o2 k dots m ↔ Same L o1 o2 k dots m := by
  unfold viewT
  rw [min_iff (P := fun r => ∀ p ∈ r, RwP p) (fun x y hx hy e => ?_) (rows_P hL d0 d1) (rows_P hL d0 d1) (rows_ne m0) (rows_ne m0) (rows_all h)]
  · exact rows_meet
  · rw [tok_txt, tok_txt] at e
    simp only [List.cons.injEq, Sum.inr.injEq, and_true] at e
    refine txt_inj hx hy ?_
    exact TL.ext_tl e
theorem len_row (L : List Nat) (own : List Int) (k dots : Int) (s : Nat) : (row L own k dots s).length ≤ L.length := by
  unfold row
  rw [List.length_map, List.length_zip]
  omega
theorem rows_len {L : List Nat} {own : List Int} {k dots : Int} {m : Nat} : ∀ r ∈ rows L own k dots m, r.length ≤ L.length := fun r hr => by
  obtain ⟨s, _, rfl⟩ := List.mem_map.mp hr
  unfold srt
  rw [(sortBy_perm rwE _).length_eq]
  exact len_row L own k dots s
theorem strOk_txt {r : List (Nat × Int)} (h : ∀ p ∈ r, RwP p) : PyData.strOk (txt r) = true := by
  have e : (txt r).cps.toList = rowC r := sh_rowD h
  have num : ∀ (n : Nat), ∀ c ∈ TL.numL n, 48 ≤ c ∧ c ≤ 57 := fun n c hc => by
    rcases Nat.lt_or_ge c 48 with z | z
    · exact absurd hc (TL.numL_free (.inl z))
    · rcases Nat.lt_or_ge 57 c with y | y
      · exact absurd hc (TL.numL_free (.inr y))
      · exact ⟨z, y⟩
  have a : ∀ c ∈ rowC r, c < 128 := fun c hc => by
    unfold rowC encS at hc
    rcases List.mem_cons.mp hc with rfl | hc
    · decide
    rcases List.mem_append.mp hc with hc | hc
    · have jm : ∀ (l : List (List Nat)), c ∈ TL.joinL [44, 32] l → c ∈ [44, 32] ∨ ∃ p ∈ l, c ∈ p := fun l => by
        induction l with
        | nil => intro h; cases h
        | cons x l ih =>
          intro h
          cases l with
          | nil => exact .inr ⟨x, List.mem_cons_self, h⟩
          | cons y l =>
            have h : c ∈ x ++ ([44, 32] ++ TL.joinL [44, 32] (y :: l)) := h
            rcases List.mem_append.mp h with h | h
            · exact .inr ⟨x, List.mem_cons_self, h⟩
            rcases List.mem_append.mp h with h | h
            · exact .inl h
            rcases ih h with h | ⟨p, hp, h⟩
            · exact .inl h
            · exact .inr ⟨p, List.mem_cons_of_mem _ hp, h⟩
      rcases jm _ hc with hc | ⟨p, hp, hc⟩
      · simp only [List.mem_cons, List.not_mem_nil, or_false] at hc; omega
      · obtain ⟨q, hq, rfl⟩ := List.mem_map.mp hp
        have h1 := (h q hq).1
        unfold rwC at hc
        simp only [List.mem_cons, List.mem_append, List.not_mem_nil, or_false] at hc h1
        rcases hc with rfl | rfl | rfl | rfl | rfl | rfl | hc | rfl
        all_goals first | omega | (have := num _ _ hc; omega)
    · rw [List.mem_singleton.mp hc]; decide
  unfold PyData.strOk
  rw [← Array.all_toList, List.all_eq_true]
  intro c hc
  rw [e] at hc
  have := a c hc
  exact decide_eq_true (by omega)
end RY
namespace RY
open K (lcmL dvd_lcmL)
def own1 (dots B2 top h : Int) : Int := h * top * dots / B2 % dots
def ownL (hands : List Int) (dots B2 top : Int) : List Int := hands.map (own1 dots B2 top)
theorem fl {a b q : Int} (hb : 0 < b) (h1 : q * b ≤ a) (h2 : a < (q + 1) * b) : a / b = q :=
  Int.le_antisymm (Int.le_of_lt_add_one (Int.ediv_lt_of_lt_mul hb h2)) (Int.le_ediv_of_mul_le hb h1)
theorem own_rest (x : Int) {dots B2 : Int} (d0 : 0 < dots) (b0 : 0 < B2) : x * dots / B2 % dots = x % B2 * dots / B2 := by
  have e : x * dots = x % B2 * dots + B2 * (x / B2 * dots) := by
    have := Int.emod_add_mul_ediv x B2
    rw [← Int.mul_assoc, ← Int.add_mul, this]
  have r0 := Int.emod_nonneg x (Int.ne_of_gt b0)
  have r1 := Int.emod_lt_of_pos x b0
  rw [e, Int.add_mul_ediv_left _ _ (Int.ne_of_gt b0), Int.add_mul_emod_self_right]
  refine Int.emod_eq_of_lt (Int.ediv_nonneg (Int.mul_nonneg r0 (Int.le_of_lt d0)) (Int.le_of_lt b0)) ?_
  refine Int.ediv_lt_of_lt_mul b0 ?_
  rw [Int.mul_comm dots]
  exact Int.mul_lt_mul_of_pos_right r1 d0
theorem own_part (x : Int) {dots B2 : Int} (d0 : 0 < dots) (b0 : 0 < B2) : x % B2 / (Int.gcd (x % B2) B2 : Int) * dots / (B2 / (Int.gcd (x % B2) B2 : Int)) = x * dots / B2 % dots := by
  rw [own_rest x d0 b0]
  have g0 : 0 < Int.gcd (x % B2) B2 := Int.gcd_pos_of_ne_zero_right _ (Int.ne_of_gt b0)
  have g1 : (0 : Int) < (Int.gcd (x % B2) B2 : Int) := by omega
  obtain ⟨r, hr⟩ := Int.gcd_dvd_left (x % B2) B2
  obtain ⟨b, hb⟩ := Int.gcd_dvd_right (x % B2) B2
  generalize (Int.gcd (x % B2) B2 : Int) = g at *
  generalize x % B2 = y at *
  rw [hr, hb, Int.mul_ediv_cancel_left _ (Int.ne_of_gt g1), Int.mul_ediv_cancel_left _ (Int.ne_of_gt g1), Int.mul_assoc, Int.mul_ediv_mul_of_pos _ _ g1]
theorem own_cell {h dots w : Int} {a u b : Int} (h0 : h ≠ 0) (d0 : 0 < dots) (w0 : 0 < w) (au : a ≤ u) (ub : u < b) (hn : ∀ j : Int, j * w ≤ a ∨ b ≤ j * w) :
    own1 dots (2 * (w * (dots * h.natAbs))) (a + b) h = own1 dots (2 * (w * (dots * h.natAbs))) (2 * u + 1) h := by
  unfold own1
  have c0 : (0 : Int) < dots * h.natAbs := Int.mul_pos d0 (by omega)
  have q0 := Int.emod_nonneg u (Int.ne_of_gt w0)
  have q1 := Int.emod_lt_of_pos u w0
  have q2 := Int.emod_add_mul_ediv u w
  have k1 : u / w * w ≤ a := by
    rcases hn (u / w) with k | k
    · exact k
    · rw [Int.mul_comm] at k; omega
  have k2 : b ≤ (u / w + 1) * w := by
    rcases hn (u / w + 1) with k | k
    · rw [Int.add_mul, Int.mul_comm] at k; omega
    · exact k
  generalize u / w = Q at *
  have e1 : (Q + 1) * w = Q * w + w := by rw [Int.add_mul, Int.one_mul]
  have e3 : (Q + 1) * (2 * w) = 2 * ((Q + 1) * w) := by rw [Int.mul_left_comm]
  have e4 : Q * (2 * w) = 2 * (Q * w) := by rw [Int.mul_left_comm]
  have e5 : (-Q - 1) * (2 * w) = - (2 * ((Q + 1) * w)) := by
    have : -Q - 1 = -(Q + 1) := by omega
    rw [this, Int.neg_mul, e3]
  have e6 : (-Q - 1 + 1) * (2 * w) = - (2 * (Q * w)) := by
    have : -Q - 1 + 1 = -Q := by omega
    rw [this, Int.neg_mul, e4]
  have wq : w * Q = Q * w := Int.mul_comm _ _
  have eB : 2 * (w * (dots * h.natAbs)) = 2 * w * (dots * h.natAbs) := (Int.mul_assoc _ _ _).symm
  rw [eB]
  rcases Int.lt_or_gt_of_ne h0 with hh | hh
  · have eh : ∀ t : Int, h * t * dots = -t * (dots * h.natAbs) := fun t => by
      have : (h.natAbs : Int) = -h := by omega
      rw [this, Int.mul_neg, Int.mul_neg, Int.neg_mul, Int.neg_neg, Int.mul_comm h t, Int.mul_assoc, Int.mul_comm h dots]
    rw [eh, eh, Int.mul_ediv_mul_of_pos_left _ _ c0, Int.mul_ediv_mul_of_pos_left _ _ c0]
    rw [fl (q := -Q - 1) (by omega) (by omega) (by omega), fl (a := -(2 * u + 1)) (q := -Q - 1) (by omega) (by omega) (by omega)]
  · have eh : ∀ t : Int, h * t * dots = t * (dots * h.natAbs) := fun t => by
      have : (h.natAbs : Int) = h := by omega
      rw [this, Int.mul_comm h t, Int.mul_assoc, Int.mul_comm h dots]
    rw [eh, eh, Int.mul_ediv_mul_of_pos_left _ _ c0, Int.mul_ediv_mul_of_pos_left _ _ c0]
    rw [fl (q := Q) (by omega) (by omega) (by omega), fl (a := 2 * u + 1) (q := Q) (by omega) (by omega) (by omega)]
theorem between : ∀ {l : List Nat}, l.Pairwise (· < ·) → ∀ p ∈ l.zip l.tail, ∀ x ∈ l, x ≤ p.1 ∨ p.2 ≤ x
  | [], _, p, hp, _, _ => by cases hp
  | [a], _, p, hp, _, _ => by cases hp
  | a :: b :: l, h, p, hp, x, hx => by
    rw [List.pairwise_cons] at h
    rcases List.mem_cons.mp (show p ∈ (a, b) :: (b :: l).zip l from hp) with rfl | hq
    · rcases List.mem_cons.mp hx with rfl | hx
      · exact .inl (Nat.le_refl _)
      · rcases List.mem_cons.mp hx with rfl | hx
        · exact .inr (Nat.le_refl _)
        · exact .inr (Nat.le_of_lt ((List.pairwise_cons.mp h.2).1 x hx))
    · rcases List.mem_cons.mp hx with rfl | hx
      · have hb := h.1 b List.mem_cons_self
        have h1 : p.1 ∈ b :: l := (List.of_mem_zip hq).1
        exact .inl (Nat.le_of_lt (h.1 _ h1))
      · exact between h.2 p hq x hx
theorem zip_lt : ∀ {l : List Nat}, l.Pairwise (· < ·) → ∀ p ∈ l.zip l.tail, p.1 < p.2 ∧ p.1 ∈ l ∧ p.2 ∈ l
  | [], _, p, hp => by cases hp
  | [a], _, p, hp => by cases hp
  | a :: b :: l, h, p, hp => by
    rw [List.pairwise_cons] at h
    rcases List.mem_cons.mp (show p ∈ (a, b) :: (b :: l).zip l from hp) with rfl | hp
    · exact ⟨h.1 b List.mem_cons_self, List.mem_cons_self, List.mem_cons_of_mem _ List.mem_cons_self⟩
    · obtain ⟨h1, h2, h3⟩ := zip_lt h.2 p hp
      exact ⟨h1, List.mem_cons_of_mem _ h2, List.mem_cons_of_mem _ h3⟩
structure Dt (hands : List Int) (L : List Nat) (m k dots : Nat) : Prop where
  l1 : 1 ≤ hands.length
  l4 : hands.length ≤ 4
  nz : ∀ h ∈ hands, h ≠ 0
  bd : ∀ h ∈ hands, h.natAbs ≤ 60
  lk : L.length = hands.length
  ab : ∀ c ∈ L, c ∈ [97, 98, 99, 100]
  m0 : 0 < m
  m6 : m ≤ 6
  k0 : 0 < k
  dk : dots = m * k
  d24 : dots ≤ 24
def lcmH (hands : List Int) : Nat := lcmL (hands.map Int.natAbs)
def btm (hands : List Int) (dots : Nat) : Nat := lcmH hands * dots
def wth (hands : List Int) (h : Int) : Nat := lcmH hands / h.natAbs
section
variable {hands : List Int} {L : List Nat} {m k dots : Nat} (c : Dt hands L m k dots)
include c
theorem Dt.d0 : 0 < dots := by rw [c.dk]; exact Nat.mul_pos c.m0 c.k0
theorem Dt.lcm_bd : 0 < lcmH hands ∧ lcmH hands ≤ 2 ^ 24 := by
  have q := K.lcm_bd 6 (hands.map Int.natAbs) 1 0 (fun d hd => by
    obtain ⟨h, hh, rfl⟩ := List.mem_map.mp hd
    have := c.nz h hh
    have := c.bd h hh
    exact ⟨by omega, by show h.natAbs < 64; omega⟩) Nat.one_pos (Nat.le_refl _)
  refine ⟨q.1, Nat.le_trans q.2 (Nat.pow_le_pow_right (by decide) ?_)⟩
  rw [List.length_map]
  have := c.l4
  omega
theorem Dt.b0 : 0 < btm hands dots := Nat.mul_pos c.lcm_bd.1 c.d0
theorem Dt.b29 : btm hands dots ≤ 2 ^ 29 := by
  have := Nat.mul_le_mul c.lcm_bd.2 c.d24
  exact Nat.le_trans this (by decide)
theorem Dt.wth_eq {h : Int} (hh : h ∈ hands) : btm hands dots = wth hands h * (dots * h.natAbs) ∧ 0 < wth hands h := by
  have hd : h.natAbs ∣ lcmH hands := dvd_lcmL (List.mem_map.mpr ⟨h, hh, rfl⟩)
  have hp : 0 < h.natAbs := by have := c.nz h hh; omega
  have e : lcmH hands = wth hands h * h.natAbs := (Nat.div_mul_cancel hd).symm
  constructor
  · unfold btm
    rw [e, Nat.mul_assoc, Nat.mul_comm h.natAbs dots]
  · have := c.lcm_bd.1
    exact Nat.div_pos (Nat.le_of_dvd this hd) hp
end
def ownU (hands : List Int) (dots : Nat) (u : Nat) : List Int := ownL hands dots (2 * (btm hands dots : Nat) : Int) (2 * (u : Nat) + 1)
theorem own_cells {hands : List Int} {L : List Nat} {m k dots : Nat} (c : Dt hands L m k dots) {a u b : Nat} (au : a ≤ u) (ub : u < b) (hn : ∀ h ∈ hands, ∀ j : Nat, j * wth hands h ≤ a ∨ b ≤ j * wth hands h) :
    ownL hands dots (2 * (btm hands dots : Nat) : Int) ((a : Int) + b) = ownU hands dots u := by
  unfold ownU ownL
  refine List.map_congr_left fun h hh => ?_
  obtain ⟨e, w0⟩ := c.wth_eq hh
  have d0 := c.d0
  rw [e, Int.natCast_mul, Int.natCast_mul]
  refine own_cell (c.nz h hh) (by omega) (by omega) (by omega) (by omega) fun j => ?_
  rcases Int.lt_or_le j 0 with z | z
  · left
    have : j * (wth hands h : Int) ≤ 0 := Int.mul_nonpos_of_nonpos_of_nonneg (by omega) (by omega)
    omega
  · obtain ⟨n, rfl⟩ : ∃ n : Nat, j = n := ⟨j.toNat, by omega⟩
    rcases hn h hh n with q | q
    · left
      rw [← Int.natCast_mul]
      omega
    · right
      rw [← Int.natCast_mul]
      omega
end RY
namespace RY
open DL
def addK (ks : List Nat) (x : Nat) : List Nat := if x ∈ ks then ks else ks ++ [x]
theorem addK_mem {ks : List Nat} {x y : Nat} : y ∈ addK ks x ↔ y ∈ ks ∨ y = x := by
  unfold addK
  by_cases h : x ∈ ks
  · rw [if_pos h]
    exact ⟨.inl, fun z => z.elim id fun e => e ▸ h⟩
  · rw [if_neg h, List.mem_append, List.mem_singleton]
theorem addK_nd {ks : List Nat} {x : Nat} (h : ks.Nodup) : (addK ks x).Nodup := by
  unfold addK
  by_cases q : x ∈ ks
  · rw [if_pos q]; exact h
  · rw [if_neg q, List.nodup_append]
    exact ⟨h, List.pairwise_singleton _ _, fun a ha b hb e => q (by rw [List.mem_singleton.mp hb] at e; exact e ▸ ha)⟩
theorem addK_len {ks : List Nat} {x : Nat} : (addK ks x).length ≤ ks.length + 1 := by
  unfold addK
  split
  · omega
  · rw [List.length_append]; exact Nat.le_refl _
def addAll (ks xs : List Nat) : List Nat := xs.foldl addK ks
theorem addAll_mem : ∀ (xs ks : List Nat) (y : Nat), y ∈ addAll ks xs ↔ y ∈ ks ∨ y ∈ xs
  | [], ks, y => by simp [addAll]
  | x :: xs, ks, y => by
    have e : addAll ks (x :: xs) = addAll (addK ks x) xs := rfl
    rw [e, addAll_mem xs, addK_mem, List.mem_cons, or_assoc]
theorem addAll_nd : ∀ (xs ks : List Nat), ks.Nodup → (addAll ks xs).Nodup
  | [], ks, h => h
  | x :: xs, ks, h => addAll_nd xs _ (addK_nd h)
theorem addAll_len : ∀ (xs ks : List Nat), (addAll ks xs).length ≤ ks.length + xs.length
  | [], ks => by simp [addAll]
  | x :: xs, ks => by
    have e : addAll ks (x :: xs) = addAll (addK ks x) xs := rfl
    have h1 := addAll_len xs (addK ks x)
    have h2 := addK_len (ks := ks) (x := x)
    rw [e, List.length_cons]
    omega
def edgH (hands : List Int) (dots : Nat) (h : Int) : List Nat := (List.range (dots * h.natAbs + 1)).map fun j => j * wth hands h
def edgF (hands : List Int) (dots : Nat) : List Int → List Nat → List Nat
  | [], ks => ks
  | h :: hs, ks => edgF hands dots hs (addAll ks (edgH hands dots h))
theorem edgF_mem (hands : List Int) (dots : Nat) : ∀ (hs : List Int) (ks : List Nat) (y : Nat), y ∈ edgF hands dots hs ks ↔ y ∈ ks ∨ ∃ h ∈ hs, y ∈ edgH hands dots h
  | [], ks, y => by simp [edgF]
  | h :: hs, ks, y => by
    show y ∈ edgF hands dots hs (addAll ks (edgH hands dots h)) ↔ _
    rw [edgF_mem hands dots hs, addAll_mem, or_assoc]
    simp only [List.mem_cons, exists_eq_or_imp]
theorem edgF_nd (hands : List Int) (dots : Nat) : ∀ (hs : List Int) (ks : List Nat), ks.Nodup → (edgF hands dots hs ks).Nodup
  | [], ks, h => h
  | x :: hs, ks, h => edgF_nd hands dots hs _ (addAll_nd _ _ h)
def edges (hands : List Int) (dots : Nat) : List Nat := edgF hands dots hands []
def edgS (hands : List Int) (dots : Nat) : List Nat := (edges hands dots).mergeSort (· ≤ ·)
theorem edgS_perm (hands : List Int) (dots : Nat) : (edgS hands dots).Perm (edges hands dots) := List.mergeSort_perm _ _
theorem edgS_lt (hands : List Int) (dots : Nat) : (edgS hands dots).Pairwise (· < ·) := by
  have nd : (edgS hands dots).Nodup := (edgS_perm hands dots).nodup_iff.mpr (edgF_nd _ _ _ _ List.nodup_nil)
  have le : (edgS hands dots).Pairwise (fun a b => decide (a ≤ b) = true) := List.pairwise_mergeSort (fun a b c h1 h2 => by simp only [decide_eq_true_eq] at *; omega) (fun a b => by simp only [Bool.or_eq_true, decide_eq_true_eq]; omega) _
  exact (le.and nd).imp fun {a b} h => Nat.lt_of_le_of_ne (of_decide_eq_true h.1) h.2
theorem edgS_mem {hands : List Int} {dots y : Nat} : y ∈ edgS hands dots ↔ ∃ h ∈ hands, ∃ j, j ≤ dots * h.natAbs ∧ y = j * wth hands h := by
  rw [(edgS_perm hands dots).mem_iff]
  unfold edges
  rw [edgF_mem]
  simp only [List.not_mem_nil, false_or]
  constructor
  · rintro ⟨h, hh, hy⟩
    obtain ⟨j, hj, rfl⟩ := List.mem_map.mp hy
    exact ⟨h, hh, j, Nat.le_of_lt_succ (List.mem_range.mp hj), rfl⟩
  · rintro ⟨h, hh, j, hj, rfl⟩
    exact ⟨h, hh, List.mem_map.mpr ⟨j, List.mem_range.mpr (Nat.lt_succ_of_le hj), rfl⟩⟩
theorem shape {B : Nat} : ∀ {ns : List Nat}, ns.Pairwise (· < ·) → 0 ∈ ns → B ∈ ns → (∀ x ∈ ns, x ≤ B) → 0 < B → ∃ a es, ns = 0 :: a :: es ∧ es.getLastD a = B
  | [], _, h, _, _, _ => by cases h
  | [a], _, h0, hB, _, hb => by
    have h1 := List.mem_singleton.mp h0
    have := List.mem_singleton.mp hB
    omega
  | a :: b :: es, hp, h0, hB, hm, hb => by
    rw [List.pairwise_cons] at hp
    have ha : a = 0 := by
      rcases List.mem_cons.mp h0 with z | z
      · exact z.symm
      · have := hp.1 0 z; omega
    subst ha
    refine ⟨b, es, rfl, ?_⟩
    have last : ∀ (l : List Nat) (x : Nat), (x :: l).Pairwise (· < ·) → (∀ y ∈ x :: l, y ≤ l.getLastD x) ∧ l.getLastD x ∈ x :: l := fun l => by
      induction l with
      | nil => intro x _; exact ⟨fun y hy => by rw [List.mem_singleton.mp hy]; exact Nat.le_refl _, List.mem_cons_self⟩
      | cons z l ih =>
        intro x hp
        rw [List.pairwise_cons] at hp
        obtain ⟨h1, h2⟩ := ih z hp.2
        have e : (z :: l).getLastD x = l.getLastD z := by cases l <;> rfl
        rw [e]
        refine ⟨fun y hy => ?_, List.mem_cons_of_mem _ h2⟩
        rcases List.mem_cons.mp hy with rfl | hy
        · exact Nat.le_of_lt (hp.1 _ h2)
        · exact h1 y hy
    obtain ⟨h1, h2⟩ := last es b hp.2
    have hB' : B ∈ b :: es := by
      rcases List.mem_cons.mp hB with z | z
      · omega
      · exact z
    exact Nat.le_antisymm (hm _ (List.mem_cons_of_mem _ h2)) (h1 B hB')
theorem view_row {L : List Nat} {own : List Int} {k dots : Int} {m : Nat} (m0 : 0 < m) : ∃ r, viewD L own k dots m = rowD r ∧ r ∈ rows L own k dots m := let ⟨r, h1, h2⟩ := view_mem (L := L) (own := own) (k := k) (dots := dots) m0; ⟨r, h2, h1⟩
open Classical in
noncomputable def vrow (L : List Nat) (own : List Int) (k dots : Int) (m : Nat) : List (Nat × Int) := if h : ∃ r, viewD L own k dots m = rowD r ∧ r ∈ rows L own k dots m then h.choose else []
theorem vrow_eq {L : List Nat} {own : List Int} {k dots : Int} {m : Nat} (m0 : 0 < m) : viewD L own k dots m = rowD (vrow L own k dots m) ∧ vrow L own k dots m ∈ rows L own k dots m := by
  have h := view_row (L := L) (own := own) (k := k) (dots := dots) m0
  unfold vrow
  rw [dif_pos h]
  exact h.choose_spec
noncomputable def vu (hands : List Int) (L : List Nat) (m k dots : Nat) (u : Nat) : List (Nat × Int) := vrow L (ownU hands dots u) k dots m
section
variable {hands : List Int} {L : List Nat} {m k dots : Nat} (c : Dt hands L m k dots)
include c
theorem edgF_len : ∀ (hs : List Int) (ks : List Nat), (∀ h ∈ hs, h ∈ hands) → (edgF hands dots hs ks).length ≤ ks.length + hs.length * 1441
  | [], ks, _ => by simp [edgF]
  | h :: hs, ks, hm => by
    have h1 := edgF_len hs (addAll ks (edgH hands dots h)) fun x hx => hm x (List.mem_cons_of_mem _ hx)
    have h2 := addAll_len (edgH hands dots h) ks
    have hle : (edgH hands dots h).length = dots * h.natAbs + 1 := by unfold edgH; rw [List.length_map, List.length_range]
    have hdh : dots * h.natAbs ≤ 24 * 60 := Nat.mul_le_mul c.d24 (c.bd h (hm h List.mem_cons_self))
    show (edgF hands dots hs (addAll ks (edgH hands dots h))).length ≤ _
    rw [List.length_cons]
    omega
theorem edg_len : (edgS hands dots).length ≤ 10000 := by
  rw [(edgS_perm hands dots).length_eq]
  have h1 := edgF_len c hands [] fun h hh => hh
  have := c.l4
  rw [List.length_nil] at h1
  unfold edges
  omega
theorem edg_shape : ∃ a es, edgS hands dots = 0 :: a :: es ∧ es.getLastD a = btm hands dots := by
  obtain ⟨h, hh⟩ : ∃ h, h ∈ hands := List.exists_mem_of_length_pos c.l1
  obtain ⟨e, w0⟩ := c.wth_eq hh
  refine shape (edgS_lt hands dots) (edgS_mem.mpr ⟨h, hh, 0, Nat.zero_le _, (Nat.zero_mul _).symm⟩) (edgS_mem.mpr ⟨h, hh, dots * h.natAbs, Nat.le_refl _, by rw [e, Nat.mul_comm]⟩) (fun x hx => ?_) c.b0
  obtain ⟨h', hh', j, hj, rfl⟩ := edgS_mem.mp hx
  obtain ⟨e', _⟩ := c.wth_eq hh'
  rw [e', Nat.mul_comm]
  exact Nat.mul_le_mul_left _ hj
theorem edg_le : ∀ x ∈ edgS hands dots, x ≤ btm hands dots := fun x hx => by
  obtain ⟨h', hh', j, hj, rfl⟩ := edgS_mem.mp hx
  obtain ⟨e', _⟩ := c.wth_eq hh'
  rw [e', Nat.mul_comm]
  exact Nat.mul_le_mul_left _ hj
theorem edg_own : ∀ p ∈ (edgS hands dots).zip (edgS hands dots).tail, ∀ u, p.1 ≤ u → u < p.2 → ownL hands dots (2 * (btm hands dots : Nat) : Int) ((p.1 : Int) + p.2) = ownU hands dots u := fun p hp u h1 h2 => by
  refine own_cells c h1 h2 fun h hh j => ?_
  obtain ⟨e, w0⟩ := c.wth_eq hh
  obtain ⟨q1, q2, q3⟩ := zip_lt (edgS_lt hands dots) p hp
  by_cases hj : j ≤ dots * h.natAbs
  · exact between (edgS_lt hands dots) p hp _ (edgS_mem.mpr ⟨h, hh, j, hj, rfl⟩)
  · right
    have := edg_le c _ q3
    rw [e] at this
    refine Nat.le_trans this ?_
    rw [Nat.mul_comm]
    exact Nat.mul_le_mul_right _ (by omega)
theorem edg_vu : ∀ p ∈ (edgS hands dots).zip (edgS hands dots).tail, ∀ u, p.1 ≤ u → u < p.2 → vu hands L m k dots u = vu hands L m k dots p.1 := fun p hp u h1 h2 => by
  obtain ⟨q1, _, _⟩ := zip_lt (edgS_lt hands dots) p hp
  unfold vu
  rw [← edg_own c p hp u h1 h2, ← edg_own c p hp p.1 (Nat.le_refl _) q1]
theorem vu_iff (i j : Nat) : vu hands L m k dots i = vu hands L m k dots j ↔ Same L (ownU hands dots i) (ownU hands dots j) k dots m := by
  have hd : (dots : Int) = (m : Int) * (k : Int) := by rw [c.dk, Int.natCast_mul]
  rw [← view_iff c.m0 hd, (vrow_eq c.m0).1, (vrow_eq c.m0).1]
  exact ⟨fun h => congrArg rowD h, fun h => rowD_inj _ _ (congrArg tokD h)⟩
theorem stretches_of : ((((edgS hands dots).zip (edgS hands dots).tail).map fun p => (p.1, p.2, vu hands L m k dots p.1)).foldl RZ.stepC []) = RZ.tag (vu hands L m k dots) (RZ.prs (RZ.ins (vu hands L m k dots) (btm hands dots)) (btm hands dots)) := by
  obtain ⟨a, es, e, hl⟩ := edg_shape c
  have hp := edgS_lt hands dots
  have hv := edg_vu c
  rw [e] at hp hv ⊢
  have := RZ.fold_all (V := vu hands L m k dots) hp hv
  rw [hl] at this
  exact this
end
end RY
namespace RZ
section
variable {α : Type} [DecidableEq α] (V : Nat → α)
def rep1 (acc : List Nat) (p : Nat × Nat) : List Nat := if (acc.any fun b => decide (V b = V p.1)) = true then acc else acc ++ [p.1]
def reps (l : List (Nat × Nat)) : List Nat := l.foldl (rep1 V) []
def sel (l : List (Nat × Nat)) (b : Nat) : List (Nat × Nat) := l.filter fun p => decide (V p.1 = V b)
theorem reps_snoc (l : List (Nat × Nat)) (p : Nat × Nat) : reps V (l ++ [p]) = rep1 V (reps V l) p := by
  unfold reps
  rw [List.foldl_append]
  rfl
theorem sel_snoc (l : List (Nat × Nat)) (p : Nat × Nat) (b : Nat) : sel V (l ++ [p]) b = sel V l b ++ (if V p.1 = V b then [p] else []) := by
  unfold sel
  rw [List.filter_append]
  congr 1
  by_cases h : V p.1 = V b
  · rw [if_pos h]; simp [h]
  · rw [if_neg h]; simp [h]
structure RepsOk (l : List (Nat × Nat)) (R : List Nat) : Prop where
  cov : ∀ p ∈ l, ∃ b ∈ R, V b = V p.1
  mem : ∀ b ∈ R, ∃ p ∈ l, p.1 = b
  nd : R.Pairwise fun a b => V a ≠ V b
theorem has_iff (R : List Nat) (x : Nat) : (R.any fun b => decide (V b = V x)) = true ↔ ∃ b ∈ R, V b = V x := by
  rw [List.any_eq_true]
  exact ⟨fun ⟨b, h, e⟩ => ⟨b, h, of_decide_eq_true e⟩, fun ⟨b, h, e⟩ => ⟨b, h, decide_eq_true e⟩⟩
theorem rep1_ok {l : List (Nat × Nat)} {R : List Nat} (h : RepsOk V l R) (p : Nat × Nat) : RepsOk V (l ++ [p]) (rep1 V R p) := by
  unfold rep1
  by_cases q : (R.any fun b => decide (V b = V p.1)) = true
  · rw [if_pos q]
    refine ⟨fun x hx => ?_, fun b hb => let ⟨x, hx, e⟩ := h.mem b hb; ⟨x, List.mem_append_left _ hx, e⟩, h.nd⟩
    rcases List.mem_append.mp hx with hx | hx
    · exact h.cov x hx
    · rw [List.mem_singleton.mp hx]; exact (has_iff V R p.1).mp q
  · rw [if_neg q]
    refine ⟨fun x hx => ?_, fun b hb => ?_, ?_⟩
    · rcases List.mem_append.mp hx with hx | hx
      · obtain ⟨b, hb, e⟩ := h.cov x hx
        exact ⟨b, List.mem_append_left _ hb, e⟩
      · exact ⟨p.1, by simp, by rw [List.mem_singleton.mp hx]⟩
    · rcases List.mem_append.mp hb with hb | hb
      · obtain ⟨x, hx, e⟩ := h.mem b hb
        exact ⟨x, List.mem_append_left _ hx, e⟩
      · exact ⟨p, by simp, (List.mem_singleton.mp hb).symm⟩
    · rw [List.pairwise_append]
      refine ⟨h.nd, List.pairwise_singleton _ _, fun a ha b hb e => q ((has_iff V R p.1).mpr ⟨a, ha, ?_⟩)⟩
      rw [List.mem_singleton.mp hb] at e
      exact e
theorem reps_ok0 : ∀ (l pre : List (Nat × Nat)) (R : List Nat), RepsOk V pre R → RepsOk V (pre ++ l) (l.foldl (rep1 V) R)
  | [], pre, R, h => by rw [List.append_nil]; exact h
  | p :: l, pre, R, h => by
    have := reps_ok0 l (pre ++ [p]) _ (rep1_ok V h p)
    rw [List.append_assoc] at this
    exact this
theorem reps_ok (l : List (Nat × Nat)) : RepsOk V l (reps V l) := by
  have := reps_ok0 V l [] [] ⟨fun _ h => (nomatch h), fun _ h => (nomatch h), List.Pairwise.nil⟩
  rw [List.nil_append] at this
  exact this
def gat (l : List (Nat × Nat)) : List (α × List (Nat × Nat)) := (reps V l).map fun b => (V b, sel V l b)
theorem gat_none {l : List (Nat × Nat)} {x : Nat} (h : ¬ ∃ b ∈ reps V l, V b = V x) : sel V l x = [] := by
  unfold sel
  rw [List.filter_eq_nil_iff]
  intro p hp e
  obtain ⟨b, hb, e'⟩ := (reps_ok V l).cov p hp
  exact h ⟨b, hb, e'.trans (of_decide_eq_true e)⟩
theorem gat_find (l : List (Nat × Nat)) (x : Nat) : (((gat V l).find? fun g => decide (g.1 = V x)).map (·.2)).getD [] = sel V l x := by
  by_cases h : ∃ b ∈ reps V l, V b = V x
  · obtain ⟨b, hb, e⟩ := h
    have : ∃ g, (gat V l).find? (fun g => decide (g.1 = V x)) = some g := by
      cases q : (gat V l).find? (fun g => decide (g.1 = V x)) with
      | some g => exact ⟨g, rfl⟩
      | none =>
        rw [List.find?_eq_none] at q
        exact absurd (decide_eq_true e) (q (V b, sel V l b) (List.mem_map.mpr ⟨b, hb, rfl⟩))
    obtain ⟨g, hg⟩ := this
    rw [hg]
    obtain ⟨b', _, rfl⟩ := List.mem_map.mp (List.mem_of_find?_eq_some hg)
    have e' : V b' = V x := of_decide_eq_true (List.find?_some (p := fun g : α × List (Nat × Nat) => decide (g.1 = V x)) hg)
    show sel V l b' = sel V l x
    unfold sel
    rw [e']
  · have q : (gat V l).find? (fun g => decide (g.1 = V x)) = none := by
      rw [List.find?_eq_none]
      intro g hg e
      obtain ⟨b, hb, rfl⟩ := List.mem_map.mp hg
      exact h ⟨b, hb, of_decide_eq_true e⟩
    rw [q, gat_none V h]
    rfl
theorem gat_has (l : List (Nat × Nat)) (x : Nat) : ((gat V l).any fun g => decide (g.1 = V x)) = (reps V l).any fun b => decide (V b = V x) := by
  unfold gat
  rw [List.any_map]
  rfl
theorem gat_snoc (l : List (Nat × Nat)) (p : Nat × Nat) : gat V (l ++ [p]) = if ((gat V l).any fun g => decide (g.1 = V p.1)) = true then (gat V l).map (fun g => if g.1 = V p.1 then (g.1, sel V l p.1 ++ [p]) else g) else gat V l ++ [(V p.1, sel V l p.1 ++ [p])] := by
  rw [gat_has]
  unfold gat
  rw [reps_snoc]
  unfold rep1
  by_cases q : ((reps V l).any fun b => decide (V b = V p.1)) = true
  · rw [if_pos q, if_pos q, List.map_map]
    refine List.map_congr_left fun b _ => ?_
    show (V b, sel V (l ++ [p]) b) = if V b = V p.1 then (V b, sel V l p.1 ++ [p]) else (V b, sel V l b)
    rw [sel_snoc]
    by_cases e : V b = V p.1
    · rw [if_pos e, if_pos e.symm]
      have : sel V l b = sel V l p.1 := by unfold sel; rw [e]
      rw [this]
    · rw [if_neg e, if_neg (fun z => e z.symm), List.append_nil]
  · rw [if_neg q, if_neg q, List.map_append]
    congr 1
    · refine List.map_congr_left fun b hb => ?_
      show (V b, sel V (l ++ [p]) b) = (V b, sel V l b)
      rw [sel_snoc, if_neg (fun z => q ((has_iff V _ p.1).mpr ⟨b, hb, z.symm⟩)), List.append_nil]
    · show [(V p.1, sel V (l ++ [p]) p.1)] = _
      rw [sel_snoc, if_pos rfl]
def share (l : List (Nat × Nat)) : Nat := ((reps V l).map fun b => if 1 < (sel V l b).length then ((sel V l b).map (·.2)).sum else 0).sum
end
section
variable {α β : Type} [DecidableEq α] [DecidableEq β] {V : Nat → α} {W : Nat → β}
theorem reps_congr0 : ∀ (l : List (Nat × Nat)) (R : List Nat), (∀ a b, (a ∈ R ∨ ∃ p ∈ l, p.1 = a) → (b ∈ R ∨ ∃ p ∈ l, p.1 = b) → (V a = V b ↔ W a = W b)) → l.foldl (rep1 V) R = l.foldl (rep1 W) R
  | [], R, _ => rfl
  | p :: l, R, h => by
    have e : rep1 V R p = rep1 W R p := by
      unfold rep1
      have : (R.any fun b => decide (V b = V p.1)) = (R.any fun b => decide (W b = W p.1)) := by
        rw [Bool.eq_iff_iff, has_iff, has_iff]
        constructor
        · rintro ⟨b, hb, e⟩; exact ⟨b, hb, (h b p.1 (.inl hb) (.inr ⟨p, List.mem_cons_self, rfl⟩)).mp e⟩
        · rintro ⟨b, hb, e⟩; exact ⟨b, hb, (h b p.1 (.inl hb) (.inr ⟨p, List.mem_cons_self, rfl⟩)).mpr e⟩
      rw [this]
    rw [List.foldl_cons, List.foldl_cons, e]
    have hm : ∀ a, a ∈ rep1 W R p → a ∈ R ∨ ∃ q ∈ p :: l, q.1 = a := fun a ha => by
      unfold rep1 at ha
      split at ha
      · exact .inl ha
      · rcases List.mem_append.mp ha with ha | ha
        · exact .inl ha
        · exact .inr ⟨p, List.mem_cons_self, (List.mem_singleton.mp ha).symm⟩
    refine reps_congr0 l _ fun a b ha hb => h a b ?_ ?_
    · rcases ha with ha | ⟨q, hq, e⟩
      · exact hm a ha
      · exact .inr ⟨q, List.mem_cons_of_mem _ hq, e⟩
    · rcases hb with hb | ⟨q, hq, e⟩
      · exact hm b hb
      · exact .inr ⟨q, List.mem_cons_of_mem _ hq, e⟩
theorem reps_congr {l : List (Nat × Nat)} (h : ∀ p ∈ l, ∀ q ∈ l, (V p.1 = V q.1 ↔ W p.1 = W q.1)) : reps V l = reps W l :=
  reps_congr0 l [] fun a b ha hb => by
    rcases ha with ha | ⟨p, hp, rfl⟩
    · cases ha
    · rcases hb with hb | ⟨q, hq, rfl⟩
      · cases hb
      · exact h p hp q hq
theorem sel_congr {l : List (Nat × Nat)} {b : Nat} (h : ∀ p ∈ l, (V p.1 = V b ↔ W p.1 = W b)) : sel V l b = sel W l b :=
  List.filter_congr fun p hp => decide_eq_decide.mpr (h p hp)
theorem share_congr {l : List (Nat × Nat)} (h : ∀ p ∈ l, ∀ q ∈ l, (V p.1 = V q.1 ↔ W p.1 = W q.1)) : share V l = share W l := by
  unfold share
  rw [reps_congr h]
  congr 1
  refine List.map_congr_left fun b hb => ?_
  obtain ⟨q, hq, rfl⟩ := (reps_ok W l).mem b hb
  rw [sel_congr (W := W) fun p hp => h p hp q hq]
end
section
variable {α : Type} [DecidableEq α] {V : Nat → α} {n : Nat}
theorem cyc_mem {k : Nat} : k ∈ cyc V n ↔ k < n ∧ V k ≠ V (if k = 0 then n - 1 else k - 1) := by
  unfold cyc
  rw [List.mem_filter, List.mem_range]
  simp
theorem cyc_lt : (cyc V n).Pairwise (· < ·) := List.Pairwise.filter _ List.pairwise_lt_range
theorem ring_pairs : ∀ {l : List Nat} {a b e : Nat}, (a :: l).Pairwise (· < ·) → (∀ x ∈ a :: l, x < e) → ∀ p ∈ (a :: l).zip (l ++ [e]), p.1 < p.2 ∧ p.1 ∈ a :: l ∧ (p.2 ∈ l ∨ p.2 = e) ∧ ∀ x ∈ a :: l, x ≤ p.1 ∨ p.2 ≤ x
  | [], a, b, e, _, h, p, hp => by
    have : p = (a, e) := by simpa using hp
    subst this
    exact ⟨h a List.mem_cons_self, List.mem_cons_self, .inr rfl, fun x hx => .inl (by rw [List.mem_singleton.mp hx]; exact Nat.le_refl _)⟩
  | c :: l, a, b, e, hp, h, p, hm => by
    rw [List.pairwise_cons] at hp
    rcases List.mem_cons.mp (show p ∈ (a, c) :: (c :: l).zip (l ++ [e]) from hm) with rfl | hq
    · refine ⟨hp.1 c List.mem_cons_self, List.mem_cons_self, .inl List.mem_cons_self, fun x hx => ?_⟩
      rcases List.mem_cons.mp hx with rfl | hx
      · exact .inl (Nat.le_refl _)
      · rcases List.mem_cons.mp hx with rfl | hx
        · exact .inr (Nat.le_refl _)
        · exact .inr (Nat.le_of_lt ((List.pairwise_cons.mp hp.2).1 x hx))
    · obtain ⟨h1, h2, h3, h4⟩ := ring_pairs (b := b) hp.2 (fun x hx => h x (List.mem_cons_of_mem _ hx)) p hq
      refine ⟨h1, List.mem_cons_of_mem _ h2, h3.elim (fun z => .inl (List.mem_cons_of_mem _ z)) .inr, fun x hx => ?_⟩
      rcases List.mem_cons.mp hx with rfl | hx
      · refine .inl (Nat.le_of_lt ?_)
        exact hp.1 _ h2
      · exact h4 x hx
theorem strL_mem (h : 0 < n) : ∀ p ∈ strL V n, p.1 < n ∧ 0 < p.2 ∧ p.2 ≤ n := fun p hp => by
  unfold strL at hp
  split at hp
  · rw [List.mem_singleton.mp hp]; exact ⟨h, h, Nat.le_refl _⟩
  · rename_i b bs e
    obtain ⟨q, hq, rfl⟩ := List.mem_map.mp hp
    have lt := cyc_lt (V := V) (n := n)
    rw [e] at lt
    have hx : ∀ x ∈ b :: bs, x < n := fun x hx => (cyc_mem (V := V).mp (by rw [e]; exact hx)).1
    have hle : ∀ x ∈ b :: bs, b ≤ x := fun x hx => by
      rcases List.mem_cons.mp hx with rfl | hx
      · exact Nat.le_refl _
      · exact Nat.le_of_lt ((List.pairwise_cons.mp lt).1 x hx)
    obtain ⟨h1, h2, h3, _⟩ := ring_pairs (b := 0) lt (e := b + n) (fun x y => by have := hx x y; omega) q hq
    have a1 := hx _ h2
    have a2 := hle _ h2
    refine ⟨a1, by show 0 < q.2 - q.1; omega, ?_⟩
    show q.2 - q.1 ≤ n
    rcases h3 with z | z
    · have := hx _ (List.mem_cons_of_mem _ z); omega
    · omega
theorem strL_ne (h : 0 < n) : strL V n ≠ [] := by
  unfold strL
  split
  · exact List.cons_ne_nil _ _
  · rename_i b bs e
    cases bs <;> simp
theorem strL_len : (strL V n).length ≤ n + 1 := by
  have h : (cyc V n).length ≤ n := by
    unfold cyc
    exact Nat.le_trans (List.length_filter_le _ _) (by rw [List.length_range]; exact Nat.le_refl _)
  unfold strL
  split
  · simp
  · rename_i b bs e
    rw [e] at h
    rw [List.length_map, List.length_zip, List.length_append]
    simp only [List.length_cons, List.length_nil] at *
    omega
theorem pair_at : ∀ {l : List Nat} {a e u : Nat}, a ≤ u → u < e → ∃ p ∈ (a :: l).zip (l ++ [e]), p.1 ≤ u ∧ u < p.2
  | [], a, e, u, h1, h2 => ⟨(a, e), by simp, h1, h2⟩
  | c :: l, a, e, u, h1, h2 => by
    by_cases h : u < c
    · exact ⟨(a, c), List.mem_cons_self, h1, h⟩
    · obtain ⟨p, hp, q⟩ := pair_at (l := l) (a := c) (by omega) h2
      exact ⟨p, List.mem_cons_of_mem _ hp, q⟩
theorem no_change {x : Nat} : ∀ {u : Nat}, x ≤ u → u < n → (∀ k, x < k → k ≤ u → k ∉ cyc V n) → V u = V x
  | 0, h, _, _ => by
    have : x = 0 := by omega
    rw [this]
  | u + 1, h, hn, hc => by
    by_cases e : x = u + 1
    · rw [e]
    · have h1 := hc (u + 1) (by omega) (Nat.le_refl _)
      rw [cyc_mem] at h1
      have h2 : V (u + 1) = V u := Classical.byContradiction fun z => h1 ⟨hn, by rw [if_neg (Nat.succ_ne_zero _)]; exact z⟩
      rw [h2]
      exact no_change (by omega) (by omega) fun k a b => hc k a (by omega)
theorem strL_cover {u : Nat} (hu : u < n) : ∃ p ∈ strL V n, V p.1 = V u ∧ ((p.1 ≤ u ∧ u < p.1 + p.2) ∨ (p.1 ≤ u + n ∧ u + n < p.1 + p.2)) := by
  have h : 0 < n := by omega
  have lt := cyc_lt (V := V) (n := n)
  have hmem := fun k => cyc_mem (V := V) (n := n) (k := k)
  unfold strL
  split
  · rename_i e
    refine ⟨(0, n), List.mem_cons_self, (no_change (Nat.zero_le _) hu fun k _ _ => ?_).symm, .inl ⟨Nat.zero_le _, by show u < 0 + n; omega⟩⟩
    rw [e]; exact List.not_mem_nil
  · rename_i b bs e
    rw [e] at lt
    have hx : ∀ x ∈ b :: bs, x < n := fun x hx => ((hmem x).mp (by rw [e]; exact hx)).1
    have hle : ∀ x ∈ b :: bs, b ≤ x := fun x hx => by
      rcases List.mem_cons.mp hx with rfl | hx
      · exact Nat.le_refl _
      · exact Nat.le_of_lt ((List.pairwise_cons.mp lt).1 x hx)
    have key : ∀ v, b ≤ v → v < b + n → ∃ q ∈ (b :: bs).zip (bs ++ [b + n]), q.1 ≤ v ∧ v < q.2 ∧ q.1 < n ∧ q.2 ≤ b + n ∧ ∀ k, q.1 < k → k < q.2 → k ∉ cyc V n := fun v h1 h2 => by
      obtain ⟨q, hq, a, c⟩ := pair_at (l := bs) h1 h2
      obtain ⟨r1, r2, r3, r4⟩ := ring_pairs (b := 0) lt (e := b + n) (fun x y => by have := hx x y; omega) q hq
      refine ⟨q, hq, a, c, hx _ r2, ?_, fun k k1 k2 hk => ?_⟩
      · rcases r3 with z | z
        · have := hx _ (List.mem_cons_of_mem _ z); omega
        · omega
      · rw [e] at hk
        rcases r4 k hk with z | z <;> omega
    by_cases hb : b ≤ u
    · obtain ⟨q, hq, a, c, d, f, g⟩ := key u hb (by omega)
      refine ⟨dif q, List.mem_map.mpr ⟨q, hq, rfl⟩, (no_change a hu fun k k1 k2 => g k k1 (by omega)).symm, .inl ⟨a, ?_⟩⟩
      show u < q.1 + (q.2 - q.1)
      omega
    · have hbn := hx b List.mem_cons_self
      obtain ⟨q, hq, a, c, d, f, g⟩ := key (u + n) (by omega) (by omega)
      have n0 : (0 : Nat) ∉ cyc V n := fun z => by
        rw [e] at z
        have := hle 0 z
        omega
      have e0 : V 0 = V (n - 1) := Classical.byContradiction fun z => n0 ((hmem 0).mpr ⟨h, by rw [if_pos rfl]; exact z⟩)
      have e1 : V u = V 0 := no_change (Nat.zero_le _) hu fun k k1 k2 hk => by
        rw [e] at hk
        have := hle k hk
        omega
      have e2 : V (n - 1) = V q.1 := no_change (by omega) (by omega) fun k k1 k2 => g k k1 (by omega)
      refine ⟨dif q, List.mem_map.mpr ⟨q, hq, rfl⟩, by rw [e1, e0, e2]; rfl, .inr ⟨a, ?_⟩⟩
      show u + n < q.1 + (q.2 - q.1)
      omega
theorem strL_asc : (strL V n).Pairwise fun p q => p.1 < q.1 := by
  have lt := cyc_lt (V := V) (n := n)
  unfold strL
  split
  · exact List.pairwise_singleton _ _
  · rename_i b bs e
    rw [e] at lt
    rw [List.pairwise_map]
    have z : ∀ (l m : List Nat), l.Pairwise (· < ·) → (l.zip m).Pairwise fun p q => (dif p).1 < (dif q).1 := fun l => by
      induction l with
      | nil => intro m _; exact List.Pairwise.nil
      | cons x l ih =>
        intro m hp
        cases m with
        | nil => exact List.Pairwise.nil
        | cons y m =>
          rw [List.pairwise_cons] at hp
          rw [List.zip_cons_cons, List.pairwise_cons]
          exact ⟨fun q hq => hp.1 _ (List.of_mem_zip hq).1, ih m hp.2⟩
    exact z _ _ lt
theorem dif_sum : ∀ {l : List Nat} {a e : Nat}, (a :: l).Pairwise (· < ·) → (∀ x ∈ a :: l, x ≤ e) → ((((a :: l).zip (l ++ [e])).map dif).map (·.2)).sum = e - a
  | [], a, e, _, _ => by simp [dif]
  | b :: l, a, e, hp, h => by
    rw [List.pairwise_cons] at hp
    have h1 := hp.1 b List.mem_cons_self
    have h2 := h b (List.mem_cons_of_mem _ List.mem_cons_self)
    have ih := dif_sum (l := l) (a := b) (e := e) hp.2 fun x hx => h x (List.mem_cons_of_mem _ hx)
    rw [List.cons_append, List.zip_cons_cons, List.map_cons, List.map_cons, List.sum_cons, ih]
    show b - a + (e - b) = e - a
    omega
theorem strL_sum : ((strL V n).map (·.2)).sum = n := by
  have lt := cyc_lt (V := V) (n := n)
  have hmem := fun k => cyc_mem (V := V) (n := n) (k := k)
  unfold strL
  split
  · simp
  · rename_i b bs e
    rw [e] at lt
    rw [dif_sum lt fun x hx => by
      have := ((hmem x).mp (by rw [e]; exact hx)).1
      omega]
    omega
theorem one_rep : ∀ (R : List Nat) (x v : Nat), R.Pairwise (fun a b => V a ≠ V b) → (∃ b ∈ R, V b = V x) → (R.map fun b => if V x = V b then v else 0).sum = v
  | [], x, v, _, h => by obtain ⟨b, hb, _⟩ := h; cases hb
  | r :: R, x, v, hp, h => by
    rw [List.pairwise_cons] at hp
    rw [List.map_cons, List.sum_cons]
    by_cases e : V x = V r
    · have z : (R.map fun b => if V x = V b then v else 0).sum = 0 := by
        have : ∀ (Q : List Nat), (∀ b ∈ Q, V r ≠ V b) → (Q.map fun b => if V x = V b then v else 0).sum = 0 := fun Q => by
          induction Q with
          | nil => intro _; rfl
          | cons q Q ih =>
            intro hq
            rw [List.map_cons, List.sum_cons, ih fun b hb => hq b (List.mem_cons_of_mem _ hb), if_neg (fun z => hq q List.mem_cons_self (e.symm.trans z))]
        exact this R hp.1
      rw [if_pos e, z, Nat.add_zero]
    · rw [if_neg e, Nat.zero_add]
      refine one_rep R x v hp.2 ?_
      obtain ⟨b, hb, q⟩ := h
      rcases List.mem_cons.mp hb with rfl | hb
      · exact absurd q.symm e
      · exact ⟨b, hb, q⟩
theorem part_sum (R : List Nat) (hp : R.Pairwise (fun a b => V a ≠ V b)) : ∀ (l : List (Nat × Nat)), (∀ p ∈ l, ∃ b ∈ R, V b = V p.1) → (R.map fun b => ((sel V l b).map (·.2)).sum).sum = (l.map (·.2)).sum
  | [], _ => by
    have : ∀ Q : List Nat, (Q.map fun b => ((sel V [] b).map (·.2)).sum).sum = 0 := fun Q => by
      induction Q with
      | nil => rfl
      | cons q Q ih => rw [List.map_cons, List.sum_cons, ih]; rfl
    exact this R
  | p :: l, h => by
    have e : ∀ Q : List Nat, (Q.map fun b => ((sel V (p :: l) b).map (·.2)).sum).sum = (Q.map fun b => if V p.1 = V b then p.2 else 0).sum + (Q.map fun b => ((sel V l b).map (·.2)).sum).sum := fun Q => by
      induction Q with
      | nil => rfl
      | cons q Q ih =>
        rw [List.map_cons, List.sum_cons, ih, List.map_cons, List.sum_cons, List.map_cons, List.sum_cons]
        have : ((sel V (p :: l) q).map (·.2)).sum = (if V p.1 = V q then p.2 else 0) + ((sel V l q).map (·.2)).sum := by
          unfold sel
          rw [List.filter_cons]
          by_cases z : V p.1 = V q
          · rw [if_pos (decide_eq_true z), if_pos z, List.map_cons, List.sum_cons]
          · rw [if_neg (by simpa using z), if_neg z, Nat.zero_add]
        omega
    rw [e, one_rep R p.1 p.2 hp (h p List.mem_cons_self), part_sum R hp l fun q hq => h q (List.mem_cons_of_mem _ hq), List.map_cons, List.sum_cons]
theorem sum_mono : ∀ (R : List Nat) (f g : Nat → Nat), (∀ b ∈ R, f b ≤ g b) → (R.map f).sum ≤ (R.map g).sum
  | [], f, g, _ => Nat.le_refl _
  | r :: R, f, g, h => by
    rw [List.map_cons, List.map_cons, List.sum_cons, List.sum_cons]
    have := h r List.mem_cons_self
    have := sum_mono R f g fun b hb => h b (List.mem_cons_of_mem _ hb)
    omega
theorem sum_mem : ∀ {R : List Nat} {f : Nat → Nat} {b : Nat}, b ∈ R → f b ≤ (R.map f).sum
  | r :: R, f, b, h => by
    rw [List.map_cons, List.sum_cons]
    rcases List.mem_cons.mp h with rfl | h
    · omega
    · have := sum_mem (f := f) h; omega
theorem share_le : share V (strL V n) ≤ n := by
  have h := part_sum (V := V) (reps V (strL V n)) (reps_ok V _).nd (strL V n) (reps_ok V _).cov
  rw [strL_sum] at h
  have h2 := sum_mono (reps V (strL V n)) (fun b => if 1 < (sel V (strL V n) b).length then ((sel V (strL V n) b).map (·.2)).sum else 0) (fun b => ((sel V (strL V n) b).map (·.2)).sum) fun b _ => by
    show (if 1 < (sel V (strL V n) b).length then ((sel V (strL V n) b).map (·.2)).sum else 0) ≤ _
    split
    · exact Nat.le_refl _
    · exact Nat.zero_le _
  rw [h] at h2
  exact h2
theorem sum_ge : ∀ {l : List (Nat × Nat)}, (∀ p ∈ l, 0 < p.2) → l.length ≤ (l.map (·.2)).sum
  | [], _ => Nat.le_refl _
  | p :: l, h => by
    have := h p List.mem_cons_self
    have := sum_ge fun q hq => h q (List.mem_cons_of_mem _ hq)
    rw [List.map_cons, List.sum_cons, List.length_cons]
    omega
theorem share_pos (h : 0 < n) {x : Nat} (hx : 1 < (sel V (strL V n) x).length) : 0 < share V (strL V n) := by
  have hs : ∃ b ∈ reps V (strL V n), V b = V x := Classical.byContradiction fun z => by rw [gat_none V z] at hx; exact Nat.not_lt_zero _ hx
  obtain ⟨b, hb, e⟩ := hs
  have e2 : sel V (strL V n) b = sel V (strL V n) x := by unfold sel; rw [e]
  have h1 := sum_mem (R := reps V (strL V n)) (f := fun b => if 1 < (sel V (strL V n) b).length then ((sel V (strL V n) b).map (·.2)).sum else 0) hb
  have h1 : (if 1 < (sel V (strL V n) b).length then ((sel V (strL V n) b).map (·.2)).sum else 0) ≤ share V (strL V n) := h1
  rw [e2, if_pos hx] at h1
  have h2 := sum_ge (l := sel V (strL V n) x) fun p hp => (strL_mem h p (List.mem_filter.mp hp).1).2.1
  omega
theorem strL_one (h : ∀ k, k < n → V k = V 0) : strL V n = [(0, n)] := by
  have e : cyc V n = [] := by
    rw [List.eq_nil_iff_forall_not_mem]
    intro k hk
    obtain ⟨h1, h2⟩ := cyc_mem.mp hk
    refine h2 ?_
    rw [h k h1]
    split
    · rename_i z
      rw [h (n - 1) (by omega)]
    · rw [h (k - 1) (by omega)]
  unfold strL
  rw [e]
end
end RZ
namespace K
open DL
def dR (q : Rat) : D := .tup [.int q.num, .int q.den]
theorem dR_inj {q r : Rat} (h : dR q = dR r) : q = r := by
  unfold dR at h
  injection h with h
  injection h with h1 h2
  injection h1 with h1
  injection h2 with h2 _
  injection h2 with h2
  exact Rat.ext h1 (by omega)
theorem part_q (t b : Int) (hb : 0 < b) : D.tup [.int (t % b / (Int.gcd (t % b) b : Int)), .int (b / (Int.gcd (t % b) b : Int))] = dR (fr ((t : Rat) / (b : Rat))) := by
  have hb' : (b : Rat) ≠ 0 := by
    intro h
    have : b = 0 := by exact_mod_cast Rat.intCast_eq_zero_iff.mp h
    omega
  have e : fr ((t : Rat) / (b : Rat)) = ((t % b : Int) : Rat) / (b : Rat) := by
    have h0 := Int.emod_nonneg t (show b ≠ 0 by omega)
    have h1 := Int.emod_lt_of_pos t hb
    have hbp : (0 : Rat) < b := by
      have : ((0 : Int) : Rat) < b := Rat.intCast_lt_intCast.mpr hb
      exact this
    have h0' : (0 : Rat) ≤ ((t % b : Int) : Rat) := by
      have : ((0 : Int) : Rat) ≤ ((t % b : Int) : Rat) := Rat.intCast_le_intCast.mpr h0
      exact this
    have h1' : ((t % b : Int) : Rat) < b := Rat.intCast_lt_intCast.mpr h1
    refine eqv_eq ((fr_eqv _).trans ⟨t / b, ?_⟩) (fr_nonneg _) (fr_lt _) ?_ ?_
    · have q := Int.emod_add_mul_ediv t b
      have q2 : ((t % b + b * (t / b) : Int) : Rat) = (t : Rat) := by rw [q]
      rw [Rat.intCast_add, Rat.intCast_mul] at q2
      grind
    · rw [Rat.div_def]; exact Rat.mul_nonneg h0' (Rat.le_of_lt (Rat.inv_pos.mpr hbp))
    · rw [Rat.div_lt_iff hbp, Rat.one_mul]; exact h1'
  rw [e, ← Rat.divInt_eq_div]
  unfold dR
  have hg : 0 < b.gcd (t % b) := Int.gcd_pos_of_ne_zero_left _ (by omega)
  rw [Rat.num_divInt, Rat.den_divInt, Int.sign_eq_one_of_pos hb, Int.one_mul, if_neg (by omega), Int.gcd_comm (t % b) b]
  have hd : (b.gcd (t % b) : Int) ∣ b := Int.gcd_dvd_left ..
  have e2 : b / ((b.gcd (t % b) : Nat) : Int) = ((b.natAbs / b.gcd (t % b) : Nat) : Int) := by
    rw [Int.natCast_ediv, Int.natAbs_of_nonneg (by omega)]
  rw [e2]
end K
namespace K
open PySem PySem.Spec PyProof.Rows L2 DL
def topS (i : Nat) : Stmt := PySem.Challenge.pw_unclearhands_k32_whole_stretches_and_vie.main.body.getD i (.Pass ⟨0, 0, 0, 0⟩)
def k_DAY : D := (.tup [(.int (1)), (.int (1))])
def txT : List (Str × CD) := [("DAY", (.tup [(.int (1)), (.int (1))]))]
def g_divisor : Sv :=
  (sSeq (sPar 2 3 (eUn dAbs (eB 0)) (eUn dAbs (eB 1))) (sSeq (sWhile (fun ρ => natAt 3 ρ + 1) (cV (eBin dGt (eB 3) (eC (.int 0)))) (sPar 2 3 (eV 3) (eBin dMod (eB 2) (eB 3)))) (sRet (eV 2))))
def m_divisor : List D → List D → Option (D × List D) := runB false 4 g_divisor
def g_view_at : Sv :=
  (sSeq (sAsg (.tup [(.nm 4), (.nm 5), (.nm 6)]) (eV 0)) (sSeq (sSet 7 (eComp (.nm 10) (iAny (eV 4)) cYes (eBin dMod (eBin dDiv (eBin dMul (eBin dMul (eB 10) (eB 2)) (eB 1)) (eB 3)) (eB 1)) [10])) (sSeq (sSetO 8 (eLst aN)) (sSeq (sFor (.nm 9) (iRange1 (aC (eV 6) aN)) (sApp 8 (eUnF sortD (eComp (.tup [(.nm 11), (.nm 12)]) (iZip (aC (eV 5) (aC (eV 7) aN))) cYes (eTup (aC (eV 11) (aC (eBin dMod (eBin dAdd (eB 12) (eBin dDiv (eBin dMul (eB 9) (eB 1)) (eB 6))) (eB 1)) aN))) [11, 12])))) (sRet (eUn dMinD (eB 8)))))))
def m_view_at : List D → List D → Option (D × List D) := runB false 13 g_view_at
def g_law_draw : Sv :=
  (sSeq (sSet 2 (eC (.int 2305843009213693951))) (sSeq (sIf (cV (eBin dLt (eIx (eB 0) (eC (.int 2))) (eB 1))) (sSeq (sSet 3 (eC (.int 0))) (sSeq (sIf (cV (eBin dGt (eUn dLen (eIx (eB 0) (eC (.int 0)))) (eC (.int 0)))) (sSet 3 (eIx (eIx (eB 0) (eC (.int 0))) (eBin dMod (eUn dInt (eIx (eB 0) (eC (.int 1)))) (eUn dLen (eIx (eB 0) (eC (.int 0))))))) sNil) (sSeq (sIf (cOr (cV (eBin dGe (eIx (eB 0) (eC (.int 1))) (eUn dLen (eIx (eB 0) (eC (.int 0)))))) (cV (eBin dLt (eB 3) (eBin dPow (eC (.int 10)) (eC (.int 18)))))) (sSeq (sSet 3 (eBin dMod (eUn dInt (eBin dAdd (eB 3) (eBin dMul (eC (.int 1000003)) (eIx (eB 0) (eC (.int 1)))))) (eB 2))) (sSeq (sSet 3 (eBin dMod (eUn dInt (eBin dAdd (eBin dAdd (eBin dMul (eB 3) (eB 3)) (eBin dMul (eC (.int 1181783497276652981)) (eB 3))) (eC (.int 2049848353892358983)))) (eB 2))) (sSet 3 (eBin dMod (eUn dInt (eBin dAdd (eBin dMul (eB 3) (eB 3)) (eC (.int 1442695040888963407)))) (eB 2))))) sNil) (sSeq (sIxC (eV 0) (eBin dAdd (eIx (eB 0) (eC (.int 1))) (eC (.int 1))) (eC (.int 1))) (sIxC (eV 0) (eV 3) (eC (.int 2))))))) sNil) (sSeq (sSet 4 (eBin dMod (eUn dInt (eIx (eB 0) (eC (.int 2)))) (eB 1))) (sSeq (sIxC (eV 0) (eBin dDiv (eIx (eB 0) (eC (.int 2))) (eB 1)) (eC (.int 2))) (sRet (eV 4))))))
def m_law_draw : List D → List D → Option (D × List D) := runB false 5 g_law_draw
def g_law_gcd : Sv :=
  (sSeq (sPar 2 3 (eUn dAbs (eB 0)) (eUn dAbs (eB 1))) (sSeq (sWhile (fun ρ => natAt 3 ρ + 1) (cV (eBin dGt (eB 3) (eC (.int 0)))) (sPar 2 3 (eV 3) (eBin dMod (eUn dInt (eB 2)) (eB 3)))) (sRet (eV 2))))
def m_law_gcd : List D → List D → Option (D × List D) := runB false 4 g_law_gcd
def g_part : Sv :=
  (sSeq (sSet 2 (eCall 2 m_divisor (aC (eBin dMod (eB 0) (eB 1)) (aC (eV 1) aN)))) (sRet (eTup (aC (eBin dDiv (eBin dMod (eB 0) (eB 1)) (eB 2)) (aC (eBin dDiv (eB 1) (eB 2)) aN)))))
def m_part : List D → List D → Option (D × List D) := runB false 3 g_part
def g_common_bottom : Sv :=
  (sSeq (sSet 2 (eC (.int 1))) (sSeq (sFor (.nm 3) (iAny (eIx (eB 0) (eC (.int 0)))) (sSet 2 (eBin dMul (eBin dDiv (eB 2) (eCall 2 m_divisor (aC (eV 2) (aC (eV 3) aN)))) (eUn dAbs (eB 3))))) (sRet (eBin dMul (eB 2) (eB 1)))))
def m_common_bottom : List D → List D → Option (D × List D) := runB false 4 g_common_bottom
def g_law_part : Sv :=
  (sSeq (sSet 2 (eBin dMod (eUn dInt (eB 0)) (eB 1))) (sSeq (sSet 3 (eCall 2 m_law_gcd (aC (eV 2) (aC (eV 1) aN)))) (sRet (eTup (aC (eBin dDiv (eB 2) (eB 3)) (aC (eBin dDiv (eB 1) (eB 3)) aN))))))
def m_law_part : List D → List D → Option (D × List D) := runB false 4 g_law_part
def g_law_clock : Sv :=
  (sSeq (sSet 2 (eIx (eLst (aC (eC (.int 2)) (aC (eC (.int 2)) (aC (eC (.int 3)) (aC (eC (.int 2)) (aC (eC (.int 4)) aN)))))) (eCall 2 m_law_draw (aC (eV 0) (aC (eC (.int 5)) aN))))) (sSeq (sSet 3 (eTup aN)) (sSeq (sFor (.nm 4) (iRange1 (aC (eV 2) aN)) (sSeq (sSet 5 (eBin dAdd (eC (.int 1)) (eCall 2 m_law_draw (aC (eV 0) (aC (eV 1) aN))))) (sSet 3 (eBin dAdd (eB 3) (eTup (aC (eIf (cV (eBin dEq (eCall 2 m_law_draw (aC (eV 0) (aC (eC (.int 5)) aN))) (eC (.int 0)))) (eUn dNeg (eB 5)) (eV 5)) aN)))))) (sSeq (sSet 6 (eC (.int 0))) (sSeq (sFor (.nm 5) (iAny (eV 3)) (sSet 6 (eCall 2 m_law_gcd (aC (eV 6) (aC (eV 5) aN))))) (sSeq (sSet 3 (eUn dTup (eComp (.nm 5) (iAny (eV 3)) cYes (eBin dDiv (eB 5) (eB 6)) [5]))) (sSeq (sSet 7 (eSl (eIx (eLst (aC (eC (.str "aaab")) (aC (eC (.str "aabb")) (aC (eC (.str "aabc")) (aC (eC (.str "abcd")) (aC (eC (.str "abab")) aN)))))) (eCall 2 m_law_draw (aC (eV 0) (aC (eC (.int 5)) aN)))) oN (oE (eV 2)))) (sSeq (sSet 7 (eIf (cAnd (cV (eBin dLt (eB 2) (eC (.int 4)))) (cV (eBin dGt (eCall 2 m_law_draw (aC (eV 0) (aC (eC (.int 3)) aN))) (eC (.int 0))))) (eSl (eC (.str "aaa")) oN (oE (eV 2))) (eV 7))) (sRet (eTup (aC (eV 3) (aC (eV 7) (aC (eIx (eLst (aC (eC (.int 1)) (aC (eC (.int 1)) (aC (eC (.int 1)) (aC (eC (.int 2)) (aC (eC (.int 3)) (aC (eC (.int 4)) aN))))))) (eCall 2 m_law_draw (aC (eV 0) (aC (eC (.int 6)) aN)))) aN)))))))))))))
def m_law_clock : List D → List D → Option (D × List D) := runB false 8 g_law_clock
def g_cells : Sv :=
  (sSeq (sSet 2 (eCall 2 m_common_bottom (aC (eV 0) (aC (eV 1) aN)))) (sSeq (sSetO 3 eKd0) (sSeq (sFor (.nm 4) (iAny (eIx (eB 0) (eC (.int 0)))) (sFor (.nm 5) (iRange1 (aC (eBin dAdd (eBin dMul (eB 1) (eUn dAbs (eB 4))) (eC (.int 1))) aN)) (sKPut 3 (eC (.bl true)) (eBin dDiv (eBin dMul (eB 5) (eB 2)) (eBin dMul (eB 1) (eUn dAbs (eB 4))))))) (sSeq (sSet 6 (eUnF sortKI (eB 3))) (sRet (eComp (.tup [(.nm 7), (.nm 8)]) (iZip (aC (eV 6) (aC (eSl (eB 6) (oE (eC (.int 1))) oN) aN))) cYes (eTup (aC (eV 7) (aC (eV 8) (aC (eCall 4 m_view_at (aC (eV 0) (aC (eV 1) (aC (eBin dAdd (eB 7) (eB 8)) (aC (eBin dMul (eC (.int 2)) (eB 2)) aN))))) aN)))) [7, 8]))))))
def m_cells : List D → List D → Option (D × List D) := runB false 9 g_cells
def g_length_of : Sv :=
  (sRet (eIf (cV (eBin dEq (eB 0) (eB 1))) (eC k_DAY) (eCall 2 m_part (aC (eV 0) (aC (eV 1) aN)))))
def m_length_of : List D → List D → Option (D × List D) := runB false 2 g_length_of
def g_law_dotted : Sv :=
  (sSeq (sSet 1 (eCall 2 m_law_clock (aC (eV 0) (aC (eC (.int 6)) aN)))) (sSeq (sPar 2 3 (eBin dMul (eIx (eB 1) (eC (.int 2))) (eBin dAdd (eC (.int 1)) (eCall 2 m_law_draw (aC (eV 0) (aC (eC (.int 3)) aN))))) (eC (.int 1))) (sSeq (sFor (.nm 4) (iAny (eIx (eB 1) (eC (.int 0)))) (sSet 3 (eBin dMul (eBin dDiv (eB 3) (eCall 2 m_law_gcd (aC (eV 3) (aC (eV 4) aN)))) (eUn dAbs (eB 4))))) (sSeq (sIf (cV (eBin dGt (eBin dMul (eB 3) (eB 2)) (eC (.int 400)))) (sPar3 1 2 3 (eTup (aC (eTup (aC (eC (.int 1)) (aC (eC (.int 3)) aN))) (aC (eC (.str "aa")) (aC (eC (.int 1)) aN)))) (eBin dAdd (eC (.int 1)) (eCall 2 m_law_draw (aC (eV 0) (aC (eC (.int 9)) aN)))) (eC (.int 3))) sNil) (sRet (eTup (aC (eV 1) (aC (eV 2) (aC (eBin dMul (eB 3) (eB 2)) aN)))))))))
def m_law_dotted : List D → List D → Option (D × List D) := runB false 5 g_law_dotted
def g_law_dots : Sv :=
  (sSeq (sSetO 4 (eLst aN)) (sSeq (sFor (.nm 5) (iRange1 (aC (eIx (eB 0) (eC (.int 2))) aN)) (sSeq (sSetO 6 (eLst aN)) (sSeq (sFor (.tup [(.nm 7), (.nm 8)]) (iZip (aC (eIx (eB 0) (eC (.int 1))) (aC (eIx (eB 0) (eC (.int 0))) aN))) (sSeq (sSet 9 (eCall 2 m_law_part (aC (eBin dMul (eB 8) (eB 2)) (aC (eV 3) aN)))) (sSeq (sSet 10 (eBin dDiv (eBin dMul (eIx (eB 9) (eC (.int 0))) (eB 1)) (eIx (eB 9) (eC (.int 1))))) (sApp 6 (eTup (aC (eV 7) (aC (eBin dMod (eUn dInt (eBin dAdd (eB 10) (eBin dDiv (eBin dMul (eB 5) (eB 1)) (eIx (eB 0) (eC (.int 2)))))) (eB 1)) aN))))))) (sApp 4 (eUn dStr (eUnF sortD (eB 6))))))) (sRet (eUn dMinD (eB 4)))))
def m_law_dots : List D → List D → Option (D × List D) := runB false 11 g_law_dots
def g_stretches : Sv :=
  (sSeq (sSetO 2 (eLst aN)) (sSeq (sFor (.tup [(.nm 3), (.nm 4), (.nm 5)]) (iAny (eCall 2 m_cells (aC (eV 0) (aC (eV 1) aN)))) (sIf (cAnd (cV (eBin dNe (eB 2) (eLst aN))) (cV (eBin dEq (eIx (eIx (eB 2) (eUn dNeg (eC (.int 1)))) (eC (.int 2))) (eB 5)))) (sIxO 2 (eTup (aC (eIx (eIx (eB 2) (eUn dNeg (eC (.int 1)))) (eC (.int 0))) (aC (eBin dSub (eBin dAdd (eIx (eIx (eB 2) (eUn dNeg (eC (.int 1)))) (eC (.int 1))) (eB 4)) (eB 3)) (aC (eV 5) aN)))) (eUn dNeg (eC (.int 1)))) (sApp 2 (eTup (aC (eV 3) (aC (eBin dSub (eB 4) (eB 3)) (aC (eV 5) aN))))))) (sSeq (sIf (cAnd (cV (eBin dGt (eUn dLen (eB 2)) (eC (.int 1)))) (cV (eBin dEq (eIx (eIx (eB 2) (eC (.int 0))) (eC (.int 2))) (eIx (eIx (eB 2) (eUn dNeg (eC (.int 1)))) (eC (.int 2)))))) (sRet (eLst (aS (eSl (eB 2) (oE (eC (.int 1))) (oE (eUn dNeg (eC (.int 1))))) (aC (eTup (aC (eIx (eIx (eB 2) (eUn dNeg (eC (.int 1)))) (eC (.int 0))) (aC (eBin dAdd (eIx (eIx (eB 2) (eUn dNeg (eC (.int 1)))) (eC (.int 1))) (eIx (eIx (eB 2) (eC (.int 0))) (eC (.int 1)))) (aC (eIx (eIx (eB 2) (eC (.int 0))) (eC (.int 2))) aN)))) aN)))) sNil) (sRetO 2))))
def m_stretches : List D → List D → Option (D × List D) := runB false 6 g_stretches
def g_law_stretches : Sv :=
  (sSeq (sSet 3 (eComp (.nm 6) (iRange1 (aC (eV 2) aN)) cYes (eCall 4 m_law_dots (aC (eV 0) (aC (eV 1) (aC (eBin dAdd (eBin dMul (eC (.int 2)) (eB 6)) (eC (.int 1))) (aC (eBin dMul (eC (.int 2)) (eB 2)) aN))))) [6])) (sSeq (sSet 4 (eComp (.nm 6) (iRange1 (aC (eV 2) aN)) (cV (eBin dNe (eIx (eB 3) (eB 6)) (eIx (eB 3) (eBin dSub (eB 6) (eC (.int 1)))))) (eV 6) [6])) (sSeq (sIf (cV (eBin dEq (eB 4) (eLst aN))) (sRet (eLst (aC (eTup (aC (eC (.int 0)) (aC (eV 2) (aC (eIx (eB 3) (eC (.int 0))) aN)))) aN))) sNil) (sSeq (sSet 5 (eBin dAdd (eSl (eB 4) (oE (eC (.int 1))) oN) (eLst (aC (eBin dAdd (eIx (eB 4) (eC (.int 0))) (eB 2)) aN)))) (sRet (eComp (.tup [(.nm 7), (.nm 8)]) (iZip (aC (eV 4) (aC (eV 5) aN))) cYes (eTup (aC (eV 7) (aC (eBin dSub (eB 8) (eB 7)) (aC (eIx (eB 3) (eB 7)) aN)))) [7, 8]))))))
def m_law_stretches : List D → List D → Option (D × List D) := runB false 9 g_law_stretches
def g_count_stretches : Sv :=
  (sRet (eUn dLen (eCall 2 m_stretches (aC (eV 0) (aC (eV 1) aN)))))
def m_count_stretches : List D → List D → Option (D × List D) := runB false 2 g_count_stretches
def g_views_of : Sv :=
  (sSeq (sSetO 2 eDct0) (sSeq (sFor (.tup [(.nm 3), (.nm 4), (.nm 5)]) (iAny (eCall 2 m_stretches (aC (eV 0) (aC (eV 1) aN)))) (sDPut 2 (eLst (aS (eDGet (eB 2) (eUn dTup (eB 5)) (eLst aN)) (aC (eTup (aC (eV 3) (aC (eV 4) aN))) aN))) (eUn dTup (eB 5)))) (sRetO 2)))
def m_views_of : List D → List D → Option (D × List D) := runB false 6 g_views_of
def g_longest_stretch : Sv :=
  (sRet (eCall 2 m_length_of (aC (eUn dMaxS (eComp (.tup [(.nm 2), (.nm 3), (.nm 4)]) (iAny (eCall 2 m_stretches (aC (eV 0) (aC (eV 1) aN)))) cYes (eV 3) [2, 3, 4])) (aC (eCall 2 m_common_bottom (aC (eV 0) (aC (eV 1) aN))) aN))))
def m_longest_stretch : List D → List D → Option (D × List D) := runB false 5 g_longest_stretch
def g_count_views : Sv :=
  (sRet (eUn dLenK (eCall 2 m_views_of (aC (eV 0) (aC (eV 1) aN)))))
def m_count_views : List D → List D → Option (D × List D) := runB false 2 g_count_views
def g_law_like (m : List D → List D → Option (D × List D)) : Sv :=
  (sSeq (sIf (cV (eUn (dIs isLT) (eB 0))) (sSeq (sIf (cOr (cV (eBin dNe (eUn (dIs isL) (eB 0)) (eUn (dIs isL) (eB 1)))) (cV (eBin dNe (eUn (dIs isTp) (eB 0)) (eUn (dIs isTp) (eB 1))))) (sRet (eC (.bl false))) sNil) (sSeq (sIf (cV (eBin dNe (eUn dLen (eB 0)) (eUn dLen (eB 1)))) (sRet (eC (.bl false))) sNil) (sRet (eBin dEq (eComp (.nm 2) (iRange1 (aC (eUn dLen (eB 0)) aN)) (cNot (cV (eCall 2 m (aC (eIx (eB 0) (eB 2)) (aC (eIx (eB 1) (eB 2)) aN))))) (eV 2) [2]) (eLst aN))))) sNil) (sSeq (sIf (cV (eUn (dIs isLT) (eB 1))) (sRet (eC (.bl false))) sNil) (sRet (eAnd (eBin dEq (eUn (dIs isBo) (eB 0)) (eUn (dIs isBo) (eB 1))) (eBin dEq (eB 0) (eB 1))))))
def m_law_like : Nat → List D → List D → Option (D × List D)
  | 0 => fun _ _ => none
  | n + 1 => runB false 3 (g_law_like (m_law_like n))
def g_law : Sv :=
  (sCell 1 (eLst (aC (eUnF lOf (eB 0)) (aC (eC (.int 0)) (aC (eC (.int 0)) aN)))) (sSeq (sFor (.nm 2) (iRange1 (aC (eC (.int 4)) aN)) (sSeq (sAsg (.tup [(.nm 3), (.nm 4), (.nm 5)]) (eCall 1 m_law_dotted (aC (eV 1) aN))) (sSeq (sSet 6 (eCall 3 m_law_stretches (aC (eV 3) (aC (eV 4) (aC (eV 5) aN))))) (sSeq (sSet 7 (eUnF sortSetT (eComp (.tup [(.nm 9), (.nm 10), (.nm 11)]) (iAny (eV 6)) cYes (eV 11) [9, 10, 11]))) (sSeq (sIf (cNot (cV (eCall 2 (m_law_like 8) (aC (eCall 2 m_count_stretches (aC (eV 3) (aC (eV 4) aN))) (aC (eUn dLen (eB 6)) aN))))) (sRet (eC (.bl false))) sNil) (sSeq (sIf (cNot (cV (eCall 2 (m_law_like 8) (aC (eCall 2 m_count_views (aC (eV 3) (aC (eV 4) aN))) (aC (eUn dLen (eB 7)) aN))))) (sRet (eC (.bl false))) sNil) (sSeq (sSet 8 (eUn dMaxS (eComp (.tup [(.nm 9), (.nm 10), (.nm 11)]) (iAny (eV 6)) cYes (eV 10) [9, 10, 11]))) (sIf (cNot (cV (eCall 2 (m_law_like 8) (aC (eCall 2 m_longest_stretch (aC (eV 3) (aC (eV 4) aN))) (aC (eIf (cV (eBin dEq (eB 8) (eB 5))) (eTup (aC (eC (.int 1)) (aC (eC (.int 1)) aN))) (eCall 2 m_law_part (aC (eV 8) (aC (eV 5) aN)))) aN))))) (sRet (eC (.bl false))) sNil)))))))) (sRet (eAnd (eBin dEq (eCall 2 m_count_stretches (aC (eTup (aC (eTup (aC (eC (.int 1)) (aC (eC (.int 3)) aN))) (aC (eC (.str "aa")) (aC (eC (.int 1)) aN)))) (aC (eC (.int 2)) aN))) (eC (.int 6))) (eBin dEq (eCall 2 m_count_views (aC (eTup (aC (eTup (aC (eC (.int 1)) (aC (eC (.int 3)) aN))) (aC (eC (.str "aa")) (aC (eC (.int 1)) aN)))) (aC (eC (.int 2)) aN))) (eC (.int 3)))))))
def m_law : List D → List D → Option (D × List D) := runB false 12 g_law
section
variable {P : Program} {w : World} {K : PySem.W.Frag} {mg : Str → Option Value} {base : Heap}
abbrev s_divisor : Stmt := topS 1
theorem sc_divisor : FnScope ["one", "other", "first", "second"] ["one", "other"] (defScope s_divisor) := ⟨rfl, rfl, rfl, by decide +kernel, rfl, by decide +kernel, by decide +kernel⟩
theorem ok_divisor {f : Addr} {fd : FuncData} (F : FnP K "divisor" s_divisor f fd) (hg : mg "divisor" = some (.ref f)) (z_abs : mg "abs" = none) : FnM P w K mg base 1 "divisor" f fd ["one", "other"] false m_divisor := by
  have nd := sc_divisor.nd
  refine def_ok (k := 0) F sc_divisor hg (F.bindsN (ps := ["one", "other"]) fun _ _ _ _ _ _ us hl => match us, hl with | [_, _], _ => rfl) (fun _ _ _ => rfl) (fun cdv A outer s H E hr => ?_)
  exact (mss_cons (ms_par (i := 2) (j := 3) rfl nd rfl rfl (by decide) rfl rfl (me_b1 cd_abs (by rfl) z_abs boot_abs (me_bv 0)) (me_b1 cd_abs (by rfl) z_abs boot_abs (me_bv 1)) (by rfl)) (mss_cons (ms_while PassesOwn.never (mt_cmp od_gt (me_bv 3) (me_b me_int) (nomark _)) (mss_one (ms_par (i := 2) (j := 3) rfl nd rfl rfl (by decide) rfl rfl (me_v 3) (me_bin od_mod (me_bv 2) (me_bv 3)) (by rfl)))) (mss_one (ms_ret (me_v 2)))))
abbrev s_view_at : Stmt := topS 6
theorem sc_view_at : FnScope ["clock", "dots", "top", "bottom", "hands", "looks", "marks", "own", "rows", "step", "turns", "look", "dot"] ["clock", "dots", "top", "bottom"] (defScope s_view_at) := ⟨rfl, rfl, rfl, by decide +kernel, rfl, by decide +kernel, by decide +kernel⟩
theorem ok_view_at {f : Addr} {fd : FuncData} (F : FnP K "view_at" s_view_at f fd) (hg : mg "view_at" = some (.ref f)) (z_min : mg "min" = none) (z_range : mg "range" = none) (z_sorted : mg "sorted" = none) (z_zip : mg "zip" = none) : FnM P w K mg base 1 "view_at" f fd ["clock", "dots", "top", "bottom"] false m_view_at := by
  have nd := sc_view_at.nd
  refine def_ok (k := 0) F sc_view_at hg (F.bindsN (ps := ["clock", "dots", "top", "bottom"]) fun _ _ _ _ _ _ us hl => match us, hl with | [_, _, _, _], _ => rfl) (fun _ _ _ => rfl) (fun cdv A outer s H E hr => ?_)
  have hu := hu64 hr
  have hu5 := hu65 hr
  exact (mss_cons (ms_asg (p := (.tup [(.nm 4), (.nm 5), (.nm 6)])) (me_v 0) (mg_tup rfl (mgs_cons (mg_name (i := 4) nd rfl (by first | exact .inl rfl | exact .inr rfl)) (mgs_cons (mg_name (i := 5) nd rfl (by first | exact .inl rfl | exact .inr rfl)) (mgs_cons (mg_name (i := 6) nd rfl (by first | exact .inl rfl | exact .inr rfl)) mgs_nil))))) (mss_cons (ms_setC (i := 7) (own := [("turns", 10)]) (vs := [10]) (p := (.nm 10)) rfl nd rfl rfl (sw_true rfl rfl rfl (by decide +kernel)) (mi_any (me_v 4)) (blkOk_by (N := ["clock", "dots", "top", "bottom", "hands", "looks", "marks", "own", "rows", "step", "turns", "look", "dot"]) (sc := defScope s_view_at) (by decide +kernel)) (fun _ _ _ _ _ => (mg_name (i := 10) nd rfl (by first | exact .inl rfl | exact .inr rfl))) (fun _ _ _ _ _ => mts_nil) (fun _ _ _ _ _ => (me_bin od_mod (me_b (me_bin od_div (me_b (me_bin od_mul (me_b (me_bin od_mul (me_bv 10) (me_bv 2))) (me_bv 1))) (me_bv 3))) (me_bv 1)))) (mss_cons (ms_setO (i := 8) nd rfl (by first | exact .inl rfl | exact .inr rfl) (mf_lst ma_nil)) (mss_cons (ms_for (p := (.nm 9)) PassesOwn.never rfl (mi_range1 (by rfl) z_range (ma_cons (me_v 6) ma_nil)) (mg_name (i := 9) nd rfl (by first | exact .inl rfl | exact .inr rfl)) (mss_one (ms_app 8 (pv 8) (me_f (mf_b1 (cd_sortD hu5) (by rfl) z_sorted boot_sorted (me_b (me_f (mf_comp (own := [("look", 11), ("dot", 12)]) (vs := [11, 12]) (p := (.tup [(.nm 11), (.nm 12)])) rfl nd (mi_zip (by rfl) z_zip (ma_cons (me_v 5) (ma_cons (me_v 7) ma_nil))) (blkOk_by (N := ["clock", "dots", "top", "bottom", "hands", "looks", "marks", "own", "rows", "step", "turns", "look", "dot"]) (sc := defScope s_view_at) (by decide +kernel)) (fun _ _ _ _ _ => (mg_tup rfl (mgs_cons (mg_name (i := 11) nd rfl (by first | exact .inl rfl | exact .inr rfl)) (mgs_cons (mg_name (i := 12) nd rfl (by first | exact .inl rfl | exact .inr rfl)) mgs_nil)))) (fun _ _ _ _ _ => mts_nil) (fun _ _ _ _ _ => (me_tup (ma_cons (me_v 11) (ma_cons (me_bin od_mod (me_b (me_bin od_add (me_bv 12) (me_b (me_bin od_div (me_b (me_bin od_mul (me_bv 9) (me_bv 1))) (me_bv 6))))) (me_bv 1)) ma_nil)))))))))))) (mss_one (ms_ret (me_b1 (cd_minD rfl hu5) (by rfl) z_min boot_min (me_bv 8))))))))
abbrev s_law_draw : Stmt := topS 15
theorem sc_law_draw : FnScope ["_law_tape", "_law_many", "_law_prime", "_law_cell", "_law_found"] ["_law_tape", "_law_many"] (defScope s_law_draw) := ⟨rfl, rfl, rfl, by decide +kernel, rfl, by decide +kernel, by decide +kernel⟩
theorem ok_law_draw {f : Addr} {fd : FuncData} (F : FnP K "_law_draw" s_law_draw f fd) (hg : mg "_law_draw" = some (.ref f)) (z_int : mg "int" = none) (z_len : mg "len" = none) : FnM P w K mg base 1 "_law_draw" f fd ["_law_tape", "_law_many"] false m_law_draw := by
  have nd := sc_law_draw.nd
  refine def_ok (k := 0) F sc_law_draw hg (F.bindsN (ps := ["_law_tape", "_law_many"]) fun _ _ _ _ _ _ us hl => match us, hl with | [_, _], _ => rfl) (fun _ _ _ => rfl) (fun cdv A outer s H E hr => ?_)
  exact (mss_cons (ms_set (i := 2) nd rfl (by first | exact .inl rfl | exact .inr rfl) me_int) (mss_cons (ms_if (mt_cmp od_lt (me_b (me_ix (me_bv 0) (me_b me_int))) (me_bv 1) (nomark _)) (mss_cons (ms_set (i := 3) nd rfl (by first | exact .inl rfl | exact .inr rfl) me_int) (mss_cons (ms_if (mt_cmp od_gt (me_b (me_b1 cd_len (by rfl) z_len boot_len (me_b (me_ix (me_bv 0) (me_b me_int))))) (me_b me_int) (nomark _)) (mss_one (ms_set (i := 3) nd rfl (by first | exact .inl rfl | exact .inr rfl) (me_ix (me_b (me_ix (me_bv 0) (me_b me_int))) (me_b (me_bin od_mod (me_b (me_t1 cd_int (by rfl) z_int boot_int (me_b (me_ix (me_bv 0) (me_b me_int))))) (me_b (me_b1 cd_len (by rfl) z_len boot_len (me_b (me_ix (me_bv 0) (me_b me_int)))))))))) mss_nil) (mss_cons (ms_if (PW.pt (mw_or (mt_cmp od_ge (me_b (me_ix (me_bv 0) (me_b me_int))) (me_b (me_b1 cd_len (by rfl) z_len boot_len (me_b (me_ix (me_bv 0) (me_b me_int))))) (nomark _)) (mw_or1 (mt_cmp od_lt (me_bv 3) (me_b (me_bin od_pow (me_b me_int) (me_b me_int))) (nomark _))))) (mss_cons (ms_set (i := 3) nd rfl (by first | exact .inl rfl | exact .inr rfl) (me_bin od_mod (me_b (me_t1 cd_int (by rfl) z_int boot_int (me_b (me_bin od_add (me_bv 3) (me_b (me_bin od_mul (me_b me_int) (me_b (me_ix (me_bv 0) (me_b me_int))))))))) (me_bv 2))) (mss_cons (ms_set (i := 3) nd rfl (by first | exact .inl rfl | exact .inr rfl) (me_bin od_mod (me_b (me_t1 cd_int (by rfl) z_int boot_int (me_b (me_bin od_add (me_b (me_bin od_add (me_b (me_bin od_mul (me_bv 3) (me_bv 3))) (me_b (me_bin od_mul (me_b me_int) (me_bv 3))))) (me_b me_int))))) (me_bv 2))) (mss_one (ms_set (i := 3) nd rfl (by first | exact .inl rfl | exact .inr rfl) (me_bin od_mod (me_b (me_t1 cd_int (by rfl) z_int boot_int (me_b (me_bin od_add (me_b (me_bin od_mul (me_bv 3) (me_bv 3))) (me_b me_int))))) (me_bv 2)))))) mss_nil) (mss_cons (ms_ixC (me_v 0) me_int (me_bin od_add (me_b (me_ix (me_bv 0) (me_b me_int))) (me_b me_int))) (mss_one (ms_ixC (me_v 0) me_int (me_v 3))))))) mss_nil) (mss_cons (ms_set (i := 4) nd rfl (by first | exact .inl rfl | exact .inr rfl) (me_bin od_mod (me_b (me_t1 cd_int (by rfl) z_int boot_int (me_b (me_ix (me_bv 0) (me_b me_int))))) (me_bv 1))) (mss_cons (ms_ixC (me_v 0) me_int (me_bin od_div (me_b (me_ix (me_bv 0) (me_b me_int))) (me_bv 1))) (mss_one (ms_ret (me_v 4)))))))
abbrev s_law_gcd : Stmt := topS 17
theorem sc_law_gcd : FnScope ["_law_one", "_law_other", "_law_first", "_law_second"] ["_law_one", "_law_other"] (defScope s_law_gcd) := ⟨rfl, rfl, rfl, by decide +kernel, rfl, by decide +kernel, by decide +kernel⟩
theorem ok_law_gcd {f : Addr} {fd : FuncData} (F : FnP K "_law_gcd" s_law_gcd f fd) (hg : mg "_law_gcd" = some (.ref f)) (z_abs : mg "abs" = none) (z_int : mg "int" = none) : FnM P w K mg base 1 "_law_gcd" f fd ["_law_one", "_law_other"] false m_law_gcd := by
  have nd := sc_law_gcd.nd
  refine def_ok (k := 0) F sc_law_gcd hg (F.bindsN (ps := ["_law_one", "_law_other"]) fun _ _ _ _ _ _ us hl => match us, hl with | [_, _], _ => rfl) (fun _ _ _ => rfl) (fun cdv A outer s H E hr => ?_)
  exact (mss_cons (ms_par (i := 2) (j := 3) rfl nd rfl rfl (by decide) rfl rfl (me_b1 cd_abs (by rfl) z_abs boot_abs (me_bv 0)) (me_b1 cd_abs (by rfl) z_abs boot_abs (me_bv 1)) (by rfl)) (mss_cons (ms_while PassesOwn.never (mt_cmp od_gt (me_bv 3) (me_b me_int) (nomark _)) (mss_one (ms_par (i := 2) (j := 3) rfl nd rfl rfl (by decide) rfl rfl (me_v 3) (me_bin od_mod (me_b (me_t1 cd_int (by rfl) z_int boot_int (me_bv 2))) (me_bv 3)) (by rfl)))) (mss_one (ms_ret (me_v 2)))))
abbrev s_part : Stmt := topS 2
theorem sc_part : FnScope ["top", "bottom", "least"] ["top", "bottom"] (defScope s_part) := ⟨rfl, rfl, rfl, by decide +kernel, rfl, by decide +kernel, by decide +kernel⟩
theorem ok_part {f : Addr} {fd : FuncData} (F : FnP K "part" s_part f fd) (hg : mg "part" = some (.ref f)) {f_divisor : Addr} {fd_divisor : FuncData} (F_divisor : FnM P w K mg base 1 "divisor" f_divisor fd_divisor ["one", "other"] false m_divisor) : FnM P w K mg base 2 "part" f fd ["top", "bottom"] false m_part := by
  have nd := sc_part.nd
  refine def_ok (k := 1) F sc_part hg (F.bindsN (ps := ["top", "bottom"]) fun _ _ _ _ _ _ us hl => match us, hl with | [_, _], _ => rfl) (fun _ _ _ => rfl) (fun cdv A outer s H E hr => ?_)
  exact (mss_cons (ms_set (i := 2) nd rfl (by first | exact .inl rfl | exact .inr rfl) (me_call F_divisor (hr.mono (by decide)) (by rfl) (ma_cons (me_bin od_mod (me_bv 0) (me_bv 1)) (ma_cons (me_v 1) ma_nil)))) (mss_one (ms_ret (me_tup (ma_cons (me_bin od_div (me_b (me_bin od_mod (me_bv 0) (me_bv 1))) (me_bv 2)) (ma_cons (me_bin od_div (me_bv 1) (me_bv 2)) ma_nil))))))
abbrev s_common_bottom : Stmt := topS 5
theorem sc_common_bottom : FnScope ["clock", "dots", "found", "turns"] ["clock", "dots"] (defScope s_common_bottom) := ⟨rfl, rfl, rfl, by decide +kernel, rfl, by decide +kernel, by decide +kernel⟩
theorem ok_common_bottom {f : Addr} {fd : FuncData} (F : FnP K "common_bottom" s_common_bottom f fd) (hg : mg "common_bottom" = some (.ref f)) {f_divisor : Addr} {fd_divisor : FuncData} (F_divisor : FnM P w K mg base 1 "divisor" f_divisor fd_divisor ["one", "other"] false m_divisor) (z_abs : mg "abs" = none) : FnM P w K mg base 2 "common_bottom" f fd ["clock", "dots"] false m_common_bottom := by
  have nd := sc_common_bottom.nd
  refine def_ok (k := 1) F sc_common_bottom hg (F.bindsN (ps := ["clock", "dots"]) fun _ _ _ _ _ _ us hl => match us, hl with | [_, _], _ => rfl) (fun _ _ _ => rfl) (fun cdv A outer s H E hr => ?_)
  exact (mss_cons (ms_set (i := 2) nd rfl (by first | exact .inl rfl | exact .inr rfl) me_int) (mss_cons (ms_for (p := (.nm 3)) PassesOwn.never rfl (mi_any (me_ix (me_bv 0) (me_b me_int))) (mg_name (i := 3) nd rfl (by first | exact .inl rfl | exact .inr rfl)) (mss_one (ms_set (i := 2) nd rfl (by first | exact .inl rfl | exact .inr rfl) (me_bin od_mul (me_b (me_bin od_div (me_bv 2) (me_b (me_call F_divisor (hr.mono (by decide)) (by rfl) (ma_cons (me_v 2) (ma_cons (me_v 3) ma_nil)))))) (me_b (me_b1 cd_abs (by rfl) z_abs boot_abs (me_bv 3))))))) (mss_one (ms_ret (me_bin od_mul (me_bv 2) (me_bv 1))))))
abbrev s_law_part : Stmt := topS 18
theorem sc_law_part : FnScope ["_law_top", "_law_bottom", "_law_rest", "_law_my_divisor"] ["_law_top", "_law_bottom"] (defScope s_law_part) := ⟨rfl, rfl, rfl, by decide +kernel, rfl, by decide +kernel, by decide +kernel⟩
theorem ok_law_part {f : Addr} {fd : FuncData} (F : FnP K "_law_part" s_law_part f fd) (hg : mg "_law_part" = some (.ref f)) {f_law_gcd : Addr} {fd_law_gcd : FuncData} (F_law_gcd : FnM P w K mg base 1 "_law_gcd" f_law_gcd fd_law_gcd ["_law_one", "_law_other"] false m_law_gcd) (z_int : mg "int" = none) : FnM P w K mg base 2 "_law_part" f fd ["_law_top", "_law_bottom"] false m_law_part := by
  have nd := sc_law_part.nd
  refine def_ok (k := 1) F sc_law_part hg (F.bindsN (ps := ["_law_top", "_law_bottom"]) fun _ _ _ _ _ _ us hl => match us, hl with | [_, _], _ => rfl) (fun _ _ _ => rfl) (fun cdv A outer s H E hr => ?_)
  exact (mss_cons (ms_set (i := 2) nd rfl (by first | exact .inl rfl | exact .inr rfl) (me_bin od_mod (me_b (me_t1 cd_int (by rfl) z_int boot_int (me_bv 0))) (me_bv 1))) (mss_cons (ms_set (i := 3) nd rfl (by first | exact .inl rfl | exact .inr rfl) (me_call F_law_gcd (hr.mono (by decide)) (by rfl) (ma_cons (me_v 2) (ma_cons (me_v 1) ma_nil)))) (mss_one (ms_ret (me_tup (ma_cons (me_bin od_div (me_bv 2) (me_bv 3)) (ma_cons (me_bin od_div (me_bv 1) (me_bv 3)) ma_nil)))))))
abbrev s_law_clock : Stmt := topS 19
theorem sc_law_clock : FnScope ["_law_tape", "_law_most", "_law_many", "_law_hands", "_law_at", "_law_turns", "_law_my_divisor", "_law_looks"] ["_law_tape", "_law_most"] (defScope s_law_clock) := ⟨rfl, rfl, rfl, by decide +kernel, rfl, by decide +kernel, by decide +kernel⟩
theorem ok_law_clock {f : Addr} {fd : FuncData} (F : FnP K "_law_clock" s_law_clock f fd) (hg : mg "_law_clock" = some (.ref f)) {f_law_draw : Addr} {fd_law_draw : FuncData} (F_law_draw : FnM P w K mg base 1 "_law_draw" f_law_draw fd_law_draw ["_law_tape", "_law_many"] false m_law_draw) {f_law_gcd : Addr} {fd_law_gcd : FuncData} (F_law_gcd : FnM P w K mg base 1 "_law_gcd" f_law_gcd fd_law_gcd ["_law_one", "_law_other"] false m_law_gcd) (z_range : mg "range" = none) (z_tuple : mg "tuple" = none) : FnM P w K mg base 2 "_law_clock" f fd ["_law_tape", "_law_most"] false m_law_clock := by
  have nd := sc_law_clock.nd
  refine def_ok (k := 1) F sc_law_clock hg (F.bindsN (ps := ["_law_tape", "_law_most"]) fun _ _ _ _ _ _ us hl => match us, hl with | [_, _], _ => rfl) (fun _ _ _ => rfl) (fun cdv A outer s H E hr => ?_)
  have hu := hu64 hr
  have hu5 := hu65 hr
  exact (mss_cons (ms_set (i := 2) nd rfl (by first | exact .inl rfl | exact .inr rfl) (me_ix (me_b (me_f (mf_lst (ma_cons me_int (ma_cons me_int (ma_cons me_int (ma_cons me_int (ma_cons me_int ma_nil)))))))) (me_b (me_call F_law_draw (hr.mono (by decide)) (by rfl) (ma_cons (me_v 0) (ma_cons me_int ma_nil)))))) (mss_cons (ms_set (i := 3) nd rfl (by first | exact .inl rfl | exact .inr rfl) (me_tup ma_nil)) (mss_cons (ms_for (p := (.nm 4)) PassesOwn.never rfl (mi_range1 (by rfl) z_range (ma_cons (me_v 2) ma_nil)) (mg_name (i := 4) nd rfl (by first | exact .inl rfl | exact .inr rfl)) (mss_cons (ms_set (i := 5) nd rfl (by first | exact .inl rfl | exact .inr rfl) (me_bin od_add (me_b me_int) (me_b (me_call F_law_draw (hr.mono (by decide)) (by rfl) (ma_cons (me_v 0) (ma_cons (me_v 1) ma_nil)))))) (mss_one (ms_set (i := 3) nd rfl (by first | exact .inl rfl | exact .inr rfl) (me_bin od_add (me_bv 3) (me_b (me_tup (ma_cons (me_if (mt_cmp (od_eq hu) (me_b (me_call F_law_draw (hr.mono (by decide)) (by rfl) (ma_cons (me_v 0) (ma_cons me_int ma_nil)))) (me_b me_int) (nomark _)) (me_un ud_neg (me_bv 5)) (me_v 5)) ma_nil)))))))) (mss_cons (ms_set (i := 6) nd rfl (by first | exact .inl rfl | exact .inr rfl) me_int) (mss_cons (ms_for (p := (.nm 5)) PassesOwn.never rfl (mi_any (me_v 3)) (mg_name (i := 5) nd rfl (by first | exact .inl rfl | exact .inr rfl)) (mss_one (ms_set (i := 6) nd rfl (by first | exact .inl rfl | exact .inr rfl) (me_call F_law_gcd (hr.mono (by decide)) (by rfl) (ma_cons (me_v 6) (ma_cons (me_v 5) ma_nil)))))) (mss_cons (ms_set (i := 3) nd rfl (by first | exact .inl rfl | exact .inr rfl) (me_t1 cd_tuple (by rfl) z_tuple boot_tuple (me_b (me_f (mf_comp (own := [("_law_turns", 5)]) (vs := [5]) (p := (.nm 5)) rfl nd (mi_any (me_v 3)) (blkOk_by (N := ["_law_tape", "_law_most", "_law_many", "_law_hands", "_law_at", "_law_turns", "_law_my_divisor", "_law_looks"]) (sc := defScope s_law_clock) (by decide +kernel)) (fun _ _ _ _ _ => (mg_name (i := 5) nd rfl (by first | exact .inl rfl | exact .inr rfl))) (fun _ _ _ _ _ => mts_nil) (fun _ _ _ _ _ => (me_bin od_div (me_bv 5) (me_bv 6)))))))) (mss_cons (ms_set (i := 7) nd rfl (by first | exact .inl rfl | exact .inr rfl) (me_sl (me_b (me_ix (me_b (me_f (mf_lst (ma_cons me_str (ma_cons me_str (ma_cons me_str (ma_cons me_str (ma_cons me_str ma_nil)))))))) (me_b (me_call F_law_draw (hr.mono (by decide)) (by rfl) (ma_cons (me_v 0) (ma_cons me_int ma_nil)))))) mo_none (mo_some (me_v 2)))) (mss_cons (ms_set (i := 7) nd rfl (by first | exact .inl rfl | exact .inr rfl) (me_if (PW.pt (mw_and (mt_cmp od_lt (me_bv 2) (me_b me_int) (nomark _)) (mw_and1 (mt_cmp od_gt (me_b (me_call F_law_draw (hr.mono (by decide)) (by rfl) (ma_cons (me_v 0) (ma_cons me_int ma_nil)))) (me_b me_int) (nomark _))))) (me_sl (me_b me_str) mo_none (mo_some (me_v 2))) (me_v 7))) (mss_one (ms_ret (me_tup (ma_cons (me_v 3) (ma_cons (me_v 7) (ma_cons (me_ix (me_b (me_f (mf_lst (ma_cons me_int (ma_cons me_int (ma_cons me_int (ma_cons me_int (ma_cons me_int (ma_cons me_int ma_nil))))))))) (me_b (me_call F_law_draw (hr.mono (by decide)) (by rfl) (ma_cons (me_v 0) (ma_cons me_int ma_nil))))) ma_nil))))))))))))))
abbrev s_cells : Stmt := topS 7
theorem sc_cells : FnScope ["clock", "dots", "bottom", "edges", "turns", "number", "some", "one", "end"] ["clock", "dots"] (defScope s_cells) := ⟨rfl, rfl, rfl, by decide +kernel, rfl, by decide +kernel, by decide +kernel⟩
theorem ok_cells {f : Addr} {fd : FuncData} (F : FnP K "cells" s_cells f fd) (hg : mg "cells" = some (.ref f)) {f_common_bottom : Addr} {fd_common_bottom : FuncData} (F_common_bottom : FnM P w K mg base 2 "common_bottom" f_common_bottom fd_common_bottom ["clock", "dots"] false m_common_bottom) {f_view_at : Addr} {fd_view_at : FuncData} (F_view_at : FnM P w K mg base 1 "view_at" f_view_at fd_view_at ["clock", "dots", "top", "bottom"] false m_view_at) (z_abs : mg "abs" = none) (z_range : mg "range" = none) (z_sorted : mg "sorted" = none) (z_zip : mg "zip" = none) : FnM P w K mg base 3 "cells" f fd ["clock", "dots"] false m_cells := by
  have nd := sc_cells.nd
  refine def_ok (k := 2) F sc_cells hg (F.bindsN (ps := ["clock", "dots"]) fun _ _ _ _ _ _ us hl => match us, hl with | [_, _], _ => rfl) (fun _ _ _ => rfl) (fun cdv A outer s H E hr => ?_)
  exact (mss_cons (ms_set (i := 2) nd rfl (by first | exact .inl rfl | exact .inr rfl) (me_call F_common_bottom (hr.mono (by decide)) (by rfl) (ma_cons (me_v 0) (ma_cons (me_v 1) ma_nil)))) (mss_cons (ms_setO (i := 3) nd rfl (by first | exact .inl rfl | exact .inr rfl) mf_kd0) (mss_cons (ms_for (p := (.nm 4)) PassesOwn.never rfl (mi_any (me_ix (me_bv 0) (me_b me_int))) (mg_name (i := 4) nd rfl (by first | exact .inl rfl | exact .inr rfl)) (mss_one (ms_for (p := (.nm 5)) PassesOwn.never rfl (mi_range1 (by rfl) z_range (ma_cons (me_bin od_add (me_b (me_bin od_mul (me_bv 1) (me_b (me_b1 cd_abs (by rfl) z_abs boot_abs (me_bv 4))))) (me_b me_int)) ma_nil)) (mg_name (i := 5) nd rfl (by first | exact .inl rfl | exact .inr rfl)) (mss_one (ms_kput 3 (pv 3) (me_bin od_div (me_b (me_bin od_mul (me_bv 5) (me_bv 2))) (me_b (me_bin od_mul (me_bv 1) (me_b (me_b1 cd_abs (by rfl) z_abs boot_abs (me_bv 4)))))) me_bl))))) (mss_cons (ms_set (i := 6) nd rfl (by first | exact .inl rfl | exact .inr rfl) (me_f (mf_b1 (cd_sortKI rfl) (by rfl) z_sorted boot_sorted (me_bv 3)))) (mss_one (ms_ret (me_f (mf_comp (own := [("one", 7), ("end", 8)]) (vs := [7, 8]) (p := (.tup [(.nm 7), (.nm 8)])) rfl nd (mi_zip (by rfl) z_zip (ma_cons (me_v 6) (ma_cons (me_sl (me_bv 6) (mo_some me_int) mo_none) ma_nil))) (blkOk_by (N := ["clock", "dots", "bottom", "edges", "turns", "number", "some", "one", "end"]) (sc := defScope s_cells) (by decide +kernel)) (fun _ _ _ _ _ => (mg_tup rfl (mgs_cons (mg_name (i := 7) nd rfl (by first | exact .inl rfl | exact .inr rfl)) (mgs_cons (mg_name (i := 8) nd rfl (by first | exact .inl rfl | exact .inr rfl)) mgs_nil)))) (fun _ _ _ _ _ => mts_nil) (fun _ _ _ _ _ => (me_tup (ma_cons (me_v 7) (ma_cons (me_v 8) (ma_cons (me_call F_view_at (hr.mono (by decide)) (by rfl) (ma_cons (me_v 0) (ma_cons (me_v 1) (ma_cons (me_bin od_add (me_bv 7) (me_bv 8)) (ma_cons (me_bin od_mul (me_b me_int) (me_bv 2)) ma_nil))))) ma_nil)))))))))))))
abbrev s_length_of : Stmt := topS 9
theorem sc_length_of : FnScope ["top", "bottom"] ["top", "bottom"] (defScope s_length_of) := ⟨rfl, rfl, rfl, by decide +kernel, rfl, by decide +kernel, by decide +kernel⟩
theorem ok_length_of {f : Addr} {fd : FuncData} (F : FnP K "length_of" s_length_of f fd) (hg : mg "length_of" = some (.ref f)) {f_part : Addr} {fd_part : FuncData} (F_part : FnM P w K mg base 2 "part" f_part fd_part ["top", "bottom"] false m_part) (c_DAY : KC K mg "DAY" k_DAY) : FnM P w K mg base 3 "length_of" f fd ["top", "bottom"] false m_length_of := by
  have nd := sc_length_of.nd
  refine def_ok (k := 2) F sc_length_of hg (F.bindsN (ps := ["top", "bottom"]) fun _ _ _ _ _ _ us hl => match us, hl with | [_, _], _ => rfl) (fun _ _ _ => rfl) (fun cdv A outer s H E hr => ?_)
  have hu := hu64 hr
  have hu5 := hu65 hr
  exact (mss_one (ms_ret (me_if (mt_cmp (od_eq hu) (me_bv 0) (me_bv 1) (nomark _)) (me_glob (by rfl) c_DAY.mg c_DAY.rv c_DAY.kd) (me_call F_part (hr.mono (by decide)) (by rfl) (ma_cons (me_v 0) (ma_cons (me_v 1) ma_nil))))))
abbrev s_law_dotted : Stmt := topS 20
theorem sc_law_dotted : FnScope ["_law_tape", "_law_clock_here", "_law_dots_here", "_law_bottom", "_law_turns"] ["_law_tape"] (defScope s_law_dotted) := ⟨rfl, rfl, rfl, by decide +kernel, rfl, by decide +kernel, by decide +kernel⟩
theorem ok_law_dotted {f : Addr} {fd : FuncData} (F : FnP K "_law_dotted" s_law_dotted f fd) (hg : mg "_law_dotted" = some (.ref f)) {f_law_clock : Addr} {fd_law_clock : FuncData} (F_law_clock : FnM P w K mg base 2 "_law_clock" f_law_clock fd_law_clock ["_law_tape", "_law_most"] false m_law_clock) {f_law_draw : Addr} {fd_law_draw : FuncData} (F_law_draw : FnM P w K mg base 1 "_law_draw" f_law_draw fd_law_draw ["_law_tape", "_law_many"] false m_law_draw) {f_law_gcd : Addr} {fd_law_gcd : FuncData} (F_law_gcd : FnM P w K mg base 1 "_law_gcd" f_law_gcd fd_law_gcd ["_law_one", "_law_other"] false m_law_gcd) (z_abs : mg "abs" = none) : FnM P w K mg base 3 "_law_dotted" f fd ["_law_tape"] false m_law_dotted := by
  have nd := sc_law_dotted.nd
  refine def_ok (k := 2) F sc_law_dotted hg (F.bindsN (ps := ["_law_tape"]) fun _ _ _ _ _ _ us hl => match us, hl with | [_], _ => rfl) (fun _ _ _ => rfl) (fun cdv A outer s H E hr => ?_)
  exact (mss_cons (ms_set (i := 1) nd rfl (by first | exact .inl rfl | exact .inr rfl) (me_call F_law_clock (hr.mono (by decide)) (by rfl) (ma_cons (me_v 0) (ma_cons me_int ma_nil)))) (mss_cons (ms_par (i := 2) (j := 3) rfl nd rfl rfl (by decide) rfl rfl (me_bin od_mul (me_b (me_ix (me_bv 1) (me_b me_int))) (me_b (me_bin od_add (me_b me_int) (me_b (me_call F_law_draw (hr.mono (by decide)) (by rfl) (ma_cons (me_v 0) (ma_cons me_int ma_nil))))))) me_int (by rfl)) (mss_cons (ms_for (p := (.nm 4)) PassesOwn.never rfl (mi_any (me_ix (me_bv 1) (me_b me_int))) (mg_name (i := 4) nd rfl (by first | exact .inl rfl | exact .inr rfl)) (mss_one (ms_set (i := 3) nd rfl (by first | exact .inl rfl | exact .inr rfl) (me_bin od_mul (me_b (me_bin od_div (me_bv 3) (me_b (me_call F_law_gcd (hr.mono (by decide)) (by rfl) (ma_cons (me_v 3) (ma_cons (me_v 4) ma_nil)))))) (me_b (me_b1 cd_abs (by rfl) z_abs boot_abs (me_bv 4))))))) (mss_cons (ms_if (mt_cmp od_gt (me_b (me_bin od_mul (me_bv 3) (me_bv 2))) (me_b me_int) (nomark _)) (mss_one (ms_par3 (i := 1) (j := 2) (l := 3) rfl nd rfl rfl rfl (by decide) (by decide) (by decide) rfl rfl rfl (me_tup (ma_cons (me_tup (ma_cons me_int (ma_cons me_int ma_nil))) (ma_cons me_str (ma_cons me_int ma_nil)))) (me_bin od_add (me_b me_int) (me_b (me_call F_law_draw (hr.mono (by decide)) (by rfl) (ma_cons (me_v 0) (ma_cons me_int ma_nil))))) me_int (by rfl))) mss_nil) (mss_one (ms_ret (me_tup (ma_cons (me_v 1) (ma_cons (me_v 2) (ma_cons (me_bin od_mul (me_bv 3) (me_bv 2)) ma_nil))))))))))
abbrev s_law_dots : Stmt := topS 21
theorem sc_law_dots : FnScope ["_law_clock_here", "_law_dots_here", "_law_top", "_law_bottom", "_law_rows", "_law_step", "_law_row", "_law_look", "_law_turns", "_law_place", "_law_own"] ["_law_clock_here", "_law_dots_here", "_law_top", "_law_bottom"] (defScope s_law_dots) := ⟨rfl, rfl, rfl, by decide +kernel, rfl, by decide +kernel, by decide +kernel⟩
theorem ok_law_dots {f : Addr} {fd : FuncData} (F : FnP K "_law_dots" s_law_dots f fd) (hg : mg "_law_dots" = some (.ref f)) {f_law_part : Addr} {fd_law_part : FuncData} (F_law_part : FnM P w K mg base 2 "_law_part" f_law_part fd_law_part ["_law_top", "_law_bottom"] false m_law_part) (z_int : mg "int" = none) (z_min : mg "min" = none) (z_range : mg "range" = none) (z_sorted : mg "sorted" = none) (z_str : mg "str" = none) (z_zip : mg "zip" = none) : FnM P w K mg base 3 "_law_dots" f fd ["_law_clock_here", "_law_dots_here", "_law_top", "_law_bottom"] false m_law_dots := by
  have nd := sc_law_dots.nd
  refine def_ok (k := 2) F sc_law_dots hg (F.bindsN (ps := ["_law_clock_here", "_law_dots_here", "_law_top", "_law_bottom"]) fun _ _ _ _ _ _ us hl => match us, hl with | [_, _, _, _], _ => rfl) (fun _ _ _ => rfl) (fun cdv A outer s H E hr => ?_)
  have hu := hu64 hr
  have hu5 := hu65 hr
  exact (mss_cons (ms_setO (i := 4) nd rfl (by first | exact .inl rfl | exact .inr rfl) (mf_lst ma_nil)) (mss_cons (ms_for (p := (.nm 5)) PassesOwn.never rfl (mi_range1 (by rfl) z_range (ma_cons (me_ix (me_bv 0) (me_b me_int)) ma_nil)) (mg_name (i := 5) nd rfl (by first | exact .inl rfl | exact .inr rfl)) (mss_cons (ms_setO (i := 6) nd rfl (by first | exact .inl rfl | exact .inr rfl) (mf_lst ma_nil)) (mss_cons (ms_for (p := (.tup [(.nm 7), (.nm 8)])) PassesOwn.never rfl (mi_zip (by rfl) z_zip (ma_cons (me_ix (me_bv 0) (me_b me_int)) (ma_cons (me_ix (me_bv 0) (me_b me_int)) ma_nil))) (mg_tup rfl (mgs_cons (mg_name (i := 7) nd rfl (by first | exact .inl rfl | exact .inr rfl)) (mgs_cons (mg_name (i := 8) nd rfl (by first | exact .inl rfl | exact .inr rfl)) mgs_nil))) (mss_cons (ms_set (i := 9) nd rfl (by first | exact .inl rfl | exact .inr rfl) (me_call F_law_part (hr.mono (by decide)) (by rfl) (ma_cons (me_bin od_mul (me_bv 8) (me_bv 2)) (ma_cons (me_v 3) ma_nil)))) (mss_cons (ms_set (i := 10) nd rfl (by first | exact .inl rfl | exact .inr rfl) (me_bin od_div (me_b (me_bin od_mul (me_b (me_ix (me_bv 9) (me_b me_int))) (me_bv 1))) (me_b (me_ix (me_bv 9) (me_b me_int))))) (mss_one (ms_app 6 (pv 6) (me_tup (ma_cons (me_v 7) (ma_cons (me_bin od_mod (me_b (me_t1 cd_int (by rfl) z_int boot_int (me_b (me_bin od_add (me_bv 10) (me_b (me_bin od_div (me_b (me_bin od_mul (me_bv 5) (me_bv 1))) (me_b (me_ix (me_bv 0) (me_b me_int))))))))) (me_bv 1)) ma_nil)))))))) (mss_one (ms_app 4 (pv 4) (me_t1 (cd_str hr.gs hu5) (by rfl) z_str boot_str (me_b (me_f (mf_b1 (cd_sortD hu5) (by rfl) z_sorted boot_sorted (me_bv 6)))))))))) (mss_one (ms_ret (me_b1 (cd_minD rfl hu5) (by rfl) z_min boot_min (me_bv 4))))))
abbrev s_stretches : Stmt := topS 8
theorem sc_stretches : FnScope ["clock", "dots", "found", "begin", "end", "view"] ["clock", "dots"] (defScope s_stretches) := ⟨rfl, rfl, rfl, by decide +kernel, rfl, by decide +kernel, by decide +kernel⟩
theorem ok_stretches {f : Addr} {fd : FuncData} (F : FnP K "stretches" s_stretches f fd) (hg : mg "stretches" = some (.ref f)) {f_cells : Addr} {fd_cells : FuncData} (F_cells : FnM P w K mg base 3 "cells" f_cells fd_cells ["clock", "dots"] false m_cells) (z_len : mg "len" = none) : FnM P w K mg base 4 "stretches" f fd ["clock", "dots"] false m_stretches := by
  have nd := sc_stretches.nd
  refine def_ok (k := 3) F sc_stretches hg (F.bindsN (ps := ["clock", "dots"]) fun _ _ _ _ _ _ us hl => match us, hl with | [_, _], _ => rfl) (fun _ _ _ => rfl) (fun cdv A outer s H E hr => ?_)
  have hu := hu64 hr
  have hu5 := hu65 hr
  exact (mss_cons (ms_setO (i := 2) nd rfl (by first | exact .inl rfl | exact .inr rfl) (mf_lst ma_nil)) (mss_cons (ms_for (p := (.tup [(.nm 3), (.nm 4), (.nm 5)])) PassesOwn.never rfl (mi_any (me_call F_cells (hr.mono (by decide)) (by rfl) (ma_cons (me_v 0) (ma_cons (me_v 1) ma_nil)))) (mg_tup rfl (mgs_cons (mg_name (i := 3) nd rfl (by first | exact .inl rfl | exact .inr rfl)) (mgs_cons (mg_name (i := 4) nd rfl (by first | exact .inl rfl | exact .inr rfl)) (mgs_cons (mg_name (i := 5) nd rfl (by first | exact .inl rfl | exact .inr rfl)) mgs_nil)))) (mss_one (ms_if (PW.pt (mw_and (mt_cmp (od_ne hu) (me_bv 2) (me_b (me_f (mf_lst ma_nil))) (nomark _)) (mw_and1 (mt_cmp (od_eq hu) (me_b (me_ix (me_b (me_ix (me_bv 2) (me_b (me_un ud_neg (me_b me_int))))) (me_b me_int))) (me_bv 5) (nomark _))))) (mss_one (ms_ixO 2 (pv 2) (me_un ud_neg (me_b me_int)) (me_tup (ma_cons (me_ix (me_b (me_ix (me_bv 2) (me_b (me_un ud_neg (me_b me_int))))) (me_b me_int)) (ma_cons (me_bin od_sub (me_b (me_bin od_add (me_b (me_ix (me_b (me_ix (me_bv 2) (me_b (me_un ud_neg (me_b me_int))))) (me_b me_int))) (me_bv 4))) (me_bv 3)) (ma_cons (me_v 5) ma_nil)))))) (mss_one (ms_app 2 (pv 2) (me_tup (ma_cons (me_v 3) (ma_cons (me_bin od_sub (me_bv 4) (me_bv 3)) (ma_cons (me_v 5) ma_nil))))))))) (mss_cons (ms_if (PW.pt (mw_and (mt_cmp od_gt (me_b (me_b1 cd_len (by rfl) z_len boot_len (me_bv 2))) (me_b me_int) (nomark _)) (mw_and1 (mt_cmp (od_eq hu) (me_b (me_ix (me_b (me_ix (me_bv 2) (me_b me_int))) (me_b me_int))) (me_b (me_ix (me_b (me_ix (me_bv 2) (me_b (me_un ud_neg (me_b me_int))))) (me_b me_int))) (nomark _))))) (mss_one (ms_ret (me_f (mf_lst (ma_star (me_b (me_sl (me_bv 2) (mo_some me_int) (mo_some (me_un ud_neg (me_b me_int))))) (ma_cons (me_tup (ma_cons (me_ix (me_b (me_ix (me_bv 2) (me_b (me_un ud_neg (me_b me_int))))) (me_b me_int)) (ma_cons (me_bin od_add (me_b (me_ix (me_b (me_ix (me_bv 2) (me_b (me_un ud_neg (me_b me_int))))) (me_b me_int))) (me_b (me_ix (me_b (me_ix (me_bv 2) (me_b me_int))) (me_b me_int)))) (ma_cons (me_ix (me_b (me_ix (me_bv 2) (me_b me_int))) (me_b me_int)) ma_nil)))) ma_nil)))))) mss_nil) (mss_one (ms_retO 2 (pv 2))))))
abbrev s_law_stretches : Stmt := topS 22
theorem sc_law_stretches : FnScope ["_law_clock_here", "_law_dots_here", "_law_bottom", "_law_views", "_law_begins", "_law_ends", "_law_at", "_law_begin", "_law_end"] ["_law_clock_here", "_law_dots_here", "_law_bottom"] (defScope s_law_stretches) := ⟨rfl, rfl, rfl, by decide +kernel, rfl, by decide +kernel, by decide +kernel⟩
theorem ok_law_stretches {f : Addr} {fd : FuncData} (F : FnP K "_law_stretches" s_law_stretches f fd) (hg : mg "_law_stretches" = some (.ref f)) {f_law_dots : Addr} {fd_law_dots : FuncData} (F_law_dots : FnM P w K mg base 3 "_law_dots" f_law_dots fd_law_dots ["_law_clock_here", "_law_dots_here", "_law_top", "_law_bottom"] false m_law_dots) (z_range : mg "range" = none) (z_zip : mg "zip" = none) : FnM P w K mg base 4 "_law_stretches" f fd ["_law_clock_here", "_law_dots_here", "_law_bottom"] false m_law_stretches := by
  have nd := sc_law_stretches.nd
  refine def_ok (k := 3) F sc_law_stretches hg (F.bindsN (ps := ["_law_clock_here", "_law_dots_here", "_law_bottom"]) fun _ _ _ _ _ _ us hl => match us, hl with | [_, _, _], _ => rfl) (fun _ _ _ => rfl) (fun cdv A outer s H E hr => ?_)
  have hu := hu64 hr
  have hu5 := hu65 hr
  exact (mss_cons (ms_set (i := 3) nd rfl (by first | exact .inl rfl | exact .inr rfl) (me_f (mf_comp (own := [("_law_at", 6)]) (vs := [6]) (p := (.nm 6)) rfl nd (mi_range1 (by rfl) z_range (ma_cons (me_v 2) ma_nil)) (blkOk_by (N := ["_law_clock_here", "_law_dots_here", "_law_bottom", "_law_views", "_law_begins", "_law_ends", "_law_at", "_law_begin", "_law_end"]) (sc := defScope s_law_stretches) (by decide +kernel)) (fun _ _ _ _ _ => (mg_name (i := 6) nd rfl (by first | exact .inl rfl | exact .inr rfl))) (fun _ _ _ _ _ => mts_nil) (fun _ _ _ _ _ => (me_call F_law_dots (hr.mono (by decide)) (by rfl) (ma_cons (me_v 0) (ma_cons (me_v 1) (ma_cons (me_bin od_add (me_b (me_bin od_mul (me_b me_int) (me_bv 6))) (me_b me_int)) (ma_cons (me_bin od_mul (me_b me_int) (me_bv 2)) ma_nil))))))))) (mss_cons (ms_setC (i := 4) (own := [("_law_at", 6)]) (vs := [6]) (p := (.nm 6)) rfl nd rfl rfl (sw_true rfl rfl rfl (by decide +kernel)) (mi_range1 (by rfl) z_range (ma_cons (me_v 2) ma_nil)) (blkOk_by (N := ["_law_clock_here", "_law_dots_here", "_law_bottom", "_law_views", "_law_begins", "_law_ends", "_law_at", "_law_begin", "_law_end"]) (sc := defScope s_law_stretches) (by decide +kernel)) (fun _ _ _ _ _ => (mg_name (i := 6) nd rfl (by first | exact .inl rfl | exact .inr rfl))) (fun _ _ _ _ _ => (mts_one (mt_cmp (od_ne hu) (me_b (me_ix (me_bv 3) (me_bv 6))) (me_b (me_ix (me_bv 3) (me_b (me_bin od_sub (me_bv 6) (me_b me_int))))) (nomark _)))) (fun _ _ _ _ _ => (me_v 6))) (mss_cons (ms_if (mt_cmp (od_eq hu) (me_bv 4) (me_b (me_f (mf_lst ma_nil))) (nomark _)) (mss_one (ms_ret (me_f (mf_lst (ma_cons (me_tup (ma_cons me_int (ma_cons (me_v 2) (ma_cons (me_ix (me_bv 3) (me_b me_int)) ma_nil)))) ma_nil))))) mss_nil) (mss_cons (ms_set (i := 5) nd rfl (by first | exact .inl rfl | exact .inr rfl) (me_bin od_add (me_b (me_sl (me_bv 4) (mo_some me_int) mo_none)) (me_b (me_f (mf_lst (ma_cons (me_bin od_add (me_b (me_ix (me_bv 4) (me_b me_int))) (me_bv 2)) ma_nil)))))) (mss_one (ms_ret (me_f (mf_comp (own := [("_law_begin", 7), ("_law_end", 8)]) (vs := [7, 8]) (p := (.tup [(.nm 7), (.nm 8)])) rfl nd (mi_zip (by rfl) z_zip (ma_cons (me_v 4) (ma_cons (me_v 5) ma_nil))) (blkOk_by (N := ["_law_clock_here", "_law_dots_here", "_law_bottom", "_law_views", "_law_begins", "_law_ends", "_law_at", "_law_begin", "_law_end"]) (sc := defScope s_law_stretches) (by decide +kernel)) (fun _ _ _ _ _ => (mg_tup rfl (mgs_cons (mg_name (i := 7) nd rfl (by first | exact .inl rfl | exact .inr rfl)) (mgs_cons (mg_name (i := 8) nd rfl (by first | exact .inl rfl | exact .inr rfl)) mgs_nil)))) (fun _ _ _ _ _ => mts_nil) (fun _ _ _ _ _ => (me_tup (ma_cons (me_v 7) (ma_cons (me_bin od_sub (me_bv 8) (me_bv 7)) (ma_cons (me_ix (me_bv 3) (me_bv 7)) ma_nil)))))))))))))
abbrev s_count_stretches : Stmt := topS 10
theorem sc_count_stretches : FnScope ["clock", "dots"] ["clock", "dots"] (defScope s_count_stretches) := ⟨rfl, rfl, rfl, by decide +kernel, rfl, by decide +kernel, by decide +kernel⟩
theorem ok_count_stretches {f : Addr} {fd : FuncData} (F : FnP K "count_stretches" s_count_stretches f fd) (hg : mg "count_stretches" = some (.ref f)) {f_stretches : Addr} {fd_stretches : FuncData} (F_stretches : FnM P w K mg base 4 "stretches" f_stretches fd_stretches ["clock", "dots"] false m_stretches) (z_len : mg "len" = none) : FnM P w K mg base 5 "count_stretches" f fd ["clock", "dots"] false m_count_stretches := by
  have nd := sc_count_stretches.nd
  refine def_ok (k := 4) F sc_count_stretches hg (F.bindsN (ps := ["clock", "dots"]) fun _ _ _ _ _ _ us hl => match us, hl with | [_, _], _ => rfl) (fun _ _ _ => rfl) (fun cdv A outer s H E hr => ?_)
  exact (mss_one (ms_ret (me_b1 cd_len (by rfl) z_len boot_len (me_b (me_call F_stretches (hr.mono (by decide)) (by rfl) (ma_cons (me_v 0) (ma_cons (me_v 1) ma_nil)))))))
abbrev s_views_of : Stmt := topS 11
theorem sc_views_of : FnScope ["clock", "dots", "found", "begin", "length", "view"] ["clock", "dots"] (defScope s_views_of) := ⟨rfl, rfl, rfl, by decide +kernel, rfl, by decide +kernel, by decide +kernel⟩
theorem ok_views_of {f : Addr} {fd : FuncData} (F : FnP K "views_of" s_views_of f fd) (hg : mg "views_of" = some (.ref f)) {f_stretches : Addr} {fd_stretches : FuncData} (F_stretches : FnM P w K mg base 4 "stretches" f_stretches fd_stretches ["clock", "dots"] false m_stretches) (z_tuple : mg "tuple" = none) : FnM P w K mg base 5 "views_of" f fd ["clock", "dots"] false m_views_of := by
  have nd := sc_views_of.nd
  refine def_ok (k := 4) F sc_views_of hg (F.bindsN (ps := ["clock", "dots"]) fun _ _ _ _ _ _ us hl => match us, hl with | [_, _], _ => rfl) (fun _ _ _ => rfl) (fun cdv A outer s H E hr => ?_)
  exact (mss_cons (ms_setO (i := 2) nd rfl (by first | exact .inl rfl | exact .inr rfl) mf_dct0) (mss_cons (ms_for (p := (.tup [(.nm 3), (.nm 4), (.nm 5)])) PassesOwn.never rfl (mi_any (me_call F_stretches (hr.mono (by decide)) (by rfl) (ma_cons (me_v 0) (ma_cons (me_v 1) ma_nil)))) (mg_tup rfl (mgs_cons (mg_name (i := 3) nd rfl (by first | exact .inl rfl | exact .inr rfl)) (mgs_cons (mg_name (i := 4) nd rfl (by first | exact .inl rfl | exact .inr rfl)) (mgs_cons (mg_name (i := 5) nd rfl (by first | exact .inl rfl | exact .inr rfl)) mgs_nil)))) (mss_one (ms_dput 2 (hu64 hr) (pv 2) (me_t1 cd_tuple (by rfl) z_tuple boot_tuple (me_bv 5)) (me_f (mf_lst (ma_star (me_b (me_dget2 (hu64 hr) (me_bv 2) (me_t1 cd_tuple (by rfl) z_tuple boot_tuple (me_bv 5)) (me_f (mf_lst ma_nil)))) (ma_cons (me_tup (ma_cons (me_v 3) (ma_cons (me_v 4) ma_nil))) ma_nil))))))) (mss_one (ms_retO 2 (pv 2)))))
abbrev s_longest_stretch : Stmt := topS 13
theorem sc_longest_stretch : FnScope ["clock", "dots", "begin", "length", "view"] ["clock", "dots"] (defScope s_longest_stretch) := ⟨rfl, rfl, rfl, by decide +kernel, rfl, by decide +kernel, by decide +kernel⟩
theorem ok_longest_stretch {f : Addr} {fd : FuncData} (F : FnP K "longest_stretch" s_longest_stretch f fd) (hg : mg "longest_stretch" = some (.ref f)) {f_common_bottom : Addr} {fd_common_bottom : FuncData} (F_common_bottom : FnM P w K mg base 2 "common_bottom" f_common_bottom fd_common_bottom ["clock", "dots"] false m_common_bottom) {f_length_of : Addr} {fd_length_of : FuncData} (F_length_of : FnM P w K mg base 3 "length_of" f_length_of fd_length_of ["top", "bottom"] false m_length_of) {f_stretches : Addr} {fd_stretches : FuncData} (F_stretches : FnM P w K mg base 4 "stretches" f_stretches fd_stretches ["clock", "dots"] false m_stretches) (z_max : mg "max" = none) : FnM P w K mg base 5 "longest_stretch" f fd ["clock", "dots"] false m_longest_stretch := by
  have nd := sc_longest_stretch.nd
  refine def_ok (k := 4) F sc_longest_stretch hg (F.bindsN (ps := ["clock", "dots"]) fun _ _ _ _ _ _ us hl => match us, hl with | [_, _], _ => rfl) (fun _ _ _ => rfl) (fun cdv A outer s H E hr => ?_)
  exact (mss_one (ms_ret (me_call F_length_of (hr.mono (by decide)) (by rfl) (ma_cons (me_b1 (cd_maxS rfl) (by rfl) z_max boot_max (me_b (me_f (mf_comp (own := [("begin", 2), ("length", 3), ("view", 4)]) (vs := [2, 3, 4]) (p := (.tup [(.nm 2), (.nm 3), (.nm 4)])) rfl nd (mi_any (me_call F_stretches (hr.mono (by decide)) (by rfl) (ma_cons (me_v 0) (ma_cons (me_v 1) ma_nil)))) (blkOk_by (N := ["clock", "dots", "begin", "length", "view"]) (sc := defScope s_longest_stretch) (by decide +kernel)) (fun _ _ _ _ _ => (mg_tup rfl (mgs_cons (mg_name (i := 2) nd rfl (by first | exact .inl rfl | exact .inr rfl)) (mgs_cons (mg_name (i := 3) nd rfl (by first | exact .inl rfl | exact .inr rfl)) (mgs_cons (mg_name (i := 4) nd rfl (by first | exact .inl rfl | exact .inr rfl)) mgs_nil))))) (fun _ _ _ _ _ => mts_nil) (fun _ _ _ _ _ => (me_v 3)))))) (ma_cons (me_call F_common_bottom (hr.mono (by decide)) (by rfl) (ma_cons (me_v 0) (ma_cons (me_v 1) ma_nil))) ma_nil)))))
abbrev s_count_views : Stmt := topS 12
theorem sc_count_views : FnScope ["clock", "dots"] ["clock", "dots"] (defScope s_count_views) := ⟨rfl, rfl, rfl, by decide +kernel, rfl, by decide +kernel, by decide +kernel⟩
theorem ok_count_views {f : Addr} {fd : FuncData} (F : FnP K "count_views" s_count_views f fd) (hg : mg "count_views" = some (.ref f)) {f_views_of : Addr} {fd_views_of : FuncData} (F_views_of : FnM P w K mg base 5 "views_of" f_views_of fd_views_of ["clock", "dots"] false m_views_of) (z_len : mg "len" = none) : FnM P w K mg base 6 "count_views" f fd ["clock", "dots"] false m_count_views := by
  have nd := sc_count_views.nd
  refine def_ok (k := 5) F sc_count_views hg (F.bindsN (ps := ["clock", "dots"]) fun _ _ _ _ _ _ us hl => match us, hl with | [_, _], _ => rfl) (fun _ _ _ => rfl) (fun cdv A outer s H E hr => ?_)
  exact (mss_one (ms_ret (me_b1 cd_lenK (by rfl) z_len boot_len (me_b (me_call F_views_of (hr.mono (by decide)) (by rfl) (ma_cons (me_v 0) (ma_cons (me_v 1) ma_nil)))))))
abbrev s_law_like : Stmt := topS 16
theorem sc_law_like : FnScope ["_law_one", "_law_two", "_law_k"] ["_law_one", "_law_two"] (defScope s_law_like) := ⟨rfl, rfl, rfl, by decide +kernel, rfl, by decide +kernel, by decide +kernel⟩
theorem ok_law_like {f : Addr} {fd : FuncData} (F : FnP K "_law_like" s_law_like f fd) (hg : mg "_law_like" = some (.ref f)) (z_bool : mg "bool" = none) (z_isinstance : mg "isinstance" = none) (z_len : mg "len" = none) (z_list : mg "list" = none) (z_range : mg "range" = none) (z_tuple : mg "tuple" = none) : ∀ n : Nat, FnM P w K mg base (n + 0) "_law_like" f fd ["_law_one", "_law_two"] false (m_law_like n)
  | 0 => fnM_none hg F.kp (F.bindsN (ps := ["_law_one", "_law_two"]) fun _ _ _ _ _ _ us hl => match us, hl with | [_, _], _ => rfl)
  | n + 1 => by
    have IH := ok_law_like F hg z_bool z_isinstance z_len z_list z_range z_tuple n
    have nd := sc_law_like.nd
    refine def_ok (k := n + 0) F sc_law_like hg (F.bindsN (ps := ["_law_one", "_law_two"]) fun _ _ _ _ _ _ us hl => match us, hl with | [_, _], _ => rfl) (fun _ _ _ => rfl) (fun cdv A outer s H E hr => ?_)
    have hu := hu64 hr
    have hu5 := hu65 hr
    exact (mss_cons (ms_if (mt_val (me_isi2 (.inl ⟨rfl, rfl⟩) (by rfl) z_isinstance (by rfl) z_list boot_list (by rfl) z_tuple boot_tuple (me_bv 0))) (mss_cons (ms_if (PW.pt (mw_or (mt_cmp (od_ne hu) (me_b (me_isi ans_lst (by rfl) z_isinstance (by rfl) z_list boot_list (me_bv 0))) (me_b (me_isi ans_lst (by rfl) z_isinstance (by rfl) z_list boot_list (me_bv 1))) (nomark _)) (mw_or1 (mt_cmp (od_ne hu) (me_b (me_isi ans_tup (by rfl) z_isinstance (by rfl) z_tuple boot_tuple (me_bv 0))) (me_b (me_isi ans_tup (by rfl) z_isinstance (by rfl) z_tuple boot_tuple (me_bv 1))) (nomark _))))) (mss_one (ms_ret me_bl)) mss_nil) (mss_cons (ms_if (mt_cmp (od_ne hu) (me_b (me_b1 cd_len (by rfl) z_len boot_len (me_bv 0))) (me_b (me_b1 cd_len (by rfl) z_len boot_len (me_bv 1))) (nomark _)) (mss_one (ms_ret me_bl)) mss_nil) (mss_one (ms_ret (me_cmp (od_eq hu) (me_b (me_f (mf_comp (own := [("_law_k", 2)]) (vs := [2]) (p := (.nm 2)) rfl nd (mi_range1 (by rfl) z_range (ma_cons (me_b1 cd_len (by rfl) z_len boot_len (me_bv 0)) ma_nil)) (blkOk_by (N := ["_law_one", "_law_two", "_law_k"]) (sc := defScope s_law_like) (by decide +kernel)) (fun _ _ _ _ _ => (mg_name (i := 2) nd rfl (by first | exact .inl rfl | exact .inr rfl))) (fun _ _ _ _ _ => (mts_one (mt_not (mt_val (me_call IH hr (by rfl) (ma_cons (me_ix (me_bv 0) (me_bv 2)) (ma_cons (me_ix (me_bv 1) (me_bv 2)) ma_nil))))))) (fun _ _ _ _ _ => (me_v 2))))) (me_b (me_f (mf_lst ma_nil))) (nomark _)))))) mss_nil) (mss_cons (ms_if (mt_val (me_isi2 (.inl ⟨rfl, rfl⟩) (by rfl) z_isinstance (by rfl) z_list boot_list (by rfl) z_tuple boot_tuple (me_bv 1))) (mss_one (ms_ret me_bl)) mss_nil) (mss_one (ms_ret (me_and (me_cmp (od_eq hu) (me_b (me_isi ans_bool (by rfl) z_isinstance (by rfl) z_bool boot_bool (me_bv 0))) (me_b (me_isi ans_bool (by rfl) z_isinstance (by rfl) z_bool boot_bool (me_bv 1))) (nomark _)) (me_and1 (me_cmp (od_eq hu) (me_bv 0) (me_bv 1) (nomark _))))))))
abbrev s_law : Stmt := topS 23
theorem sc_law : FnScope ["_law_script", "_law_tape", "_law_turn", "_law_clock_here", "_law_dots_here", "_law_bottom", "_law_some", "_law_views", "_law_best", "_law_begin", "_law_length", "_law_view"] ["_law_script"] (defScope s_law) := ⟨rfl, rfl, rfl, by decide +kernel, rfl, by decide +kernel, by decide +kernel⟩
theorem ok_law {f : Addr} {fd : FuncData} (F : FnP K "law" s_law f fd) (hg : mg "law" = some (.ref f)) {f_law_dotted : Addr} {fd_law_dotted : FuncData} (F_law_dotted : FnM P w K mg base 3 "_law_dotted" f_law_dotted fd_law_dotted ["_law_tape"] false m_law_dotted) {f_law_like : Addr} {fd_law_like : FuncData} (F_law_like : FnM P w K mg base 8 "_law_like" f_law_like fd_law_like ["_law_one", "_law_two"] false (m_law_like 8)) {f_law_part : Addr} {fd_law_part : FuncData} (F_law_part : FnM P w K mg base 2 "_law_part" f_law_part fd_law_part ["_law_top", "_law_bottom"] false m_law_part) {f_law_stretches : Addr} {fd_law_stretches : FuncData} (F_law_stretches : FnM P w K mg base 4 "_law_stretches" f_law_stretches fd_law_stretches ["_law_clock_here", "_law_dots_here", "_law_bottom"] false m_law_stretches) {f_count_stretches : Addr} {fd_count_stretches : FuncData} (F_count_stretches : FnM P w K mg base 5 "count_stretches" f_count_stretches fd_count_stretches ["clock", "dots"] false m_count_stretches) {f_count_views : Addr} {fd_count_views : FuncData} (F_count_views : FnM P w K mg base 6 "count_views" f_count_views fd_count_views ["clock", "dots"] false m_count_views) {f_longest_stretch : Addr} {fd_longest_stretch : FuncData} (F_longest_stretch : FnM P w K mg base 5 "longest_stretch" f_longest_stretch fd_longest_stretch ["clock", "dots"] false m_longest_stretch) (z_len : mg "len" = none) (z_list : mg "list" = none) (z_max : mg "max" = none) (z_range : mg "range" = none) (z_set : mg "set" = none) (z_sorted : mg "sorted" = none) : FnM P w K mg base 9 "law" f fd ["_law_script"] false m_law := by
  have nd := sc_law.nd
  refine def_ok (k := 8) F sc_law hg (F.bindsN (ps := ["_law_script"]) fun _ _ _ _ _ _ us hl => match us, hl with | [_], _ => rfl) (fun _ _ _ => rfl) (fun cdv A outer s H E hr => ?_)
  have hu := hu64 hr
  have hu5 := hu65 hr
  exact (mss_cell (i := 1) nd rfl (by first | exact .inl rfl | exact .inr rfl) (mf_lst (ma_cons (me_f (mf_t1 cd_list (by rfl) z_list boot_list (me_bv 0))) (ma_cons me_int (ma_cons me_int ma_nil)))) (mss_cons (ms_for (p := (.nm 2)) PassesOwn.never rfl (mi_range1 (by rfl) z_range (ma_cons me_int ma_nil)) (mg_name (i := 2) nd rfl (by first | exact .inl rfl | exact .inr rfl)) (mss_cons (ms_asg (p := (.tup [(.nm 3), (.nm 4), (.nm 5)])) (me_call F_law_dotted (hr.mono (by decide)) (by rfl) (ma_cons (me_v 1) ma_nil)) (mg_tup rfl (mgs_cons (mg_name (i := 3) nd rfl (by first | exact .inl rfl | exact .inr rfl)) (mgs_cons (mg_name (i := 4) nd rfl (by first | exact .inl rfl | exact .inr rfl)) (mgs_cons (mg_name (i := 5) nd rfl (by first | exact .inl rfl | exact .inr rfl)) mgs_nil))))) (mss_cons (ms_set (i := 6) nd rfl (by first | exact .inl rfl | exact .inr rfl) (me_call F_law_stretches (hr.mono (by decide)) (by rfl) (ma_cons (me_v 3) (ma_cons (me_v 4) (ma_cons (me_v 5) ma_nil))))) (mss_cons (ms_set (i := 7) nd rfl (by first | exact .inl rfl | exact .inr rfl) (me_f (mf_sortSetT rfl hu5 (by rfl) z_sorted (by rfl) z_set (me_b (me_f (mf_comp (own := [("_law_begin", 9), ("_law_length", 10), ("_law_view", 11)]) (vs := [9, 10, 11]) (p := (.tup [(.nm 9), (.nm 10), (.nm 11)])) rfl nd (mi_any (me_v 6)) (blkOk_by (N := ["_law_script", "_law_tape", "_law_turn", "_law_clock_here", "_law_dots_here", "_law_bottom", "_law_some", "_law_views", "_law_best", "_law_begin", "_law_length", "_law_view"]) (sc := defScope s_law) (by decide +kernel)) (fun _ _ _ _ _ => (mg_tup rfl (mgs_cons (mg_name (i := 9) nd rfl (by first | exact .inl rfl | exact .inr rfl)) (mgs_cons (mg_name (i := 10) nd rfl (by first | exact .inl rfl | exact .inr rfl)) (mgs_cons (mg_name (i := 11) nd rfl (by first | exact .inl rfl | exact .inr rfl)) mgs_nil))))) (fun _ _ _ _ _ => mts_nil) (fun _ _ _ _ _ => (me_v 11)))))))) (mss_cons (ms_if (mt_not (mt_val (me_call F_law_like (hr.mono (by decide)) (by rfl) (ma_cons (me_call F_count_stretches (hr.mono (by decide)) (by rfl) (ma_cons (me_v 3) (ma_cons (me_v 4) ma_nil))) (ma_cons (me_b1 cd_len (by rfl) z_len boot_len (me_bv 6)) ma_nil))))) (mss_one (ms_ret me_bl)) mss_nil) (mss_cons (ms_if (mt_not (mt_val (me_call F_law_like (hr.mono (by decide)) (by rfl) (ma_cons (me_call F_count_views (hr.mono (by decide)) (by rfl) (ma_cons (me_v 3) (ma_cons (me_v 4) ma_nil))) (ma_cons (me_b1 cd_len (by rfl) z_len boot_len (me_bv 7)) ma_nil))))) (mss_one (ms_ret me_bl)) mss_nil) (mss_cons (ms_set (i := 8) nd rfl (by first | exact .inl rfl | exact .inr rfl) (me_b1 (cd_maxS rfl) (by rfl) z_max boot_max (me_b (me_f (mf_comp (own := [("_law_begin", 9), ("_law_length", 10), ("_law_view", 11)]) (vs := [9, 10, 11]) (p := (.tup [(.nm 9), (.nm 10), (.nm 11)])) rfl nd (mi_any (me_v 6)) (blkOk_by (N := ["_law_script", "_law_tape", "_law_turn", "_law_clock_here", "_law_dots_here", "_law_bottom", "_law_some", "_law_views", "_law_best", "_law_begin", "_law_length", "_law_view"]) (sc := defScope s_law) (by decide +kernel)) (fun _ _ _ _ _ => (mg_tup rfl (mgs_cons (mg_name (i := 9) nd rfl (by first | exact .inl rfl | exact .inr rfl)) (mgs_cons (mg_name (i := 10) nd rfl (by first | exact .inl rfl | exact .inr rfl)) (mgs_cons (mg_name (i := 11) nd rfl (by first | exact .inl rfl | exact .inr rfl)) mgs_nil))))) (fun _ _ _ _ _ => mts_nil) (fun _ _ _ _ _ => (me_v 10))))))) (mss_one (ms_if (mt_not (mt_val (me_call F_law_like (hr.mono (by decide)) (by rfl) (ma_cons (me_call F_longest_stretch (hr.mono (by decide)) (by rfl) (ma_cons (me_v 3) (ma_cons (me_v 4) ma_nil))) (ma_cons (me_if (mt_cmp (od_eq hu) (me_bv 8) (me_bv 5) (nomark _)) (me_tup (ma_cons me_int (ma_cons me_int ma_nil))) (me_call F_law_part (hr.mono (by decide)) (by rfl) (ma_cons (me_v 8) (ma_cons (me_v 5) ma_nil)))) ma_nil))))) (mss_one (ms_ret me_bl)) mss_nil))))))))) (mss_one (ms_ret (me_and (me_cmp (od_eq hu) (me_b (me_call F_count_stretches (hr.mono (by decide)) (by rfl) (ma_cons (me_tup (ma_cons (me_tup (ma_cons me_int (ma_cons me_int ma_nil))) (ma_cons me_str (ma_cons me_int ma_nil)))) (ma_cons me_int ma_nil)))) (me_b me_int) (nomark _)) (me_and1 (me_cmp (od_eq hu) (me_b (me_call F_count_views (hr.mono (by decide)) (by rfl) (ma_cons (me_tup (ma_cons (me_tup (ma_cons me_int (ma_cons me_int ma_nil))) (ma_cons me_str (ma_cons me_int ma_nil)))) (ma_cons me_int ma_nil)))) (me_b me_int) (nomark _))))))))
end
def h_divisor : He.DefD := ⟨("divisor", none), "divisor", "divisor", defArgs s_divisor, defBody s_divisor, defScope s_divisor, [], []⟩
def h_part : He.DefD := ⟨("part", none), "part", "part", defArgs s_part, defBody s_part, defScope s_part, [], []⟩
def h_common_bottom : He.DefD := ⟨("common_bottom", none), "common_bottom", "common_bottom", defArgs s_common_bottom, defBody s_common_bottom, defScope s_common_bottom, [], []⟩
def h_view_at : He.DefD := ⟨("view_at", none), "view_at", "view_at", defArgs s_view_at, defBody s_view_at, defScope s_view_at, [], []⟩
def h_cells : He.DefD := ⟨("cells", none), "cells", "cells", defArgs s_cells, defBody s_cells, defScope s_cells, [], []⟩
def h_stretches : He.DefD := ⟨("stretches", none), "stretches", "stretches", defArgs s_stretches, defBody s_stretches, defScope s_stretches, [], []⟩
def h_length_of : He.DefD := ⟨("length_of", none), "length_of", "length_of", defArgs s_length_of, defBody s_length_of, defScope s_length_of, [], []⟩
def h_count_stretches : He.DefD := ⟨("count_stretches", none), "count_stretches", "count_stretches", defArgs s_count_stretches, defBody s_count_stretches, defScope s_count_stretches, [], []⟩
def h_views_of : He.DefD := ⟨("views_of", none), "views_of", "views_of", defArgs s_views_of, defBody s_views_of, defScope s_views_of, [], []⟩
def h_count_views : He.DefD := ⟨("count_views", none), "count_views", "count_views", defArgs s_count_views, defBody s_count_views, defScope s_count_views, [], []⟩
def h_longest_stretch : He.DefD := ⟨("longest_stretch", none), "longest_stretch", "longest_stretch", defArgs s_longest_stretch, defBody s_longest_stretch, defScope s_longest_stretch, [], []⟩
def h_law_draw : He.DefD := ⟨("_law_draw", none), "_law_draw", "_law_draw", defArgs s_law_draw, defBody s_law_draw, defScope s_law_draw, [], []⟩
def h_law_like : He.DefD := ⟨("_law_like", none), "_law_like", "_law_like", defArgs s_law_like, defBody s_law_like, defScope s_law_like, [], []⟩
def h_law_gcd : He.DefD := ⟨("_law_gcd", none), "_law_gcd", "_law_gcd", defArgs s_law_gcd, defBody s_law_gcd, defScope s_law_gcd, [], []⟩
def h_law_part : He.DefD := ⟨("_law_part", none), "_law_part", "_law_part", defArgs s_law_part, defBody s_law_part, defScope s_law_part, [], []⟩
def h_law_clock : He.DefD := ⟨("_law_clock", none), "_law_clock", "_law_clock", defArgs s_law_clock, defBody s_law_clock, defScope s_law_clock, [], []⟩
def h_law_dotted : He.DefD := ⟨("_law_dotted", none), "_law_dotted", "_law_dotted", defArgs s_law_dotted, defBody s_law_dotted, defScope s_law_dotted, [], []⟩
def h_law_dots : He.DefD := ⟨("_law_dots", none), "_law_dots", "_law_dots", defArgs s_law_dots, defBody s_law_dots, defScope s_law_dots, [], []⟩
def h_law_stretches : He.DefD := ⟨("_law_stretches", none), "_law_stretches", "_law_stretches", defArgs s_law_stretches, defBody s_law_stretches, defScope s_law_stretches, [], []⟩
def h_law : He.DefD := ⟨("law", none), "law", "law", defArgs s_law, defBody s_law, defScope s_law, [], []⟩
def fnT : List He.DefD := [h_divisor, h_part, h_common_bottom, h_view_at, h_cells, h_stretches, h_length_of, h_count_stretches, h_views_of, h_count_views, h_longest_stretch, h_law_draw, h_law_like, h_law_gcd, h_law_part, h_law_clock, h_law_dotted, h_law_dots, h_law_stretches, h_law]
def faT : List He.Fa := [.glo "divisor", .glo "part", .glo "common_bottom", .glo "view_at", .glo "cells", .glo "stretches", .glo "length_of", .glo "count_stretches", .glo "views_of", .glo "count_views", .glo "longest_stretch", .glo "_law_draw", .glo "_law_like", .glo "_law_gcd", .glo "_law_part", .glo "_law_clock", .glo "_law_dotted", .glo "_law_dots", .glo "_law_stretches", .glo "law", .free "abs", .free "bool", .free "int", .free "isinstance", .free "len", .free "list", .free "max", .free "min", .free "range", .free "set", .free "sorted", .free "str", .free "tuple", .free "zip"]
abbrev RR : PySem.W.OpenRow := PySem.W.OpenLaw.row PySem.Challenge.rw_unclearhands_k32_whole_stretches_and_vie
abbrev hkT : PySem.W.Hook := hookE 4 faT fnT txT
def obT (s : PySem.W.SharedT) : He.AlD × Bool := obsE 4 faT fnT txT (HandSHeadRun.getT s)
theorem ob_eq (s : PySem.W.SharedT) : obT s = hkT.obs s.abs := obsE_eq (HandSHeadRun.getT_eq s)
def looseT : List Str := (["divisor", "part", "common_bottom", "view_at", "cells", "stretches", "length_of", "count_stretches", "views_of", "count_views", "longest_stretch", "_law_draw", "_law_like", "_law_gcd", "_law_part", "_law_clock", "_law_dotted", "_law_dots", "_law_stretches", "DAY"] : List Str)
theorem runT (w : World) : HandSHeadRun.RunEq RR (PySem.W.view RR.prog [23]) hkT obT 4000 looseT w := by
  intro os
  kernel_rfl
theorem factsT {P : Program} {w : World} {K : PySem.W.Frag} {h : Heap} {mg : Str → Option Value} {f : Addr} (X : K.In h) (G : h.Ns mainGlobals mg) (hfa : mg ("law" : Str) = some (.ref f)) (c : He.SaysD faT fnT K) (ct : txOk K txT = true) :
    ∃ fd : FuncData, (∀ (s : Shared) (v : Value), BindsTo s fd ⟨[v], []⟩ [("_law_script", v)]) ∧ ∀ base : Heap, K.In base → base.Ns mainGlobals mg → FnOkG P w K mg base 9 f fd ["_law_script"] (spM false ⟨K, w⟩ 1 m_law) := by
  obtain ⟨fd_divisor, D_divisor⟩ := c.def_ 0 (d := h_divisor) rfl
  obtain ⟨fd_part, D_part⟩ := c.def_ 1 (d := h_part) rfl
  obtain ⟨fd_common_bottom, D_common_bottom⟩ := c.def_ 2 (d := h_common_bottom) rfl
  obtain ⟨fd_view_at, D_view_at⟩ := c.def_ 3 (d := h_view_at) rfl
  obtain ⟨fd_cells, D_cells⟩ := c.def_ 4 (d := h_cells) rfl
  obtain ⟨fd_stretches, D_stretches⟩ := c.def_ 5 (d := h_stretches) rfl
  obtain ⟨fd_length_of, D_length_of⟩ := c.def_ 6 (d := h_length_of) rfl
  obtain ⟨fd_count_stretches, D_count_stretches⟩ := c.def_ 7 (d := h_count_stretches) rfl
  obtain ⟨fd_views_of, D_views_of⟩ := c.def_ 8 (d := h_views_of) rfl
  obtain ⟨fd_count_views, D_count_views⟩ := c.def_ 9 (d := h_count_views) rfl
  obtain ⟨fd_longest_stretch, D_longest_stretch⟩ := c.def_ 10 (d := h_longest_stretch) rfl
  obtain ⟨fd_law_draw, D_law_draw⟩ := c.def_ 11 (d := h_law_draw) rfl
  obtain ⟨fd_law_like, D_law_like⟩ := c.def_ 12 (d := h_law_like) rfl
  obtain ⟨fd_law_gcd, D_law_gcd⟩ := c.def_ 13 (d := h_law_gcd) rfl
  obtain ⟨fd_law_part, D_law_part⟩ := c.def_ 14 (d := h_law_part) rfl
  obtain ⟨fd_law_clock, D_law_clock⟩ := c.def_ 15 (d := h_law_clock) rfl
  obtain ⟨fd_law_dotted, D_law_dotted⟩ := c.def_ 16 (d := h_law_dotted) rfl
  obtain ⟨fd_law_dots, D_law_dots⟩ := c.def_ 17 (d := h_law_dots) rfl
  obtain ⟨fd_law_stretches, D_law_stretches⟩ := c.def_ 18 (d := h_law_stretches) rfl
  obtain ⟨fd_law, D_law⟩ := c.def_ 19 (d := h_law) rfl
  have e := hfa.symm.trans (He.glo_ok X G (c.fact 19 (f := .glo "law") rfl))
  cases e
  have hb : ∀ (s : Shared) (v : Value), BindsTo s fd_law ⟨[v], []⟩ [("_law_script", v)] := fun s v => FunD.bindsA (ps := ["_law_script"]) D_law (fun _ _ _ _ _ _ us hl => match us, hl with | [_], _ => rfl) s [v] rfl
  refine ⟨fd_law, hb, fun base KB GB => ?_⟩
  have z_abs : mg "abs" = none := He.free_ok X G (c.fact 20 (f := .free "abs") rfl)
  have z_bool : mg "bool" = none := He.free_ok X G (c.fact 21 (f := .free "bool") rfl)
  have z_int : mg "int" = none := He.free_ok X G (c.fact 22 (f := .free "int") rfl)
  have z_isinstance : mg "isinstance" = none := He.free_ok X G (c.fact 23 (f := .free "isinstance") rfl)
  have z_len : mg "len" = none := He.free_ok X G (c.fact 24 (f := .free "len") rfl)
  have z_list : mg "list" = none := He.free_ok X G (c.fact 25 (f := .free "list") rfl)
  have z_max : mg "max" = none := He.free_ok X G (c.fact 26 (f := .free "max") rfl)
  have z_min : mg "min" = none := He.free_ok X G (c.fact 27 (f := .free "min") rfl)
  have z_range : mg "range" = none := He.free_ok X G (c.fact 28 (f := .free "range") rfl)
  have z_set : mg "set" = none := He.free_ok X G (c.fact 29 (f := .free "set") rfl)
  have z_sorted : mg "sorted" = none := He.free_ok X G (c.fact 30 (f := .free "sorted") rfl)
  have z_str : mg "str" = none := He.free_ok X G (c.fact 31 (f := .free "str") rfl)
  have z_tuple : mg "tuple" = none := He.free_ok X G (c.fact 32 (f := .free "tuple") rfl)
  have z_zip : mg "zip" = none := He.free_ok X G (c.fact 33 (f := .free "zip") rfl)
  obtain ⟨v_DAY, u_DAY, e_DAY, r_DAY, q_DAY⟩ := tx_ok X G ct (x := "DAY") (d := (.tup [(.int (1)), (.int (1))])) 0 rfl
  have c_DAY : KC K mg "DAY" k_DAY := ⟨v_DAY, u_DAY, e_DAY, r_DAY, q_DAY⟩
  have F_divisor := ok_divisor (P := P) (w := w) (base := base) D_divisor (He.glo_ok X G (c.fact 0 (f := .glo "divisor") rfl)) z_abs
  have F_view_at := ok_view_at (P := P) (w := w) (base := base) D_view_at (He.glo_ok X G (c.fact 3 (f := .glo "view_at") rfl)) z_min z_range z_sorted z_zip
  have F_law_draw := ok_law_draw (P := P) (w := w) (base := base) D_law_draw (He.glo_ok X G (c.fact 11 (f := .glo "_law_draw") rfl)) z_int z_len
  have F_law_gcd := ok_law_gcd (P := P) (w := w) (base := base) D_law_gcd (He.glo_ok X G (c.fact 13 (f := .glo "_law_gcd") rfl)) z_abs z_int
  have F_part := ok_part (P := P) (w := w) (base := base) D_part (He.glo_ok X G (c.fact 1 (f := .glo "part") rfl)) F_divisor
  have F_common_bottom := ok_common_bottom (P := P) (w := w) (base := base) D_common_bottom (He.glo_ok X G (c.fact 2 (f := .glo "common_bottom") rfl)) F_divisor z_abs
  have F_law_part := ok_law_part (P := P) (w := w) (base := base) D_law_part (He.glo_ok X G (c.fact 14 (f := .glo "_law_part") rfl)) F_law_gcd z_int
  have F_law_clock := ok_law_clock (P := P) (w := w) (base := base) D_law_clock (He.glo_ok X G (c.fact 15 (f := .glo "_law_clock") rfl)) F_law_draw F_law_gcd z_range z_tuple
  have F_cells := ok_cells (P := P) (w := w) (base := base) D_cells (He.glo_ok X G (c.fact 4 (f := .glo "cells") rfl)) F_common_bottom F_view_at z_abs z_range z_sorted z_zip
  have F_length_of := ok_length_of (P := P) (w := w) (base := base) D_length_of (He.glo_ok X G (c.fact 6 (f := .glo "length_of") rfl)) F_part c_DAY
  have F_law_dotted := ok_law_dotted (P := P) (w := w) (base := base) D_law_dotted (He.glo_ok X G (c.fact 16 (f := .glo "_law_dotted") rfl)) F_law_clock F_law_draw F_law_gcd z_abs
  have F_law_dots := ok_law_dots (P := P) (w := w) (base := base) D_law_dots (He.glo_ok X G (c.fact 17 (f := .glo "_law_dots") rfl)) F_law_part z_int z_min z_range z_sorted z_str z_zip
  have F_stretches := ok_stretches (P := P) (w := w) (base := base) D_stretches (He.glo_ok X G (c.fact 5 (f := .glo "stretches") rfl)) F_cells z_len
  have F_law_stretches := ok_law_stretches (P := P) (w := w) (base := base) D_law_stretches (He.glo_ok X G (c.fact 18 (f := .glo "_law_stretches") rfl)) F_law_dots z_range z_zip
  have F_count_stretches := ok_count_stretches (P := P) (w := w) (base := base) D_count_stretches (He.glo_ok X G (c.fact 7 (f := .glo "count_stretches") rfl)) F_stretches z_len
  have F_views_of := ok_views_of (P := P) (w := w) (base := base) D_views_of (He.glo_ok X G (c.fact 8 (f := .glo "views_of") rfl)) F_stretches z_tuple
  have F_longest_stretch := ok_longest_stretch (P := P) (w := w) (base := base) D_longest_stretch (He.glo_ok X G (c.fact 10 (f := .glo "longest_stretch") rfl)) F_common_bottom F_length_of F_stretches z_max
  have F_count_views := ok_count_views (P := P) (w := w) (base := base) D_count_views (He.glo_ok X G (c.fact 9 (f := .glo "count_views") rfl)) F_views_of z_len
  have F_law_like := ok_law_like (P := P) (w := w) (base := base) D_law_like (He.glo_ok X G (c.fact 12 (f := .glo "_law_like") rfl)) z_bool z_isinstance z_len z_list z_range z_tuple 8
  have F_law := ok_law (P := P) (w := w) (base := base) D_law (He.glo_ok X G (c.fact 19 (f := .glo "law") rfl)) F_law_dotted F_law_like F_law_part F_law_stretches F_count_stretches F_count_views F_longest_stretch z_len z_list z_max z_range z_set z_sorted
  exact F_law.ok
end K
namespace K
open DL
open L2 (atI ixN)
theorem gcd_loop (n : Nat) : ∀ (a b : Nat) (ρ0 ρ1 : Slot) (S : List D), b < n → whileN (cV (eBin dGt (eB 3) (eC (.int 0)))) (sPar 2 3 (eV 3) (eBin dMod (eB 2) (eB 3))) n [ρ0, ρ1, .val (.int a), .val (.int b)] S
    = some (.nx [ρ0, ρ1, .val (.int (Nat.gcd b a)), .val (.int 0)] S) := by
  induction n with
  | zero => intro a b _ _ _ h; omega
  | succ n ih =>
    intro a b ρ0 ρ1 S h
    rw [ev_while]
    by_cases hb : b = 0
    · subst hb
      have hn : ¬ (0 : Int) < ((0 : Nat) : Int) := by omega
      simp only [ev_C, ev_V, ev_B, ev_aN, ev_aC, ev_Tup, ev_Lst, ev_Bin, ev_Un, ev_UnF, ev_cV, ev_cAnd, ev_cOr, ev_cNot, ev_cYes, ev_And, ev_Or, ev_Not, ev_If, ev_Chain, ev_Call, ev_Ix, ev_Sl, ev_oN, ev_oE, ev_aS, ev_Comp, ev_iAny, ev_iRange1, ev_iRange2, ev_iZip, ev_iEnum, ev_sNil, ev_sSeq, ev_sIf, ev_sRet, ev_sRetO, ev_sRetN, ev_sAsg, ev_sSet, ev_sSetO, ev_sPar, ev_sFor, ev_sWhile, ev_sApp, ev_sIxO, ev_sIxC, ev_sFrz, ev_sExp, ev_sPass, ev_runB, ev_forN, ev_compN, ev_put0, ev_put1, ev_wipe0, ev_wipe1, ev_bnm, ev_btup, ev_bL0, ev_bL1, dv_add, dv_sub, dv_neg, dv_lt, dv_le, dv_gt, dv_ge, dv_int, dv_abs, dv_lenL, dv_lenT, dv_tupL, dv_tupT, dv_lofL, dv_lofT, dv_lofS, dv_seqL, dv_seqT, dv_ixL, dv_ixT, dv_ixO, atI_0, atI_1, atI_2, Option.bind_some, Option.bind_none, List.getElem?_cons_zero, List.getElem?_cons_succ, List.getElem?_nil, List.set_cons_zero, List.set_cons_succ, List.set_nil, List.length_cons, List.length_nil, List.map_cons, List.map_nil, List.replicate_succ, List.replicate_zero, List.cons_append, List.nil_append, Nat.reduceAdd, Nat.reduceSub, Nat.reduceLeDiff, Nat.zero_add, Nat.sub_zero, Nat.add_zero, if_true, if_false, Bool.false_eq_true, Nat.reduceEqDiff, Bool.not_true, Bool.not_false, decide_true, decide_false, ev_nat, decide_eq_false hn]
      rw [Nat.gcd_zero_left]
      rfl
    · have hp : (0 : Int) < b := by omega
      have := ih b (a % b) ρ0 ρ1 S (by have := Nat.mod_lt a (show b > 0 by omega); omega)
      simp only [ev_C, ev_V, ev_B, ev_aN, ev_aC, ev_Tup, ev_Lst, ev_Bin, ev_Un, ev_UnF, ev_cV, ev_cAnd, ev_cOr, ev_cNot, ev_cYes, ev_And, ev_Or, ev_Not, ev_If, ev_Chain, ev_Call, ev_Ix, ev_Sl, ev_oN, ev_oE, ev_aS, ev_Comp, ev_iAny, ev_iRange1, ev_iRange2, ev_iZip, ev_iEnum, ev_sNil, ev_sSeq, ev_sIf, ev_sRet, ev_sRetO, ev_sRetN, ev_sAsg, ev_sSet, ev_sSetO, ev_sPar, ev_sFor, ev_sWhile, ev_sApp, ev_sIxO, ev_sIxC, ev_sFrz, ev_sExp, ev_sPass, ev_runB, ev_forN, ev_compN, ev_put0, ev_put1, ev_wipe0, ev_wipe1, ev_bnm, ev_btup, ev_bL0, ev_bL1, dv_add, dv_sub, dv_neg, dv_lt, dv_le, dv_gt, dv_ge, dv_int, dv_abs, dv_lenL, dv_lenT, dv_tupL, dv_tupT, dv_lofL, dv_lofT, dv_lofS, dv_seqL, dv_seqT, dv_ixL, dv_ixT, dv_ixO, atI_0, atI_1, atI_2, Option.bind_some, Option.bind_none, List.getElem?_cons_zero, List.getElem?_cons_succ, List.getElem?_nil, List.set_cons_zero, List.set_cons_succ, List.set_nil, List.length_cons, List.length_nil, List.map_cons, List.map_nil, List.replicate_succ, List.replicate_zero, List.cons_append, List.nil_append, Nat.reduceAdd, Nat.reduceSub, Nat.reduceLeDiff, Nat.zero_add, Nat.sub_zero, Nat.add_zero, if_true, if_false, Bool.false_eq_true, Nat.reduceEqDiff, Bool.not_true, Bool.not_false, decide_true, decide_false, ev_nat, decide_eq_true hp, dv_mod _ _ hp]
      rw [← Int.natCast_emod, this, Nat.gcd_rec b a]
theorem gcd_loop2 (n : Nat) : ∀ (a b : Nat) (ρ0 ρ1 : Slot) (S : List D), b < n → whileN (cV (eBin dGt (eB 3) (eC (.int 0)))) (sPar 2 3 (eV 3) (eBin dMod (eUn dInt (eB 2)) (eB 3))) n [ρ0, ρ1, .val (.int a), .val (.int b)] S
    = some (.nx [ρ0, ρ1, .val (.int (Nat.gcd b a)), .val (.int 0)] S) := by
  induction n with
  | zero => intro a b _ _ _ h; omega
  | succ n ih =>
    intro a b ρ0 ρ1 S h
    rw [ev_while]
    by_cases hb : b = 0
    · subst hb
      have hn : ¬ (0 : Int) < ((0 : Nat) : Int) := by omega
      simp only [ev_C, ev_V, ev_B, ev_aN, ev_aC, ev_Tup, ev_Lst, ev_Bin, ev_Un, ev_UnF, ev_cV, ev_cAnd, ev_cOr, ev_cNot, ev_cYes, ev_And, ev_Or, ev_Not, ev_If, ev_Chain, ev_Call, ev_Ix, ev_Sl, ev_oN, ev_oE, ev_aS, ev_Comp, ev_iAny, ev_iRange1, ev_iRange2, ev_iZip, ev_iEnum, ev_sNil, ev_sSeq, ev_sIf, ev_sRet, ev_sRetO, ev_sRetN, ev_sAsg, ev_sSet, ev_sSetO, ev_sPar, ev_sFor, ev_sWhile, ev_sApp, ev_sIxO, ev_sIxC, ev_sFrz, ev_sExp, ev_sPass, ev_runB, ev_forN, ev_compN, ev_put0, ev_put1, ev_wipe0, ev_wipe1, ev_bnm, ev_btup, ev_bL0, ev_bL1, dv_add, dv_sub, dv_neg, dv_lt, dv_le, dv_gt, dv_ge, dv_int, dv_abs, dv_lenL, dv_lenT, dv_tupL, dv_tupT, dv_lofL, dv_lofT, dv_lofS, dv_seqL, dv_seqT, dv_ixL, dv_ixT, dv_ixO, atI_0, atI_1, atI_2, Option.bind_some, Option.bind_none, List.getElem?_cons_zero, List.getElem?_cons_succ, List.getElem?_nil, List.set_cons_zero, List.set_cons_succ, List.set_nil, List.length_cons, List.length_nil, List.map_cons, List.map_nil, List.replicate_succ, List.replicate_zero, List.cons_append, List.nil_append, Nat.reduceAdd, Nat.reduceSub, Nat.reduceLeDiff, Nat.zero_add, Nat.sub_zero, Nat.add_zero, if_true, if_false, Bool.false_eq_true, Nat.reduceEqDiff, Bool.not_true, Bool.not_false, decide_true, decide_false, ev_nat, decide_eq_false hn]
      rw [Nat.gcd_zero_left]
      rfl
    · have hp : (0 : Int) < b := by omega
      have := ih b (a % b) ρ0 ρ1 S (by have := Nat.mod_lt a (show b > 0 by omega); omega)
      simp only [ev_C, ev_V, ev_B, ev_aN, ev_aC, ev_Tup, ev_Lst, ev_Bin, ev_Un, ev_UnF, ev_cV, ev_cAnd, ev_cOr, ev_cNot, ev_cYes, ev_And, ev_Or, ev_Not, ev_If, ev_Chain, ev_Call, ev_Ix, ev_Sl, ev_oN, ev_oE, ev_aS, ev_Comp, ev_iAny, ev_iRange1, ev_iRange2, ev_iZip, ev_iEnum, ev_sNil, ev_sSeq, ev_sIf, ev_sRet, ev_sRetO, ev_sRetN, ev_sAsg, ev_sSet, ev_sSetO, ev_sPar, ev_sFor, ev_sWhile, ev_sApp, ev_sIxO, ev_sIxC, ev_sFrz, ev_sExp, ev_sPass, ev_runB, ev_forN, ev_compN, ev_put0, ev_put1, ev_wipe0, ev_wipe1, ev_bnm, ev_btup, ev_bL0, ev_bL1, dv_add, dv_sub, dv_neg, dv_lt, dv_le, dv_gt, dv_ge, dv_int, dv_abs, dv_lenL, dv_lenT, dv_tupL, dv_tupT, dv_lofL, dv_lofT, dv_lofS, dv_seqL, dv_seqT, dv_ixL, dv_ixT, dv_ixO, atI_0, atI_1, atI_2, Option.bind_some, Option.bind_none, List.getElem?_cons_zero, List.getElem?_cons_succ, List.getElem?_nil, List.set_cons_zero, List.set_cons_succ, List.set_nil, List.length_cons, List.length_nil, List.map_cons, List.map_nil, List.replicate_succ, List.replicate_zero, List.cons_append, List.nil_append, Nat.reduceAdd, Nat.reduceSub, Nat.reduceLeDiff, Nat.zero_add, Nat.sub_zero, Nat.add_zero, if_true, if_false, Bool.false_eq_true, Nat.reduceEqDiff, Bool.not_true, Bool.not_false, decide_true, decide_false, ev_nat, decide_eq_true hp, dv_mod _ _ hp]
      rw [← Int.natCast_emod, this, Nat.gcd_rec b a]
theorem m_divisor_eq (a b : Int) (S : List D) : m_divisor [.int a, .int b] S = some (.int (Int.gcd a b), S) := by
  unfold m_divisor g_divisor
  simp only [ev_C, ev_V, ev_B, ev_aN, ev_aC, ev_Tup, ev_Lst, ev_Bin, ev_Un, ev_UnF, ev_cV, ev_cAnd, ev_cOr, ev_cNot, ev_cYes, ev_And, ev_Or, ev_Not, ev_If, ev_Chain, ev_Call, ev_Ix, ev_Sl, ev_oN, ev_oE, ev_aS, ev_Comp, ev_iAny, ev_iRange1, ev_iRange2, ev_iZip, ev_iEnum, ev_sNil, ev_sSeq, ev_sIf, ev_sRet, ev_sRetO, ev_sRetN, ev_sAsg, ev_sSet, ev_sSetO, ev_sPar, ev_sFor, ev_sWhile, ev_sApp, ev_sIxO, ev_sIxC, ev_sFrz, ev_sExp, ev_sPass, ev_runB, ev_forN, ev_compN, ev_put0, ev_put1, ev_wipe0, ev_wipe1, ev_bnm, ev_btup, ev_bL0, ev_bL1, dv_add, dv_sub, dv_neg, dv_lt, dv_le, dv_gt, dv_ge, dv_int, dv_abs, dv_lenL, dv_lenT, dv_tupL, dv_tupT, dv_lofL, dv_lofT, dv_lofS, dv_seqL, dv_seqT, dv_ixL, dv_ixT, dv_ixO, atI_0, atI_1, atI_2, Option.bind_some, Option.bind_none, List.getElem?_cons_zero, List.getElem?_cons_succ, List.getElem?_nil, List.set_cons_zero, List.set_cons_succ, List.set_nil, List.length_cons, List.length_nil, List.map_cons, List.map_nil, List.replicate_succ, List.replicate_zero, List.cons_append, List.nil_append, Nat.reduceAdd, Nat.reduceSub, Nat.reduceLeDiff, Nat.zero_add, Nat.sub_zero, Nat.add_zero, if_true, if_false, Bool.false_eq_true, Nat.reduceEqDiff, Bool.not_true, Bool.not_false, decide_true, decide_false, ev_nat]
  rw [gcd_loop _ _ _ _ _ _ (by rw [Int.natAbs_natCast]; exact Nat.lt_succ_self _)]
  simp only [ev_C, ev_V, ev_B, ev_aN, ev_aC, ev_Tup, ev_Lst, ev_Bin, ev_Un, ev_UnF, ev_cV, ev_cAnd, ev_cOr, ev_cNot, ev_cYes, ev_And, ev_Or, ev_Not, ev_If, ev_Chain, ev_Call, ev_Ix, ev_Sl, ev_oN, ev_oE, ev_aS, ev_Comp, ev_iAny, ev_iRange1, ev_iRange2, ev_iZip, ev_iEnum, ev_sNil, ev_sSeq, ev_sIf, ev_sRet, ev_sRetO, ev_sRetN, ev_sAsg, ev_sSet, ev_sSetO, ev_sPar, ev_sFor, ev_sWhile, ev_sApp, ev_sIxO, ev_sIxC, ev_sFrz, ev_sExp, ev_sPass, ev_runB, ev_forN, ev_compN, ev_put0, ev_put1, ev_wipe0, ev_wipe1, ev_bnm, ev_btup, ev_bL0, ev_bL1, dv_add, dv_sub, dv_neg, dv_lt, dv_le, dv_gt, dv_ge, dv_int, dv_abs, dv_lenL, dv_lenT, dv_tupL, dv_tupT, dv_lofL, dv_lofT, dv_lofS, dv_seqL, dv_seqT, dv_ixL, dv_ixT, dv_ixO, atI_0, atI_1, atI_2, Option.bind_some, Option.bind_none, List.getElem?_cons_zero, List.getElem?_cons_succ, List.getElem?_nil, List.set_cons_zero, List.set_cons_succ, List.set_nil, List.length_cons, List.length_nil, List.map_cons, List.map_nil, List.replicate_succ, List.replicate_zero, List.cons_append, List.nil_append, Nat.reduceAdd, Nat.reduceSub, Nat.reduceLeDiff, Nat.zero_add, Nat.sub_zero, Nat.add_zero, if_true, if_false, Bool.false_eq_true, Nat.reduceEqDiff, Bool.not_true, Bool.not_false, decide_true, decide_false, ev_nat]
  rw [Nat.gcd_comm]
  rfl
theorem m_law_gcd_eq (a b : Int) (S : List D) : m_law_gcd [.int a, .int b] S = some (.int (Int.gcd a b), S) := by
  unfold m_law_gcd g_law_gcd
  simp only [ev_C, ev_V, ev_B, ev_aN, ev_aC, ev_Tup, ev_Lst, ev_Bin, ev_Un, ev_UnF, ev_cV, ev_cAnd, ev_cOr, ev_cNot, ev_cYes, ev_And, ev_Or, ev_Not, ev_If, ev_Chain, ev_Call, ev_Ix, ev_Sl, ev_oN, ev_oE, ev_aS, ev_Comp, ev_iAny, ev_iRange1, ev_iRange2, ev_iZip, ev_iEnum, ev_sNil, ev_sSeq, ev_sIf, ev_sRet, ev_sRetO, ev_sRetN, ev_sAsg, ev_sSet, ev_sSetO, ev_sPar, ev_sFor, ev_sWhile, ev_sApp, ev_sIxO, ev_sIxC, ev_sFrz, ev_sExp, ev_sPass, ev_runB, ev_forN, ev_compN, ev_put0, ev_put1, ev_wipe0, ev_wipe1, ev_bnm, ev_btup, ev_bL0, ev_bL1, dv_add, dv_sub, dv_neg, dv_lt, dv_le, dv_gt, dv_ge, dv_int, dv_abs, dv_lenL, dv_lenT, dv_tupL, dv_tupT, dv_lofL, dv_lofT, dv_lofS, dv_seqL, dv_seqT, dv_ixL, dv_ixT, dv_ixO, atI_0, atI_1, atI_2, Option.bind_some, Option.bind_none, List.getElem?_cons_zero, List.getElem?_cons_succ, List.getElem?_nil, List.set_cons_zero, List.set_cons_succ, List.set_nil, List.length_cons, List.length_nil, List.map_cons, List.map_nil, List.replicate_succ, List.replicate_zero, List.cons_append, List.nil_append, Nat.reduceAdd, Nat.reduceSub, Nat.reduceLeDiff, Nat.zero_add, Nat.sub_zero, Nat.add_zero, if_true, if_false, Bool.false_eq_true, Nat.reduceEqDiff, Bool.not_true, Bool.not_false, decide_true, decide_false, ev_nat]
  rw [gcd_loop2 _ _ _ _ _ _ (by rw [Int.natAbs_natCast]; exact Nat.lt_succ_self _)]
  simp only [ev_C, ev_V, ev_B, ev_aN, ev_aC, ev_Tup, ev_Lst, ev_Bin, ev_Un, ev_UnF, ev_cV, ev_cAnd, ev_cOr, ev_cNot, ev_cYes, ev_And, ev_Or, ev_Not, ev_If, ev_Chain, ev_Call, ev_Ix, ev_Sl, ev_oN, ev_oE, ev_aS, ev_Comp, ev_iAny, ev_iRange1, ev_iRange2, ev_iZip, ev_iEnum, ev_sNil, ev_sSeq, ev_sIf, ev_sRet, ev_sRetO, ev_sRetN, ev_sAsg, ev_sSet, ev_sSetO, ev_sPar, ev_sFor, ev_sWhile, ev_sApp, ev_sIxO, ev_sIxC, ev_sFrz, ev_sExp, ev_sPass, ev_runB, ev_forN, ev_compN, ev_put0, ev_put1, ev_wipe0, ev_wipe1, ev_bnm, ev_btup, ev_bL0, ev_bL1, dv_add, dv_sub, dv_neg, dv_lt, dv_le, dv_gt, dv_ge, dv_int, dv_abs, dv_lenL, dv_lenT, dv_tupL, dv_tupT, dv_lofL, dv_lofT, dv_lofS, dv_seqL, dv_seqT, dv_ixL, dv_ixT, dv_ixO, atI_0, atI_1, atI_2, Option.bind_some, Option.bind_none, List.getElem?_cons_zero, List.getElem?_cons_succ, List.getElem?_nil, List.set_cons_zero, List.set_cons_succ, List.set_nil, List.length_cons, List.length_nil, List.map_cons, List.map_nil, List.replicate_succ, List.replicate_zero, List.cons_append, List.nil_append, Nat.reduceAdd, Nat.reduceSub, Nat.reduceLeDiff, Nat.zero_add, Nat.sub_zero, Nat.add_zero, if_true, if_false, Bool.false_eq_true, Nat.reduceEqDiff, Bool.not_true, Bool.not_false, decide_true, decide_false, ev_nat]
  rw [Nat.gcd_comm]
  rfl
theorem wide_le {a b : Int} (h : wide b = true) (h0 : 0 ≤ a) (h1 : a ≤ b) : wide a = true := by
  have := wide_ok h
  exact decide_eq_true (by unfold Big; omega)
theorem gcd_pos' (t b : Int) (hb : 0 < b) : 0 < ((Int.gcd (t % b) b : Nat) : Int) := by
  have := Int.gcd_pos_of_ne_zero_right (t % b) (show b ≠ 0 by omega)
  omega
theorem gcd_le' (t b : Int) (hb : 0 < b) : ((Int.gcd (t % b) b : Nat) : Int) ≤ b := Int.le_of_dvd hb (Int.gcd_dvd_right ..)
theorem m_part_eq (t b : Int) (S : List D) (hb : 0 < b) (hw : wide b = true) : m_part [.int t, .int b] S = some (dR (fr ((t : Rat) / (b : Rat))), S) := by
  rw [← part_q t b hb]
  have g0 := gcd_pos' t b hb
  have gw := wide_le hw (Int.le_of_lt g0) (gcd_le' t b hb)
  unfold m_part g_part
  simp only [ev_C, ev_V, ev_B, ev_aN, ev_aC, ev_Tup, ev_Lst, ev_Bin, ev_Un, ev_UnF, ev_cV, ev_cAnd, ev_cOr, ev_cNot, ev_cYes, ev_And, ev_Or, ev_Not, ev_If, ev_Chain, ev_Call, ev_Ix, ev_Sl, ev_oN, ev_oE, ev_aS, ev_Comp, ev_iAny, ev_iRange1, ev_iRange2, ev_iZip, ev_iEnum, ev_sNil, ev_sSeq, ev_sIf, ev_sRet, ev_sRetO, ev_sRetN, ev_sAsg, ev_sSet, ev_sSetO, ev_sPar, ev_sFor, ev_sWhile, ev_sApp, ev_sIxO, ev_sIxC, ev_sFrz, ev_sExp, ev_sPass, ev_runB, ev_forN, ev_compN, ev_put0, ev_put1, ev_wipe0, ev_wipe1, ev_bnm, ev_btup, ev_bL0, ev_bL1, dv_add, dv_sub, dv_neg, dv_lt, dv_le, dv_gt, dv_ge, dv_int, dv_abs, dv_lenL, dv_lenT, dv_tupL, dv_tupT, dv_lofL, dv_lofT, dv_lofS, dv_seqL, dv_seqT, dv_ixL, dv_ixT, dv_ixO, atI_0, atI_1, atI_2, Option.bind_some, Option.bind_none, List.getElem?_cons_zero, List.getElem?_cons_succ, List.getElem?_nil, List.set_cons_zero, List.set_cons_succ, List.set_nil, List.length_cons, List.length_nil, List.map_cons, List.map_nil, List.replicate_succ, List.replicate_zero, List.cons_append, List.nil_append, Nat.reduceAdd, Nat.reduceSub, Nat.reduceLeDiff, Nat.zero_add, Nat.sub_zero, Nat.add_zero, if_true, if_false, Bool.false_eq_true, Nat.reduceEqDiff, Bool.not_true, Bool.not_false, decide_true, decide_false, ev_nat, dv_mod _ _ hb, m_divisor_eq, dv_div _ _ g0 gw]
theorem m_law_part_eq (t b : Int) (S : List D) (hb : 0 < b) (hw : wide b = true) : m_law_part [.int t, .int b] S = some (dR (fr ((t : Rat) / (b : Rat))), S) := by
  rw [← part_q t b hb]
  have g0 := gcd_pos' t b hb
  have gw := wide_le hw (Int.le_of_lt g0) (gcd_le' t b hb)
  unfold m_law_part g_law_part
  simp only [ev_C, ev_V, ev_B, ev_aN, ev_aC, ev_Tup, ev_Lst, ev_Bin, ev_Un, ev_UnF, ev_cV, ev_cAnd, ev_cOr, ev_cNot, ev_cYes, ev_And, ev_Or, ev_Not, ev_If, ev_Chain, ev_Call, ev_Ix, ev_Sl, ev_oN, ev_oE, ev_aS, ev_Comp, ev_iAny, ev_iRange1, ev_iRange2, ev_iZip, ev_iEnum, ev_sNil, ev_sSeq, ev_sIf, ev_sRet, ev_sRetO, ev_sRetN, ev_sAsg, ev_sSet, ev_sSetO, ev_sPar, ev_sFor, ev_sWhile, ev_sApp, ev_sIxO, ev_sIxC, ev_sFrz, ev_sExp, ev_sPass, ev_runB, ev_forN, ev_compN, ev_put0, ev_put1, ev_wipe0, ev_wipe1, ev_bnm, ev_btup, ev_bL0, ev_bL1, dv_add, dv_sub, dv_neg, dv_lt, dv_le, dv_gt, dv_ge, dv_int, dv_abs, dv_lenL, dv_lenT, dv_tupL, dv_tupT, dv_lofL, dv_lofT, dv_lofS, dv_seqL, dv_seqT, dv_ixL, dv_ixT, dv_ixO, atI_0, atI_1, atI_2, Option.bind_some, Option.bind_none, List.getElem?_cons_zero, List.getElem?_cons_succ, List.getElem?_nil, List.set_cons_zero, List.set_cons_succ, List.set_nil, List.length_cons, List.length_nil, List.map_cons, List.map_nil, List.replicate_succ, List.replicate_zero, List.cons_append, List.nil_append, Nat.reduceAdd, Nat.reduceSub, Nat.reduceLeDiff, Nat.zero_add, Nat.sub_zero, Nat.add_zero, if_true, if_false, Bool.false_eq_true, Nat.reduceEqDiff, Bool.not_true, Bool.not_false, decide_true, decide_false, ev_nat, dv_mod _ _ hb, m_law_gcd_eq, dv_div _ _ g0 gw]
structure Tape where
  c : List Int
  p : Int
  v : Int
def tp (t : Tape) : List D := [.lst [.lst (t.c.map .int), .int t.p, .int t.v]]
theorem ixN_31 : ixN 3 1 = some 1 := rfl
theorem ixN_32 : ixN 3 2 = some 2 := rfl
theorem dv_mul_s (a b : Int) (h : small a = true) : dMul (.int a) (.int b) = some (.int (a * b)) := dv_mul a b (by rw [h]; rfl)
theorem small_c1 : small 1000003 = true := by decide
theorem small_c2 : small 1181783497276652981 = true := by decide
theorem small_mod (x : Int) : small (x % 2305843009213693951) = true := by
  have h0 := Int.emod_nonneg x (show (2305843009213693951 : Int) ≠ 0 by decide)
  have h1 := Int.emod_lt_of_pos x (show (0 : Int) < 2305843009213693951 by decide)
  exact decide_eq_true (by omega)
theorem pow_18 : dPow (.int 10) (.int 18) = some (.int 1000000000000000000) := by rfl
theorem pow_6 : dPow (.int 10) (.int 6) = some (.int 1000000) := by rfl
theorem pow_15 : dPow (.int 10) (.int 15) = some (.int 1000000000000000) := by rfl
theorem mod_p (x : Int) : dMod (.int x) (.int 2305843009213693951) = some (.int (x % 2305843009213693951)) := dv_mod _ _ (by decide)
theorem cell_at (c : List Int) (p : Int) (h : 0 < c.length) : ∃ x, atI (c.map D.int) (p % (c.length : Int)) = some (.int x) := by
  have h0 := Int.emod_nonneg p (show (c.length : Int) ≠ 0 by omega)
  have h1 := Int.emod_lt_of_pos p (show (0 : Int) < c.length by omega)
  obtain ⟨n, hn⟩ : ∃ n : Nat, p % (c.length : Int) = n := ⟨(p % (c.length : Int)).toNat, by omega⟩
  rw [hn, atI_nat]
  refine ⟨c[n]'(by omega), ?_⟩
  rw [List.getElem?_map, List.getElem?_eq_getElem (by omega)]
  rfl
def drawIn : Sv := (sSeq (sSet 3 (eC (.int 0))) (sSeq (sIf (cV (eBin dGt (eUn dLen (eIx (eB 0) (eC (.int 0)))) (eC (.int 0)))) (sSet 3 (eIx (eIx (eB 0) (eC (.int 0))) (eBin dMod (eUn dInt (eIx (eB 0) (eC (.int 1)))) (eUn dLen (eIx (eB 0) (eC (.int 0))))))) sNil) (sSeq (sIf (cOr (cV (eBin dGe (eIx (eB 0) (eC (.int 1))) (eUn dLen (eIx (eB 0) (eC (.int 0)))))) (cV (eBin dLt (eB 3) (eBin dPow (eC (.int 10)) (eC (.int 18)))))) (sSeq (sSet 3 (eBin dMod (eUn dInt (eBin dAdd (eB 3) (eBin dMul (eC (.int 1000003)) (eIx (eB 0) (eC (.int 1)))))) (eB 2))) (sSeq (sSet 3 (eBin dMod (eUn dInt (eBin dAdd (eBin dAdd (eBin dMul (eB 3) (eB 3)) (eBin dMul (eC (.int 1181783497276652981)) (eB 3))) (eC (.int 2049848353892358983)))) (eB 2))) (sSet 3 (eBin dMod (eUn dInt (eBin dAdd (eBin dMul (eB 3) (eB 3)) (eC (.int 1442695040888963407)))) (eB 2))))) sNil) (sSeq (sIxC (eV 0) (eBin dAdd (eIx (eB 0) (eC (.int 1))) (eC (.int 1))) (eC (.int 1))) (sIxC (eV 0) (eV 3) (eC (.int 2)))))))
theorem draw_new (c : List Int) (p v many : Int) : ∃ y, drawIn
    [.val (.obj 0), .val (.int many), .val (.int 2305843009213693951), .non, .non] (tp ⟨c, p, v⟩) = some (.nx [.val (.obj 0), .val (.int many), .val (.int 2305843009213693951), .val (.int y), .non] (tp ⟨c, p + 1, y⟩)) := by
  unfold tp drawIn
  generalize hr : (sSeq _ _ : Sv) _ _ = r
  by_cases h : 0 < c.length
  · obtain ⟨x, hx⟩ := cell_at c p h
    have h' : (0 : Int) < c.length := by omega
    by_cases h2 : (c.length : Int) ≤ p
    · simp only [ev_C, ev_V, ev_B, ev_aN, ev_aC, ev_Tup, ev_Lst, ev_Bin, ev_Un, ev_UnF, ev_cV, ev_cAnd, ev_cOr, ev_cNot, ev_cYes, ev_And, ev_Or, ev_Not, ev_If, ev_Chain, ev_Call, ev_Ix, ev_Sl, ev_oN, ev_oE, ev_aS, ev_Comp, ev_iAny, ev_iRange1, ev_iRange2, ev_iZip, ev_iEnum, ev_sNil, ev_sSeq, ev_sIf, ev_sRet, ev_sRetO, ev_sRetN, ev_sAsg, ev_sSet, ev_sSetO, ev_sPar, ev_sFor, ev_sWhile, ev_sApp, ev_sIxO, ev_sIxC, ev_sFrz, ev_sExp, ev_sPass, ev_runB, ev_forN, ev_compN, ev_put0, ev_put1, ev_wipe0, ev_wipe1, ev_bnm, ev_btup, ev_bL0, ev_bL1, dv_add, dv_sub, dv_neg, dv_lt, dv_le, dv_gt, dv_ge, dv_int, dv_abs, dv_lenL, dv_lenT, dv_tupL, dv_tupT, dv_lofL, dv_lofT, dv_lofS, dv_seqL, dv_seqT, dv_ixL, dv_ixT, dv_ixO, atI_0, atI_1, atI_2, Option.bind_some, Option.bind_none, List.getElem?_cons_zero, List.getElem?_cons_succ, List.getElem?_nil, List.set_cons_zero, List.set_cons_succ, List.set_nil, List.length_cons, List.length_nil, List.map_cons, List.map_nil, List.replicate_succ, List.replicate_zero, List.cons_append, List.nil_append, Nat.reduceAdd, Nat.reduceSub, Nat.reduceLeDiff, Nat.zero_add, Nat.sub_zero, Nat.add_zero, if_true, if_false, Bool.false_eq_true, Nat.reduceEqDiff, Bool.not_true, Bool.not_false, decide_true, decide_false, ev_nat, ixN_31, ixN_32, dv_mul_s, small_c1, small_c2, small_mod, pow_18, mod_p, List.length_map, decide_eq_true h', dv_mod _ _ h', hx, decide_eq_true h2] at hr; exact ⟨_, hr.symm⟩
    · by_cases h3 : x < 1000000000000000000
      · simp only [ev_C, ev_V, ev_B, ev_aN, ev_aC, ev_Tup, ev_Lst, ev_Bin, ev_Un, ev_UnF, ev_cV, ev_cAnd, ev_cOr, ev_cNot, ev_cYes, ev_And, ev_Or, ev_Not, ev_If, ev_Chain, ev_Call, ev_Ix, ev_Sl, ev_oN, ev_oE, ev_aS, ev_Comp, ev_iAny, ev_iRange1, ev_iRange2, ev_iZip, ev_iEnum, ev_sNil, ev_sSeq, ev_sIf, ev_sRet, ev_sRetO, ev_sRetN, ev_sAsg, ev_sSet, ev_sSetO, ev_sPar, ev_sFor, ev_sWhile, ev_sApp, ev_sIxO, ev_sIxC, ev_sFrz, ev_sExp, ev_sPass, ev_runB, ev_forN, ev_compN, ev_put0, ev_put1, ev_wipe0, ev_wipe1, ev_bnm, ev_btup, ev_bL0, ev_bL1, dv_add, dv_sub, dv_neg, dv_lt, dv_le, dv_gt, dv_ge, dv_int, dv_abs, dv_lenL, dv_lenT, dv_tupL, dv_tupT, dv_lofL, dv_lofT, dv_lofS, dv_seqL, dv_seqT, dv_ixL, dv_ixT, dv_ixO, atI_0, atI_1, atI_2, Option.bind_some, Option.bind_none, List.getElem?_cons_zero, List.getElem?_cons_succ, List.getElem?_nil, List.set_cons_zero, List.set_cons_succ, List.set_nil, List.length_cons, List.length_nil, List.map_cons, List.map_nil, List.replicate_succ, List.replicate_zero, List.cons_append, List.nil_append, Nat.reduceAdd, Nat.reduceSub, Nat.reduceLeDiff, Nat.zero_add, Nat.sub_zero, Nat.add_zero, if_true, if_false, Bool.false_eq_true, Nat.reduceEqDiff, Bool.not_true, Bool.not_false, decide_true, decide_false, ev_nat, ixN_31, ixN_32, dv_mul_s, small_c1, small_c2, small_mod, pow_18, mod_p, List.length_map, decide_eq_true h', dv_mod _ _ h', hx, decide_eq_false h2, decide_eq_true h3] at hr; exact ⟨_, hr.symm⟩
      · simp only [ev_C, ev_V, ev_B, ev_aN, ev_aC, ev_Tup, ev_Lst, ev_Bin, ev_Un, ev_UnF, ev_cV, ev_cAnd, ev_cOr, ev_cNot, ev_cYes, ev_And, ev_Or, ev_Not, ev_If, ev_Chain, ev_Call, ev_Ix, ev_Sl, ev_oN, ev_oE, ev_aS, ev_Comp, ev_iAny, ev_iRange1, ev_iRange2, ev_iZip, ev_iEnum, ev_sNil, ev_sSeq, ev_sIf, ev_sRet, ev_sRetO, ev_sRetN, ev_sAsg, ev_sSet, ev_sSetO, ev_sPar, ev_sFor, ev_sWhile, ev_sApp, ev_sIxO, ev_sIxC, ev_sFrz, ev_sExp, ev_sPass, ev_runB, ev_forN, ev_compN, ev_put0, ev_put1, ev_wipe0, ev_wipe1, ev_bnm, ev_btup, ev_bL0, ev_bL1, dv_add, dv_sub, dv_neg, dv_lt, dv_le, dv_gt, dv_ge, dv_int, dv_abs, dv_lenL, dv_lenT, dv_tupL, dv_tupT, dv_lofL, dv_lofT, dv_lofS, dv_seqL, dv_seqT, dv_ixL, dv_ixT, dv_ixO, atI_0, atI_1, atI_2, Option.bind_some, Option.bind_none, List.getElem?_cons_zero, List.getElem?_cons_succ, List.getElem?_nil, List.set_cons_zero, List.set_cons_succ, List.set_nil, List.length_cons, List.length_nil, List.map_cons, List.map_nil, List.replicate_succ, List.replicate_zero, List.cons_append, List.nil_append, Nat.reduceAdd, Nat.reduceSub, Nat.reduceLeDiff, Nat.zero_add, Nat.sub_zero, Nat.add_zero, if_true, if_false, Bool.false_eq_true, Nat.reduceEqDiff, Bool.not_true, Bool.not_false, decide_true, decide_false, ev_nat, ixN_31, ixN_32, dv_mul_s, small_c1, small_c2, small_mod, pow_18, mod_p, List.length_map, decide_eq_true h', dv_mod _ _ h', hx, decide_eq_false h2, decide_eq_false h3] at hr; exact ⟨_, hr.symm⟩
  · have h' : ¬ (0 : Int) < c.length := by omega
    have h3 : (0 : Int) < 1000000000000000000 := by decide
    by_cases h2 : (c.length : Int) ≤ p
    · simp only [ev_C, ev_V, ev_B, ev_aN, ev_aC, ev_Tup, ev_Lst, ev_Bin, ev_Un, ev_UnF, ev_cV, ev_cAnd, ev_cOr, ev_cNot, ev_cYes, ev_And, ev_Or, ev_Not, ev_If, ev_Chain, ev_Call, ev_Ix, ev_Sl, ev_oN, ev_oE, ev_aS, ev_Comp, ev_iAny, ev_iRange1, ev_iRange2, ev_iZip, ev_iEnum, ev_sNil, ev_sSeq, ev_sIf, ev_sRet, ev_sRetO, ev_sRetN, ev_sAsg, ev_sSet, ev_sSetO, ev_sPar, ev_sFor, ev_sWhile, ev_sApp, ev_sIxO, ev_sIxC, ev_sFrz, ev_sExp, ev_sPass, ev_runB, ev_forN, ev_compN, ev_put0, ev_put1, ev_wipe0, ev_wipe1, ev_bnm, ev_btup, ev_bL0, ev_bL1, dv_add, dv_sub, dv_neg, dv_lt, dv_le, dv_gt, dv_ge, dv_int, dv_abs, dv_lenL, dv_lenT, dv_tupL, dv_tupT, dv_lofL, dv_lofT, dv_lofS, dv_seqL, dv_seqT, dv_ixL, dv_ixT, dv_ixO, atI_0, atI_1, atI_2, Option.bind_some, Option.bind_none, List.getElem?_cons_zero, List.getElem?_cons_succ, List.getElem?_nil, List.set_cons_zero, List.set_cons_succ, List.set_nil, List.length_cons, List.length_nil, List.map_cons, List.map_nil, List.replicate_succ, List.replicate_zero, List.cons_append, List.nil_append, Nat.reduceAdd, Nat.reduceSub, Nat.reduceLeDiff, Nat.zero_add, Nat.sub_zero, Nat.add_zero, if_true, if_false, Bool.false_eq_true, Nat.reduceEqDiff, Bool.not_true, Bool.not_false, decide_true, decide_false, ev_nat, ixN_31, ixN_32, dv_mul_s, small_c1, small_c2, small_mod, pow_18, mod_p, List.length_map, decide_eq_false h', decide_eq_true h2] at hr; exact ⟨_, hr.symm⟩
    · simp only [ev_C, ev_V, ev_B, ev_aN, ev_aC, ev_Tup, ev_Lst, ev_Bin, ev_Un, ev_UnF, ev_cV, ev_cAnd, ev_cOr, ev_cNot, ev_cYes, ev_And, ev_Or, ev_Not, ev_If, ev_Chain, ev_Call, ev_Ix, ev_Sl, ev_oN, ev_oE, ev_aS, ev_Comp, ev_iAny, ev_iRange1, ev_iRange2, ev_iZip, ev_iEnum, ev_sNil, ev_sSeq, ev_sIf, ev_sRet, ev_sRetO, ev_sRetN, ev_sAsg, ev_sSet, ev_sSetO, ev_sPar, ev_sFor, ev_sWhile, ev_sApp, ev_sIxO, ev_sIxC, ev_sFrz, ev_sExp, ev_sPass, ev_runB, ev_forN, ev_compN, ev_put0, ev_put1, ev_wipe0, ev_wipe1, ev_bnm, ev_btup, ev_bL0, ev_bL1, dv_add, dv_sub, dv_neg, dv_lt, dv_le, dv_gt, dv_ge, dv_int, dv_abs, dv_lenL, dv_lenT, dv_tupL, dv_tupT, dv_lofL, dv_lofT, dv_lofS, dv_seqL, dv_seqT, dv_ixL, dv_ixT, dv_ixO, atI_0, atI_1, atI_2, Option.bind_some, Option.bind_none, List.getElem?_cons_zero, List.getElem?_cons_succ, List.getElem?_nil, List.set_cons_zero, List.set_cons_succ, List.set_nil, List.length_cons, List.length_nil, List.map_cons, List.map_nil, List.replicate_succ, List.replicate_zero, List.cons_append, List.nil_append, Nat.reduceAdd, Nat.reduceSub, Nat.reduceLeDiff, Nat.zero_add, Nat.sub_zero, Nat.add_zero, if_true, if_false, Bool.false_eq_true, Nat.reduceEqDiff, Bool.not_true, Bool.not_false, decide_true, decide_false, ev_nat, ixN_31, ixN_32, dv_mul_s, small_c1, small_c2, small_mod, pow_18, mod_p, List.length_map, decide_eq_false h', decide_eq_false h2, decide_eq_true h3] at hr; exact ⟨_, hr.symm⟩
theorem draw_ex (t : Tape) (many : Int) (hm : 0 < many) (hw : wide many = true) : ∃ r t', 0 ≤ r ∧ r < many ∧ m_law_draw [.obj 0, .int many] (tp t) = some (.int r, tp t') := by
  obtain ⟨c, p, v⟩ := t
  unfold m_law_draw
  by_cases h : v < many
  · obtain ⟨y, hy⟩ := draw_new c p v many
    refine ⟨y % many, ⟨c, p + 1, y / many⟩, Int.emod_nonneg _ (by omega), Int.emod_lt_of_pos _ hm, ?_⟩
    have e : g_law_draw = (sSeq (sSet 2 (eC (.int 2305843009213693951))) (sSeq (sIf (cV (eBin dLt (eIx (eB 0) (eC (.int 2))) (eB 1))) drawIn sNil) (sSeq (sSet 4 (eBin dMod (eUn dInt (eIx (eB 0) (eC (.int 2)))) (eB 1))) (sSeq (sIxC (eV 0) (eBin dDiv (eIx (eB 0) (eC (.int 2))) (eB 1)) (eC (.int 2))) (sRet (eV 4)))))) := rfl
    rw [e]
    unfold tp at hy ⊢
    simp only [ev_C, ev_V, ev_B, ev_aN, ev_aC, ev_Tup, ev_Lst, ev_Bin, ev_Un, ev_UnF, ev_cV, ev_cAnd, ev_cOr, ev_cNot, ev_cYes, ev_And, ev_Or, ev_Not, ev_If, ev_Chain, ev_Call, ev_Ix, ev_Sl, ev_oN, ev_oE, ev_aS, ev_Comp, ev_iAny, ev_iRange1, ev_iRange2, ev_iZip, ev_iEnum, ev_sNil, ev_sSeq, ev_sIf, ev_sRet, ev_sRetO, ev_sRetN, ev_sAsg, ev_sSet, ev_sSetO, ev_sPar, ev_sFor, ev_sWhile, ev_sApp, ev_sIxO, ev_sIxC, ev_sFrz, ev_sExp, ev_sPass, ev_runB, ev_forN, ev_compN, ev_put0, ev_put1, ev_wipe0, ev_wipe1, ev_bnm, ev_btup, ev_bL0, ev_bL1, dv_add, dv_sub, dv_neg, dv_lt, dv_le, dv_gt, dv_ge, dv_int, dv_abs, dv_lenL, dv_lenT, dv_tupL, dv_tupT, dv_lofL, dv_lofT, dv_lofS, dv_seqL, dv_seqT, dv_ixL, dv_ixT, dv_ixO, atI_0, atI_1, atI_2, Option.bind_some, Option.bind_none, List.getElem?_cons_zero, List.getElem?_cons_succ, List.getElem?_nil, List.set_cons_zero, List.set_cons_succ, List.set_nil, List.length_cons, List.length_nil, List.map_cons, List.map_nil, List.replicate_succ, List.replicate_zero, List.cons_append, List.nil_append, Nat.reduceAdd, Nat.reduceSub, Nat.reduceLeDiff, Nat.zero_add, Nat.sub_zero, Nat.add_zero, if_true, if_false, Bool.false_eq_true, Nat.reduceEqDiff, Bool.not_true, Bool.not_false, decide_true, decide_false, ev_nat, decide_eq_true h, hy, dv_mod _ _ hm, dv_div _ _ hm hw, ixN_32]
  · refine ⟨v % many, ⟨c, p, v / many⟩, Int.emod_nonneg _ (by omega), Int.emod_lt_of_pos _ hm, ?_⟩
    unfold g_law_draw
    simp only [tp, ev_C, ev_V, ev_B, ev_aN, ev_aC, ev_Tup, ev_Lst, ev_Bin, ev_Un, ev_UnF, ev_cV, ev_cAnd, ev_cOr, ev_cNot, ev_cYes, ev_And, ev_Or, ev_Not, ev_If, ev_Chain, ev_Call, ev_Ix, ev_Sl, ev_oN, ev_oE, ev_aS, ev_Comp, ev_iAny, ev_iRange1, ev_iRange2, ev_iZip, ev_iEnum, ev_sNil, ev_sSeq, ev_sIf, ev_sRet, ev_sRetO, ev_sRetN, ev_sAsg, ev_sSet, ev_sSetO, ev_sPar, ev_sFor, ev_sWhile, ev_sApp, ev_sIxO, ev_sIxC, ev_sFrz, ev_sExp, ev_sPass, ev_runB, ev_forN, ev_compN, ev_put0, ev_put1, ev_wipe0, ev_wipe1, ev_bnm, ev_btup, ev_bL0, ev_bL1, dv_add, dv_sub, dv_neg, dv_lt, dv_le, dv_gt, dv_ge, dv_int, dv_abs, dv_lenL, dv_lenT, dv_tupL, dv_tupT, dv_lofL, dv_lofT, dv_lofS, dv_seqL, dv_seqT, dv_ixL, dv_ixT, dv_ixO, atI_0, atI_1, atI_2, Option.bind_some, Option.bind_none, List.getElem?_cons_zero, List.getElem?_cons_succ, List.getElem?_nil, List.set_cons_zero, List.set_cons_succ, List.set_nil, List.length_cons, List.length_nil, List.map_cons, List.map_nil, List.replicate_succ, List.replicate_zero, List.cons_append, List.nil_append, Nat.reduceAdd, Nat.reduceSub, Nat.reduceLeDiff, Nat.zero_add, Nat.sub_zero, Nat.add_zero, if_true, if_false, Bool.false_eq_true, Nat.reduceEqDiff, Bool.not_true, Bool.not_false, decide_true, decide_false, ev_nat, decide_eq_false h, dv_mod _ _ hm, dv_div _ _ hm hw, ixN_32]
mutual
def lkD : Nat → D → Bool
  | _, .non => true
  | _, .bl _ => true
  | _, .int _ => true
  | _, .str x => PySem.PyData.strOk x
  | n + 1, .tup xs => decide (xs.length ≤ 16777216) && lkL n xs
  | n + 1, .lst xs => decide (xs.length ≤ 16777216) && lkL n xs
  | _, _ => false
def lkL : Nat → List D → Bool
  | _, [] => true
  | n, x :: xs => lkD n x && lkL n xs
end
theorem lkL_get : ∀ {n : Nat} {xs : List D} {i : Nat} (h : lkL n xs = true) (hi : i < xs.length), lkD n xs[i] = true
  | n, x :: xs, 0, h, _ => by
    have h' : lkD n x = true ∧ lkL n xs = true := by simpa [lkL] using h
    exact h'.1
  | n, x :: xs, i + 1, h, hi => by
    have h' : lkD n x = true ∧ lkL n xs = true := by simpa [lkL] using h
    exact lkL_get h'.2 (by simpa using hi)
theorem lkL_of {n : Nat} : ∀ {xs : List D}, (∀ x ∈ xs, lkD n x = true) → lkL n xs = true
  | [], _ => by simp [lkL]
  | x :: xs, h => by simp only [lkL, h x List.mem_cons_self, lkL_of (fun y m => h y (List.mem_cons_of_mem _ m)), Bool.and_self]
theorem dne_bl (b : Bool) : dNe (.bl b) (.bl b) = some (.bl false) := by
  cases b <;> rfl
theorem deq_bl (b : Bool) : dEq (.bl b) (.bl b) = some (.bl true) := by
  cases b <;> rfl
theorem dne_int (b : Int) : dNe (.int b) (.int b) = some (.bl false) := by
  unfold dNe
  simp [okD, eqD]
theorem deq_nil : dEq (.lst []) (.lst []) = some (.bl true) := by rfl
theorem like_comp (xs : List D) (m : List D → List D → Option (D × List D)) (S : List D) (d : D) (hix : ∀ (k : Nat), k < xs.length → ixD S d (.int k) = xs[k]?) (hm : ∀ (k : Nat) (h : k < xs.length), m [xs[k], xs[k]] S = some (.bl true, S)) :
    compL (.nm 2) (cNot (cV (eCall 2 m (aC (eIx (eB 0) (eB 2)) (aC (eIx (eB 1) (eB 2)) aN))))) (eV 2) [.val d, .val d, .non] ((List.range xs.length).map fun (k : Nat) => D.int (k : Int)) S = some ([], S) := by
  have q := compL_filter (p := .nm 2) (c := (cNot (cV (eCall 2 m (aC (eIx (eB 0) (eB 2)) (aC (eIx (eB 1) (eB 2)) aN)))))) (f := eV 2) (ρ := [.val d, .val d, .non]) (S := S) (fun (k : Nat) => D.int (k : Int)) (fun (k : Nat) => D.int (k : Int)) (fun _ => false) (List.range xs.length) (fun k hk => ?_)
  · rw [q]
    have : (List.range xs.length).filter (fun _ => false) = [] := by simp
    rw [this]
    rfl
  · have hk' : k < xs.length := by simpa using hk
    refine ⟨[(2, .int k)], ev_bnm _ _, ?_, fun h => (nomatch h)⟩
    have h1 := hix k hk'
    rw [List.getElem?_eq_getElem hk'] at h1
    simp only [ev_C, ev_V, ev_B, ev_aN, ev_aC, ev_Tup, ev_Lst, ev_Bin, ev_Un, ev_UnF, ev_cV, ev_cAnd, ev_cOr, ev_cNot, ev_cYes, ev_And, ev_Or, ev_Not, ev_If, ev_Chain, ev_Call, ev_Ix, ev_Sl, ev_oN, ev_oE, ev_aS, ev_Comp, ev_iAny, ev_iRange1, ev_iRange2, ev_iZip, ev_iEnum, ev_sNil, ev_sSeq, ev_sIf, ev_sRet, ev_sRetO, ev_sRetN, ev_sAsg, ev_sSet, ev_sSetO, ev_sPar, ev_sFor, ev_sWhile, ev_sApp, ev_sIxO, ev_sIxC, ev_sFrz, ev_sExp, ev_sPass, ev_runB, ev_forN, ev_compN, ev_put0, ev_put1, ev_wipe0, ev_wipe1, ev_bnm, ev_btup, ev_bL0, ev_bL1, dv_add, dv_sub, dv_neg, dv_lt, dv_le, dv_gt, dv_ge, dv_int, dv_abs, dv_lenL, dv_lenT, dv_tupL, dv_tupT, dv_lofL, dv_lofT, dv_lofS, dv_seqL, dv_seqT, dv_ixL, dv_ixT, dv_ixO, atI_0, atI_1, atI_2, Option.bind_some, Option.bind_none, List.getElem?_cons_zero, List.getElem?_cons_succ, List.getElem?_nil, List.set_cons_zero, List.set_cons_succ, List.set_nil, List.length_cons, List.length_nil, List.map_cons, List.map_nil, List.replicate_succ, List.replicate_zero, List.cons_append, List.nil_append, Nat.reduceAdd, Nat.reduceSub, Nat.reduceLeDiff, Nat.zero_add, Nat.sub_zero, Nat.add_zero, if_true, if_false, Bool.false_eq_true, Nat.reduceEqDiff, Bool.not_true, Bool.not_false, decide_true, decide_false, ev_nat, h1, hm k hk']
theorem inWord_len {n : Nat} (h : n ≤ 16777216) : inWord (n : Int) = true := by
  unfold inWord
  rw [Bool.and_eq_true]
  exact ⟨decide_eq_true (by omega), decide_eq_true (by omega)⟩
theorem like_flat (m : List D → List D → Option (D × List D)) (d : D) (S : List D) (h : lkD 0 d = true) : runB false 3 (g_law_like m) [d, d] S = some (.bl true, S) := by
  unfold g_law_like
  cases d with
  | non => simp only [ev_C, ev_V, ev_B, ev_aN, ev_aC, ev_Tup, ev_Lst, ev_Bin, ev_Un, ev_UnF, ev_cV, ev_cAnd, ev_cOr, ev_cNot, ev_cYes, ev_And, ev_Or, ev_Not, ev_If, ev_Chain, ev_Call, ev_Ix, ev_Sl, ev_oN, ev_oE, ev_aS, ev_Comp, ev_iAny, ev_iRange1, ev_iRange2, ev_iZip, ev_iEnum, ev_sNil, ev_sSeq, ev_sIf, ev_sRet, ev_sRetO, ev_sRetN, ev_sAsg, ev_sSet, ev_sSetO, ev_sPar, ev_sFor, ev_sWhile, ev_sApp, ev_sIxO, ev_sIxC, ev_sFrz, ev_sExp, ev_sPass, ev_runB, ev_forN, ev_compN, ev_put0, ev_put1, ev_wipe0, ev_wipe1, ev_bnm, ev_btup, ev_bL0, ev_bL1, dv_add, dv_sub, dv_neg, dv_lt, dv_le, dv_gt, dv_ge, dv_int, dv_abs, dv_lenL, dv_lenT, dv_tupL, dv_tupT, dv_lofL, dv_lofT, dv_lofS, dv_seqL, dv_seqT, dv_ixL, dv_ixT, dv_ixO, atI_0, atI_1, atI_2, Option.bind_some, Option.bind_none, List.getElem?_cons_zero, List.getElem?_cons_succ, List.getElem?_nil, List.set_cons_zero, List.set_cons_succ, List.set_nil, List.length_cons, List.length_nil, List.map_cons, List.map_nil, List.replicate_succ, List.replicate_zero, List.cons_append, List.nil_append, Nat.reduceAdd, Nat.reduceSub, Nat.reduceLeDiff, Nat.zero_add, Nat.sub_zero, Nat.add_zero, if_true, if_false, Bool.false_eq_true, Nat.reduceEqDiff, Bool.not_true, Bool.not_false, decide_true, decide_false, ev_nat, dIs, isLT, isBo, deq_bl, show dEq .non .non = some (.bl true) from rfl]
  | bl b => simp only [ev_C, ev_V, ev_B, ev_aN, ev_aC, ev_Tup, ev_Lst, ev_Bin, ev_Un, ev_UnF, ev_cV, ev_cAnd, ev_cOr, ev_cNot, ev_cYes, ev_And, ev_Or, ev_Not, ev_If, ev_Chain, ev_Call, ev_Ix, ev_Sl, ev_oN, ev_oE, ev_aS, ev_Comp, ev_iAny, ev_iRange1, ev_iRange2, ev_iZip, ev_iEnum, ev_sNil, ev_sSeq, ev_sIf, ev_sRet, ev_sRetO, ev_sRetN, ev_sAsg, ev_sSet, ev_sSetO, ev_sPar, ev_sFor, ev_sWhile, ev_sApp, ev_sIxO, ev_sIxC, ev_sFrz, ev_sExp, ev_sPass, ev_runB, ev_forN, ev_compN, ev_put0, ev_put1, ev_wipe0, ev_wipe1, ev_bnm, ev_btup, ev_bL0, ev_bL1, dv_add, dv_sub, dv_neg, dv_lt, dv_le, dv_gt, dv_ge, dv_int, dv_abs, dv_lenL, dv_lenT, dv_tupL, dv_tupT, dv_lofL, dv_lofT, dv_lofS, dv_seqL, dv_seqT, dv_ixL, dv_ixT, dv_ixO, atI_0, atI_1, atI_2, Option.bind_some, Option.bind_none, List.getElem?_cons_zero, List.getElem?_cons_succ, List.getElem?_nil, List.set_cons_zero, List.set_cons_succ, List.set_nil, List.length_cons, List.length_nil, List.map_cons, List.map_nil, List.replicate_succ, List.replicate_zero, List.cons_append, List.nil_append, Nat.reduceAdd, Nat.reduceSub, Nat.reduceLeDiff, Nat.zero_add, Nat.sub_zero, Nat.add_zero, if_true, if_false, Bool.false_eq_true, Nat.reduceEqDiff, Bool.not_true, Bool.not_false, decide_true, decide_false, ev_nat, dIs, isLT, isBo, deq_bl]
  | int i => simp only [ev_C, ev_V, ev_B, ev_aN, ev_aC, ev_Tup, ev_Lst, ev_Bin, ev_Un, ev_UnF, ev_cV, ev_cAnd, ev_cOr, ev_cNot, ev_cYes, ev_And, ev_Or, ev_Not, ev_If, ev_Chain, ev_Call, ev_Ix, ev_Sl, ev_oN, ev_oE, ev_aS, ev_Comp, ev_iAny, ev_iRange1, ev_iRange2, ev_iZip, ev_iEnum, ev_sNil, ev_sSeq, ev_sIf, ev_sRet, ev_sRetO, ev_sRetN, ev_sAsg, ev_sSet, ev_sSetO, ev_sPar, ev_sFor, ev_sWhile, ev_sApp, ev_sIxO, ev_sIxC, ev_sFrz, ev_sExp, ev_sPass, ev_runB, ev_forN, ev_compN, ev_put0, ev_put1, ev_wipe0, ev_wipe1, ev_bnm, ev_btup, ev_bL0, ev_bL1, dv_add, dv_sub, dv_neg, dv_lt, dv_le, dv_gt, dv_ge, dv_int, dv_abs, dv_lenL, dv_lenT, dv_tupL, dv_tupT, dv_lofL, dv_lofT, dv_lofS, dv_seqL, dv_seqT, dv_ixL, dv_ixT, dv_ixO, atI_0, atI_1, atI_2, Option.bind_some, Option.bind_none, List.getElem?_cons_zero, List.getElem?_cons_succ, List.getElem?_nil, List.set_cons_zero, List.set_cons_succ, List.set_nil, List.length_cons, List.length_nil, List.map_cons, List.map_nil, List.replicate_succ, List.replicate_zero, List.cons_append, List.nil_append, Nat.reduceAdd, Nat.reduceSub, Nat.reduceLeDiff, Nat.zero_add, Nat.sub_zero, Nat.add_zero, if_true, if_false, Bool.false_eq_true, Nat.reduceEqDiff, Bool.not_true, Bool.not_false, decide_true, decide_false, ev_nat, dIs, isLT, isBo, deq_bl, show dEq (.int i) (.int i) = some (.bl true) by unfold dEq; simp [okD, eqD]]
  | str x =>
    have h' : PySem.PyData.strOk x = true := by simpa [lkD] using h
    simp only [ev_C, ev_V, ev_B, ev_aN, ev_aC, ev_Tup, ev_Lst, ev_Bin, ev_Un, ev_UnF, ev_cV, ev_cAnd, ev_cOr, ev_cNot, ev_cYes, ev_And, ev_Or, ev_Not, ev_If, ev_Chain, ev_Call, ev_Ix, ev_Sl, ev_oN, ev_oE, ev_aS, ev_Comp, ev_iAny, ev_iRange1, ev_iRange2, ev_iZip, ev_iEnum, ev_sNil, ev_sSeq, ev_sIf, ev_sRet, ev_sRetO, ev_sRetN, ev_sAsg, ev_sSet, ev_sSetO, ev_sPar, ev_sFor, ev_sWhile, ev_sApp, ev_sIxO, ev_sIxC, ev_sFrz, ev_sExp, ev_sPass, ev_runB, ev_forN, ev_compN, ev_put0, ev_put1, ev_wipe0, ev_wipe1, ev_bnm, ev_btup, ev_bL0, ev_bL1, dv_add, dv_sub, dv_neg, dv_lt, dv_le, dv_gt, dv_ge, dv_int, dv_abs, dv_lenL, dv_lenT, dv_tupL, dv_tupT, dv_lofL, dv_lofT, dv_lofS, dv_seqL, dv_seqT, dv_ixL, dv_ixT, dv_ixO, atI_0, atI_1, atI_2, Option.bind_some, Option.bind_none, List.getElem?_cons_zero, List.getElem?_cons_succ, List.getElem?_nil, List.set_cons_zero, List.set_cons_succ, List.set_nil, List.length_cons, List.length_nil, List.map_cons, List.map_nil, List.replicate_succ, List.replicate_zero, List.cons_append, List.nil_append, Nat.reduceAdd, Nat.reduceSub, Nat.reduceLeDiff, Nat.zero_add, Nat.sub_zero, Nat.add_zero, if_true, if_false, Bool.false_eq_true, Nat.reduceEqDiff, Bool.not_true, Bool.not_false, decide_true, decide_false, ev_nat, dIs, isLT, isBo, deq_bl, show dEq (.str x) (.str x) = some (.bl true) by unfold dEq; simp [okD, eqD, h']]
  | tup _ => simp [lkD] at h
  | lst _ => simp [lkD] at h
  | obj _ => simp [lkD] at h
  | _ => simp [lkD] at h
theorem like_lst (m : List D → List D → Option (D × List D)) (xs S : List D) (hl : xs.length ≤ 16777216) (hm : ∀ (k : Nat) (h : k < xs.length), m [xs[k], xs[k]] S = some (.bl true, S)) : runB false 3 (g_law_like m) [.lst xs, .lst xs] S = some (.bl true, S) := by
  have c := like_comp xs m S (.lst xs) (fun k _ => by rw [dv_ixL, atI_nat]) hm
  unfold g_law_like
  refine run_rt (ρ := [.val (.lst xs), .val (.lst xs), .non]) rfl ((seq_rt ?_))
  refine (if_t (S' := S) ?_).trans ?_
  · simp only [ev_C, ev_V, ev_B, ev_aN, ev_aC, ev_Tup, ev_Lst, ev_Bin, ev_Un, ev_UnF, ev_cV, ev_cAnd, ev_cOr, ev_cNot, ev_cYes, ev_And, ev_Or, ev_Not, ev_If, ev_Chain, ev_Call, ev_Ix, ev_Sl, ev_oN, ev_oE, ev_aS, ev_Comp, ev_iAny, ev_iRange1, ev_iRange2, ev_iZip, ev_iEnum, ev_sNil, ev_sSeq, ev_sIf, ev_sRet, ev_sRetO, ev_sRetN, ev_sAsg, ev_sSet, ev_sSetO, ev_sPar, ev_sFor, ev_sWhile, ev_sApp, ev_sIxO, ev_sIxC, ev_sFrz, ev_sExp, ev_sPass, ev_runB, ev_forN, ev_compN, ev_put0, ev_put1, ev_wipe0, ev_wipe1, ev_bnm, ev_btup, ev_bL0, ev_bL1, dv_add, dv_sub, dv_neg, dv_lt, dv_le, dv_gt, dv_ge, dv_int, dv_abs, dv_lenL, dv_lenT, dv_tupL, dv_tupT, dv_lofL, dv_lofT, dv_lofS, dv_seqL, dv_seqT, dv_ixL, dv_ixT, dv_ixO, atI_0, atI_1, atI_2, Option.bind_some, Option.bind_none, List.getElem?_cons_zero, List.getElem?_cons_succ, List.getElem?_nil, List.set_cons_zero, List.set_cons_succ, List.set_nil, List.length_cons, List.length_nil, List.map_cons, List.map_nil, List.replicate_succ, List.replicate_zero, List.cons_append, List.nil_append, Nat.reduceAdd, Nat.reduceSub, Nat.reduceLeDiff, Nat.zero_add, Nat.sub_zero, Nat.add_zero, if_true, if_false, Bool.false_eq_true, Nat.reduceEqDiff, Bool.not_true, Bool.not_false, decide_true, decide_false, ev_nat, dIs, isLT]
  refine (seq_nx (ρ' := [.val (.lst xs), .val (.lst xs), .non]) (S' := S) ?_).trans ?_
  · simp only [ev_C, ev_V, ev_B, ev_aN, ev_aC, ev_Tup, ev_Lst, ev_Bin, ev_Un, ev_UnF, ev_cV, ev_cAnd, ev_cOr, ev_cNot, ev_cYes, ev_And, ev_Or, ev_Not, ev_If, ev_Chain, ev_Call, ev_Ix, ev_Sl, ev_oN, ev_oE, ev_aS, ev_Comp, ev_iAny, ev_iRange1, ev_iRange2, ev_iZip, ev_iEnum, ev_sNil, ev_sSeq, ev_sIf, ev_sRet, ev_sRetO, ev_sRetN, ev_sAsg, ev_sSet, ev_sSetO, ev_sPar, ev_sFor, ev_sWhile, ev_sApp, ev_sIxO, ev_sIxC, ev_sFrz, ev_sExp, ev_sPass, ev_runB, ev_forN, ev_compN, ev_put0, ev_put1, ev_wipe0, ev_wipe1, ev_bnm, ev_btup, ev_bL0, ev_bL1, dv_add, dv_sub, dv_neg, dv_lt, dv_le, dv_gt, dv_ge, dv_int, dv_abs, dv_lenL, dv_lenT, dv_tupL, dv_tupT, dv_lofL, dv_lofT, dv_lofS, dv_seqL, dv_seqT, dv_ixL, dv_ixT, dv_ixO, atI_0, atI_1, atI_2, Option.bind_some, Option.bind_none, List.getElem?_cons_zero, List.getElem?_cons_succ, List.getElem?_nil, List.set_cons_zero, List.set_cons_succ, List.set_nil, List.length_cons, List.length_nil, List.map_cons, List.map_nil, List.replicate_succ, List.replicate_zero, List.cons_append, List.nil_append, Nat.reduceAdd, Nat.reduceSub, Nat.reduceLeDiff, Nat.zero_add, Nat.sub_zero, Nat.add_zero, if_true, if_false, Bool.false_eq_true, Nat.reduceEqDiff, Bool.not_true, Bool.not_false, decide_true, decide_false, ev_nat, dIs, isL, isTp, dne_bl]
  refine (seq_nx (ρ' := [.val (.lst xs), .val (.lst xs), .non]) (S' := S) ?_).trans ?_
  · simp only [ev_C, ev_V, ev_B, ev_aN, ev_aC, ev_Tup, ev_Lst, ev_Bin, ev_Un, ev_UnF, ev_cV, ev_cAnd, ev_cOr, ev_cNot, ev_cYes, ev_And, ev_Or, ev_Not, ev_If, ev_Chain, ev_Call, ev_Ix, ev_Sl, ev_oN, ev_oE, ev_aS, ev_Comp, ev_iAny, ev_iRange1, ev_iRange2, ev_iZip, ev_iEnum, ev_sNil, ev_sSeq, ev_sIf, ev_sRet, ev_sRetO, ev_sRetN, ev_sAsg, ev_sSet, ev_sSetO, ev_sPar, ev_sFor, ev_sWhile, ev_sApp, ev_sIxO, ev_sIxC, ev_sFrz, ev_sExp, ev_sPass, ev_runB, ev_forN, ev_compN, ev_put0, ev_put1, ev_wipe0, ev_wipe1, ev_bnm, ev_btup, ev_bL0, ev_bL1, dv_add, dv_sub, dv_neg, dv_lt, dv_le, dv_gt, dv_ge, dv_int, dv_abs, dv_lenL, dv_lenT, dv_tupL, dv_tupT, dv_lofL, dv_lofT, dv_lofS, dv_seqL, dv_seqT, dv_ixL, dv_ixT, dv_ixO, atI_0, atI_1, atI_2, Option.bind_some, Option.bind_none, List.getElem?_cons_zero, List.getElem?_cons_succ, List.getElem?_nil, List.set_cons_zero, List.set_cons_succ, List.set_nil, List.length_cons, List.length_nil, List.map_cons, List.map_nil, List.replicate_succ, List.replicate_zero, List.cons_append, List.nil_append, Nat.reduceAdd, Nat.reduceSub, Nat.reduceLeDiff, Nat.zero_add, Nat.sub_zero, Nat.add_zero, if_true, if_false, Bool.false_eq_true, Nat.reduceEqDiff, Bool.not_true, Bool.not_false, decide_true, decide_false, ev_nat, dne_int]
  refine ret_s (bin_s (S' := S) (comp_s (ds := (List.range xs.length).map fun (k : Nat) => D.int (k : Int)) (S' := S) (res := []) ?_ (by simp only [List.length_map, List.length_range]; exact hl) (by simp only [ev_wipe1, ev_wipe0, List.set_cons_succ, List.set_cons_zero]; exact c)) (d2 := .lst []) (S2 := S) (lst_s (ds := []) rfl (Nat.zero_le _)) deq_nil)
  rw [← rangeD_eq]
  exact range1_s (by simp only [ev_C, ev_V, ev_B, ev_aN, ev_aC, ev_Tup, ev_Lst, ev_Bin, ev_Un, ev_UnF, ev_cV, ev_cAnd, ev_cOr, ev_cNot, ev_cYes, ev_And, ev_Or, ev_Not, ev_If, ev_Chain, ev_Call, ev_Ix, ev_Sl, ev_oN, ev_oE, ev_aS, ev_Comp, ev_iAny, ev_iRange1, ev_iRange2, ev_iZip, ev_iEnum, ev_sNil, ev_sSeq, ev_sIf, ev_sRet, ev_sRetO, ev_sRetN, ev_sAsg, ev_sSet, ev_sSetO, ev_sPar, ev_sFor, ev_sWhile, ev_sApp, ev_sIxO, ev_sIxC, ev_sFrz, ev_sExp, ev_sPass, ev_runB, ev_forN, ev_compN, ev_put0, ev_put1, ev_wipe0, ev_wipe1, ev_bnm, ev_btup, ev_bL0, ev_bL1, dv_add, dv_sub, dv_neg, dv_lt, dv_le, dv_gt, dv_ge, dv_int, dv_abs, dv_lenL, dv_lenT, dv_tupL, dv_tupT, dv_lofL, dv_lofT, dv_lofS, dv_seqL, dv_seqT, dv_ixL, dv_ixT, dv_ixO, atI_0, atI_1, atI_2, Option.bind_some, Option.bind_none, List.getElem?_cons_zero, List.getElem?_cons_succ, List.getElem?_nil, List.set_cons_zero, List.set_cons_succ, List.set_nil, List.length_cons, List.length_nil, List.map_cons, List.map_nil, List.replicate_succ, List.replicate_zero, List.cons_append, List.nil_append, Nat.reduceAdd, Nat.reduceSub, Nat.reduceLeDiff, Nat.zero_add, Nat.sub_zero, Nat.add_zero, if_true, if_false, Bool.false_eq_true, Nat.reduceEqDiff, Bool.not_true, Bool.not_false, decide_true, decide_false, ev_nat]) (inWord_len hl)
theorem like_tup (m : List D → List D → Option (D × List D)) (xs S : List D) (hl : xs.length ≤ 16777216) (hm : ∀ (k : Nat) (h : k < xs.length), m [xs[k], xs[k]] S = some (.bl true, S)) : runB false 3 (g_law_like m) [.tup xs, .tup xs] S = some (.bl true, S) := by
  have c := like_comp xs m S (.tup xs) (fun k _ => by rw [dv_ixT, atI_nat]) hm
  unfold g_law_like
  refine run_rt (ρ := [.val (.tup xs), .val (.tup xs), .non]) rfl ((seq_rt ?_))
  refine (if_t (S' := S) ?_).trans ?_
  · simp only [ev_C, ev_V, ev_B, ev_aN, ev_aC, ev_Tup, ev_Lst, ev_Bin, ev_Un, ev_UnF, ev_cV, ev_cAnd, ev_cOr, ev_cNot, ev_cYes, ev_And, ev_Or, ev_Not, ev_If, ev_Chain, ev_Call, ev_Ix, ev_Sl, ev_oN, ev_oE, ev_aS, ev_Comp, ev_iAny, ev_iRange1, ev_iRange2, ev_iZip, ev_iEnum, ev_sNil, ev_sSeq, ev_sIf, ev_sRet, ev_sRetO, ev_sRetN, ev_sAsg, ev_sSet, ev_sSetO, ev_sPar, ev_sFor, ev_sWhile, ev_sApp, ev_sIxO, ev_sIxC, ev_sFrz, ev_sExp, ev_sPass, ev_runB, ev_forN, ev_compN, ev_put0, ev_put1, ev_wipe0, ev_wipe1, ev_bnm, ev_btup, ev_bL0, ev_bL1, dv_add, dv_sub, dv_neg, dv_lt, dv_le, dv_gt, dv_ge, dv_int, dv_abs, dv_lenL, dv_lenT, dv_tupL, dv_tupT, dv_lofL, dv_lofT, dv_lofS, dv_seqL, dv_seqT, dv_ixL, dv_ixT, dv_ixO, atI_0, atI_1, atI_2, Option.bind_some, Option.bind_none, List.getElem?_cons_zero, List.getElem?_cons_succ, List.getElem?_nil, List.set_cons_zero, List.set_cons_succ, List.set_nil, List.length_cons, List.length_nil, List.map_cons, List.map_nil, List.replicate_succ, List.replicate_zero, List.cons_append, List.nil_append, Nat.reduceAdd, Nat.reduceSub, Nat.reduceLeDiff, Nat.zero_add, Nat.sub_zero, Nat.add_zero, if_true, if_false, Bool.false_eq_true, Nat.reduceEqDiff, Bool.not_true, Bool.not_false, decide_true, decide_false, ev_nat, dIs, isLT]
  refine (seq_nx (ρ' := [.val (.tup xs), .val (.tup xs), .non]) (S' := S) ?_).trans ?_
  · simp only [ev_C, ev_V, ev_B, ev_aN, ev_aC, ev_Tup, ev_Lst, ev_Bin, ev_Un, ev_UnF, ev_cV, ev_cAnd, ev_cOr, ev_cNot, ev_cYes, ev_And, ev_Or, ev_Not, ev_If, ev_Chain, ev_Call, ev_Ix, ev_Sl, ev_oN, ev_oE, ev_aS, ev_Comp, ev_iAny, ev_iRange1, ev_iRange2, ev_iZip, ev_iEnum, ev_sNil, ev_sSeq, ev_sIf, ev_sRet, ev_sRetO, ev_sRetN, ev_sAsg, ev_sSet, ev_sSetO, ev_sPar, ev_sFor, ev_sWhile, ev_sApp, ev_sIxO, ev_sIxC, ev_sFrz, ev_sExp, ev_sPass, ev_runB, ev_forN, ev_compN, ev_put0, ev_put1, ev_wipe0, ev_wipe1, ev_bnm, ev_btup, ev_bL0, ev_bL1, dv_add, dv_sub, dv_neg, dv_lt, dv_le, dv_gt, dv_ge, dv_int, dv_abs, dv_lenL, dv_lenT, dv_tupL, dv_tupT, dv_lofL, dv_lofT, dv_lofS, dv_seqL, dv_seqT, dv_ixL, dv_ixT, dv_ixO, atI_0, atI_1, atI_2, Option.bind_some, Option.bind_none, List.getElem?_cons_zero, List.getElem?_cons_succ, List.getElem?_nil, List.set_cons_zero, List.set_cons_succ, List.set_nil, List.length_cons, List.length_nil, List.map_cons, List.map_nil, List.replicate_succ, List.replicate_zero, List.cons_append, List.nil_append, Nat.reduceAdd, Nat.reduceSub, Nat.reduceLeDiff, Nat.zero_add, Nat.sub_zero, Nat.add_zero, if_true, if_false, Bool.false_eq_true, Nat.reduceEqDiff, Bool.not_true, Bool.not_false, decide_true, decide_false, ev_nat, dIs, isL, isTp, dne_bl]
  refine (seq_nx (ρ' := [.val (.tup xs), .val (.tup xs), .non]) (S' := S) ?_).trans ?_
  · simp only [ev_C, ev_V, ev_B, ev_aN, ev_aC, ev_Tup, ev_Lst, ev_Bin, ev_Un, ev_UnF, ev_cV, ev_cAnd, ev_cOr, ev_cNot, ev_cYes, ev_And, ev_Or, ev_Not, ev_If, ev_Chain, ev_Call, ev_Ix, ev_Sl, ev_oN, ev_oE, ev_aS, ev_Comp, ev_iAny, ev_iRange1, ev_iRange2, ev_iZip, ev_iEnum, ev_sNil, ev_sSeq, ev_sIf, ev_sRet, ev_sRetO, ev_sRetN, ev_sAsg, ev_sSet, ev_sSetO, ev_sPar, ev_sFor, ev_sWhile, ev_sApp, ev_sIxO, ev_sIxC, ev_sFrz, ev_sExp, ev_sPass, ev_runB, ev_forN, ev_compN, ev_put0, ev_put1, ev_wipe0, ev_wipe1, ev_bnm, ev_btup, ev_bL0, ev_bL1, dv_add, dv_sub, dv_neg, dv_lt, dv_le, dv_gt, dv_ge, dv_int, dv_abs, dv_lenL, dv_lenT, dv_tupL, dv_tupT, dv_lofL, dv_lofT, dv_lofS, dv_seqL, dv_seqT, dv_ixL, dv_ixT, dv_ixO, atI_0, atI_1, atI_2, Option.bind_some, Option.bind_none, List.getElem?_cons_zero, List.getElem?_cons_succ, List.getElem?_nil, List.set_cons_zero, List.set_cons_succ, List.set_nil, List.length_cons, List.length_nil, List.map_cons, List.map_nil, List.replicate_succ, List.replicate_zero, List.cons_append, List.nil_append, Nat.reduceAdd, Nat.reduceSub, Nat.reduceLeDiff, Nat.zero_add, Nat.sub_zero, Nat.add_zero, if_true, if_false, Bool.false_eq_true, Nat.reduceEqDiff, Bool.not_true, Bool.not_false, decide_true, decide_false, ev_nat, dne_int]
  refine ret_s (bin_s (S' := S) (comp_s (ds := (List.range xs.length).map fun (k : Nat) => D.int (k : Int)) (S' := S) (res := []) ?_ (by simp only [List.length_map, List.length_range]; exact hl) (by simp only [ev_wipe1, ev_wipe0, List.set_cons_succ, List.set_cons_zero]; exact c)) (d2 := .lst []) (S2 := S) (lst_s (ds := []) rfl (Nat.zero_le _)) deq_nil)
  rw [← rangeD_eq]
  exact range1_s (by simp only [ev_C, ev_V, ev_B, ev_aN, ev_aC, ev_Tup, ev_Lst, ev_Bin, ev_Un, ev_UnF, ev_cV, ev_cAnd, ev_cOr, ev_cNot, ev_cYes, ev_And, ev_Or, ev_Not, ev_If, ev_Chain, ev_Call, ev_Ix, ev_Sl, ev_oN, ev_oE, ev_aS, ev_Comp, ev_iAny, ev_iRange1, ev_iRange2, ev_iZip, ev_iEnum, ev_sNil, ev_sSeq, ev_sIf, ev_sRet, ev_sRetO, ev_sRetN, ev_sAsg, ev_sSet, ev_sSetO, ev_sPar, ev_sFor, ev_sWhile, ev_sApp, ev_sIxO, ev_sIxC, ev_sFrz, ev_sExp, ev_sPass, ev_runB, ev_forN, ev_compN, ev_put0, ev_put1, ev_wipe0, ev_wipe1, ev_bnm, ev_btup, ev_bL0, ev_bL1, dv_add, dv_sub, dv_neg, dv_lt, dv_le, dv_gt, dv_ge, dv_int, dv_abs, dv_lenL, dv_lenT, dv_tupL, dv_tupT, dv_lofL, dv_lofT, dv_lofS, dv_seqL, dv_seqT, dv_ixL, dv_ixT, dv_ixO, atI_0, atI_1, atI_2, Option.bind_some, Option.bind_none, List.getElem?_cons_zero, List.getElem?_cons_succ, List.getElem?_nil, List.set_cons_zero, List.set_cons_succ, List.set_nil, List.length_cons, List.length_nil, List.map_cons, List.map_nil, List.replicate_succ, List.replicate_zero, List.cons_append, List.nil_append, Nat.reduceAdd, Nat.reduceSub, Nat.reduceLeDiff, Nat.zero_add, Nat.sub_zero, Nat.add_zero, if_true, if_false, Bool.false_eq_true, Nat.reduceEqDiff, Bool.not_true, Bool.not_false, decide_true, decide_false, ev_nat]) (inWord_len hl)
theorem m_law_like_succ (n : Nat) : m_law_like (n + 1) = runB false 3 (g_law_like (m_law_like n)) := rfl
theorem like_refl (n : Nat) : ∀ (d : D) (S : List D), lkD n d = true → m_law_like (n + 1) [d, d] S = some (.bl true, S) := by
  induction n with
  | zero => intro d S h; rw [m_law_like_succ]; exact like_flat _ d S h
  | succ n ih =>
    intro d S h
    rw [m_law_like_succ]
    cases d with
    | tup xs =>
      have h' : xs.length ≤ 16777216 ∧ lkL n xs = true := by simpa [lkD] using h
      exact like_tup _ xs S h'.1 (fun k hk => ih xs[k] S (lkL_get h'.2 hk))
    | lst xs =>
      have h' : xs.length ≤ 16777216 ∧ lkL n xs = true := by simpa [lkD] using h
      exact like_lst _ xs S h'.1 (fun k hk => ih xs[k] S (lkL_get h'.2 hk))
    | _ => exact like_flat _ _ S (by simpa [lkD] using h)
theorem dv_eqI (a b : Int) : dEq (.int a) (.int b) = some (.bl (decide (a = b))) := by
  unfold dEq
  simp only [okD, Bool.and_self, if_true, eqD]
  rw [Bool.beq_eq_decide_eq]
theorem dv_addT (xs ys : List D) (h : xs.length + ys.length ≤ 16777216) : dAdd (.tup xs) (.tup ys) = some (.tup (xs ++ ys)) := by
  show (if xs.length + ys.length ≤ 16777216 then some (D.tup (xs ++ ys)) else none) = _
  rw [if_pos h]
theorem wide_of {a b : Int} (h : wide b = true) (h1 : a.natAbs ≤ b.natAbs) : wide a = true := by
  have := wide_ok h
  exact decide_eq_true (by unfold Big; omega)
theorem wide_sm {a : Int} (h : a.natAbs < 18446744073709551616) : wide a = true := by
  refine decide_eq_true ?_
  have : (18446744073709551616 : Nat) ≤ Big := by
    show 2 ^ 64 ≤ 2 ^ 8000
    exact Nat.pow_le_pow_right (by decide) (by decide)
  omega
def gcdL (l : List Int) : Nat := l.foldl (fun g h => Nat.gcd g h.natAbs) 0
theorem foldl_gcd (l : List Int) : ∀ (g : Nat), l.foldl (fun g h => Nat.gcd g h.natAbs) g = Nat.gcd g (gcdL l) := by
  unfold gcdL
  induction l with
  | nil => intro g; simp
  | cons x l ih =>
    intro g
    rw [List.foldl_cons, List.foldl_cons, ih, ih (Nat.gcd 0 x.natAbs), Nat.gcd_zero_left, Nat.gcd_assoc]
theorem gcdL_cons (x : Int) (l : List Int) : gcdL (x :: l) = Nat.gcd x.natAbs (gcdL l) := by
  have := foldl_gcd l (Nat.gcd 0 x.natAbs)
  rw [Nat.gcd_zero_left] at this
  unfold gcdL at this ⊢
  rw [List.foldl_cons, Nat.gcd_zero_left]
  exact this
theorem gcdL_dvd : ∀ (l : List Int) (x : Int), x ∈ l → (gcdL l : Int) ∣ x
  | y :: l, x, h => by
    rw [gcdL_cons]
    rcases List.mem_cons.mp h with rfl | h
    · exact Int.ofNat_dvd_left.mpr (Nat.gcd_dvd_left _ _)
    · have := gcdL_dvd l x h
      exact Int.dvd_trans (Int.ofNat_dvd.mpr (Nat.gcd_dvd_right _ _)) this
theorem gcdL_map (c : Int) : ∀ l : List Int, gcdL (l.map (c * ·)) = c.natAbs * gcdL l
  | [] => rfl
  | x :: l => by rw [List.map_cons, gcdL_cons, gcdL_map c l, gcdL_cons, Int.natAbs_mul, Nat.gcd_mul_left]
theorem gcdL_div (l : List Int) (h : 0 < gcdL l) : gcdL (l.map (· / (gcdL l : Int))) = 1 := by
  have e : (l.map (· / (gcdL l : Int))).map ((gcdL l : Int) * ·) = l := by
    rw [List.map_map]
    have : ∀ x ∈ l, ((((gcdL l : Int) * ·) ∘ (· / (gcdL l : Int))) x) = x := fun x hx => Int.mul_ediv_cancel' (gcdL_dvd l x hx)
    rw [List.map_congr_left this, List.map_id']
  have q := gcdL_map (gcdL l) (l.map (· / (gcdL l : Int)))
  rw [e, Int.natAbs_natCast] at q
  have : gcdL l * 1 = gcdL l * gcdL (l.map (· / (gcdL l : Int))) := by rw [Nat.mul_one]; exact q
  exact (Nat.eq_of_mul_eq_mul_left h this).symm
theorem gcdL_pos : ∀ (l : List Int), l ≠ [] → (∀ x ∈ l, x ≠ 0) → 0 < gcdL l
  | [], h, _ => absurd rfl h
  | x :: l, _, h => by
    rw [gcdL_cons]
    have := h x List.mem_cons_self
    exact Nat.gcd_pos_of_pos_left _ (by omega)
def looksOf (n : Nat) : List PySem.Str := if n = 2 then ["aa", "ab"] else if n = 3 then ["aaa", "aab", "abc", "aba"] else if n = 4 then ["aaab", "aabb", "aabc", "abcd", "abab"] else []
structure GoodClk (hands : List Int) (looks : PySem.Str) (marks : Int) (most : Int) : Prop where
  len : 2 ≤ hands.length ∧ hands.length ≤ 4
  nz : ∀ h ∈ hands, h ≠ 0
  bd : ∀ h ∈ hands, (h.natAbs : Int) ≤ most
  gcd : gcdL hands = 1
  looks : looks ∈ looksOf hands.length
  marks : marks = 1 ∨ marks = 2 ∨ marks = 3 ∨ marks = 4
def clkD (hands : List Int) (looks : PySem.Str) (marks : Int) : D := .tup [.tup (hands.map .int), .str looks, .int marks]
def drawE (i : Nat) (k : Ev) : Ev := eCall 2 m_law_draw (aC (eV i) (aC k aN))
theorem drawE_ex (t : Tape) {ρ : List Slot} {i : Nat} {k : Ev} {many : Int} (hρ : ρ[i]? = some (.val (.obj 0))) (hk : k ρ (tp t) = some (.int many, tp t)) (hm : 0 < many) (hw : wide many = true) :
    ∃ r t', 0 ≤ r ∧ r < many ∧ drawE i k ρ (tp t) = some (.int r, tp t') := by
  obtain ⟨r, t', h0, h1, e⟩ := draw_ex t many hm hw
  refine ⟨r, t', h0, h1, ?_⟩
  unfold drawE
  refine call_s (ds := [.obj 0, .int many]) (S' := tp t) ?_ rfl e
  rw [ev_aC, ev_V, hρ]
  simp only [Option.bind_some]
  rw [ev_aC, hk]
  rfl
theorem handsLoop (most : Int) (hm : 0 < most) (hw : wide most = true) (n : Nat) (hn : n ≤ 4) (t : Tape) :
    ∃ hs t' x4 x5, forL (.nm 4) (sSeq (sSet 5 (eBin dAdd (eC (.int 1)) (drawE 0 (eV 1)))) (sSet 3 (eBin dAdd (eB 3) (eTup (aC (eIf (cV (eBin dEq (drawE 0 (eC (.int 5))) (eC (.int 0)))) (eUn dNeg (eB 5)) (eV 5)) aN)))))
      (rangeD 0 n) [.val (.obj 0), .val (.int most), .val (.int n), .val (.tup []), .non, .non, .non, .non] (tp t) = some (.nx [.val (.obj 0), .val (.int most), .val (.int n), .val (.tup (List.map .int hs)), x4, x5, .non, .non] (tp t'))
      ∧ hs.length = n ∧ (∀ h ∈ hs, h ≠ 0) ∧ ∀ h ∈ hs, (h.natAbs : Int) ≤ most := by
  have q := forL_inv (p := .nm 4) (g := (sSeq (sSet 5 (eBin dAdd (eC (.int 1)) (drawE 0 (eV 1)))) (sSet 3 (eBin dAdd (eB 3) (eTup (aC (eIf (cV (eBin dEq (drawE 0 (eC (.int 5))) (eC (.int 0)))) (eUn dNeg (eB 5)) (eV 5)) aN))))))
    (fun pre ρ S => ∃ hs t' x4 x5, ρ = [.val (.obj 0), .val (.int most), .val (.int n), .val (.tup (List.map .int hs)), x4, x5, .non, .non] ∧ S = tp t' ∧ hs.length = pre.length ∧ (∀ h ∈ hs, h ≠ 0) ∧ ∀ h ∈ hs, (h.natAbs : Int) ≤ most)
    (rangeD 0 n) [.val (.obj 0), .val (.int most), .val (.int n), .val (.tup []), .non, .non, .non, .non] (tp t) ⟨[], t, .non, .non, rfl, rfl, rfl, fun _ h => (nomatch h), fun _ h => (nomatch h)⟩ ?_
  · obtain ⟨ρ', S', e, hs, t', x4, x5, rfl, rfl, h1, h2, h3⟩ := q
    exact ⟨hs, t', x4, x5, e, by rw [h1, rangeD_len]; omega, h2, h3⟩
  · rintro pre x ρ S hx hN ⟨hs, t', x4, x5, rfl, rfl, h1, h2, h3⟩
    rw [rangeD_len] at hN
    obtain ⟨r, t1, r0, r1, e1⟩ := drawE_ex t' (ρ := [.val (.obj 0), .val (.int most), .val (.int n), .val (.tup (List.map .int hs)), .val x, x5, .non, .non]) (i := 0) (k := eV 1) rfl rfl hm hw
    obtain ⟨s, t2, s0, s1, e2⟩ := drawE_ex t1 (ρ := [.val (.obj 0), .val (.int most), .val (.int n), .val (.tup (List.map .int hs)), .val x, .val (.int (1 + r)), .non, .non]) (i := 0) (k := eC (.int 5)) rfl rfl (by decide) (wide_sm (by decide))
    by_cases hs0 : s = 0
    · refine ⟨_, [.val (.obj 0), .val (.int most), .val (.int n), .val (.tup (List.map .int (hs ++ [-(1 + r)]))), .val x, .val (.int (1 + r)), .non, .non], tp t2, ev_bnm _ _, ?_, hs ++ [-(1 + r)], t2, _, _, rfl, rfl, by simp [h1], ?_, ?_⟩
      · rw [ev_put1, ev_put0]
        refine (seq_nx (set_s (bin_s (d := .int 1) rfl e1 rfl))).trans (set_s (bin_s (d := .tup (List.map .int hs)) (S' := tp t1) rfl (tup_s (aC_s (d := .int (-(1 + r))) ((eif_t (S' := tp t2) ?_).trans rfl) rfl) (by show 1 ≤ 16777216; decide)) ?_))
        · refine cV_s (bin_s e2 rfl ?_)
          rw [dv_eqI, decide_eq_true hs0]
        · rw [dv_addT _ _ (by simp; omega), List.map_append]; rfl
      · intro h m; rcases List.mem_append.mp m with m | m
        · exact h2 h m
        · have : h = -(1 + r) := by simpa using m
          omega
      · intro h m; rcases List.mem_append.mp m with m | m
        · exact h3 h m
        · have : h = -(1 + r) := by simpa using m
          omega
    · refine ⟨_, [.val (.obj 0), .val (.int most), .val (.int n), .val (.tup (List.map .int (hs ++ [1 + r]))), .val x, .val (.int (1 + r)), .non, .non], tp t2, ev_bnm _ _, ?_, hs ++ [1 + r], t2, _, _, rfl, rfl, by simp [h1], ?_, ?_⟩
      · rw [ev_put1, ev_put0]
        refine (seq_nx (set_s (bin_s (d := .int 1) rfl e1 rfl))).trans (set_s (bin_s (d := .tup (List.map .int hs)) (S' := tp t1) rfl (tup_s (aC_s (d := .int (1 + r)) ((eif_f (S' := tp t2) ?_).trans rfl) rfl) (by show 1 ≤ 16777216; decide)) ?_))
        · refine cV_s (bin_s e2 rfl ?_)
          rw [dv_eqI, decide_eq_false hs0]
        · rw [dv_addT _ _ (by simp; omega), List.map_append]; rfl
      · intro h m; rcases List.mem_append.mp m with m | m
        · exact h2 h m
        · have : h = (1 + r) := by simpa using m
          omega
      · intro h m; rcases List.mem_append.mp m with m | m
        · exact h3 h m
        · have : h = (1 + r) := by simpa using m
          omega
def lastSlot (x : Slot) (l : List Int) : Slot := l.foldl (fun _ h => .val (.int h)) x
theorem gcdLoop (a b c d f : Slot) (hs : List Int) (x : Slot) (S : List D) :
    forL (.nm 5) (sSet 6 (eCall 2 m_law_gcd (aC (eV 6) (aC (eV 5) aN)))) (hs.map .int) [a, b, c, d, f, x, .val (.int 0), .non] S = some (.nx [a, b, c, d, f, lastSlot x hs, .val (.int (gcdL hs)), .non] S) := by
  have q := (forL_fold (p := .nm 5) (g := (sSet 6 (eCall 2 m_law_gcd (aC (eV 6) (aC (eV 5) aN))))) (D.int) (fun (s : Nat × Slot) => [a, b, c, d, f, s.2, .val (.int s.1), .non]) (fun s h => (Nat.gcd s.1 h.natAbs, .val (.int h))) S (fun _ => True)
    (fun s h _ => ⟨_, ev_bnm _ _, ?_, trivial⟩) hs (0, x) trivial).1
  · refine q.trans ?_
    have e : ∀ (l : List Int) (g : Nat) (y : Slot), l.foldl (fun (s : Nat × Slot) h => (Nat.gcd s.1 h.natAbs, Slot.val (.int h))) (g, y) = (l.foldl (fun g h => Nat.gcd g h.natAbs) g, lastSlot y l) := by
      intro l
      induction l with
      | nil => intro g y; rfl
      | cons z l ih => intro g y; rw [List.foldl_cons, ih]; rfl
    rw [e]
    rfl
  · rw [ev_put1, ev_put0]
    refine set_s (call_s (ds := [.int s.1, .int h]) (S' := S) rfl rfl ?_)
    rw [m_law_gcd_eq]
    rfl
theorem divComp (a b c d f x y g : Slot) (hs : List Int) (n : Int) (S : List D) (hn : 0 < n) (hw : wide n = true) :
    compL (.nm 5) cYes (eBin dDiv (eB 5) (eB 6)) [a, b, c, d, f, .non, .val (.int n), g] (hs.map .int) S = some ((hs.map (· / n)).map .int, S) := by
  rw [List.map_map]
  refine compL_map D.int _ hs fun h _ => ⟨_, ev_bnm _ _, ?_⟩
  rw [ev_put1, ev_put0]
  exact bin_s (S' := S) rfl rfl (dv_div _ _ hn hw)
def loCut (n : Nat) (s : PySem.Str) : PySem.Str := L2.cutS s none (some (n : Int))
theorem slS (n : Nat) (s : PySem.Str) (h : s.length ≤ 16777216) : slD none (some (n : Int)) (.str s) = some (.str (loCut n s)) := by
  show (if s.length ≤ 16777216 then some (D.str (L2.cutS s none (some (n : Int)))) else none) = _
  rw [if_pos h]
  rfl
theorem cuts (n : Nat) (h : n = 2 ∨ n = 3 ∨ n = 4) (s : PySem.Str) (hs : s ∈ (["aaab", "aabb", "aabc", "abcd", "abab"] : List PySem.Str)) : loCut n s ∈ looksOf n := by
  have key : ∀ n ∈ [2, 3, 4], ∀ s ∈ (["aaab", "aabb", "aabc", "abcd", "abab"] : List PySem.Str), loCut n s ∈ looksOf n := by decide +kernel
  exact key n (by simp; exact h) s hs
theorem cutA (n : Nat) (h : n = 2 ∨ n = 3) : loCut n "aaa" ∈ looksOf n := by
  have key : ∀ n ∈ [2, 3], loCut n "aaa" ∈ looksOf n := by decide +kernel
  exact key n (by simp; exact h)
theorem len5 (s : PySem.Str) (hs : s ∈ (["aaab", "aabb", "aabc", "abcd", "abab"] : List PySem.Str)) : s.length ≤ 16777216 := by
  have key : ∀ s ∈ (["aaab", "aabb", "aabc", "abcd", "abab"] : List PySem.Str), s.length ≤ 4 := by decide +kernel
  have := key s hs
  omega
theorem g_law_clock_is : g_law_clock = (sSeq (sSet 2 (eIx (eLst (aC (eC (.int 2)) (aC (eC (.int 2)) (aC (eC (.int 3)) (aC (eC (.int 2)) (aC (eC (.int 4)) aN)))))) (drawE 0 (eC (.int 5))))) (sSeq (sSet 3 (eTup aN)) (sSeq (sFor (.nm 4) (iRange1 (aC (eV 2) aN)) (sSeq (sSet 5 (eBin dAdd (eC (.int 1)) (drawE 0 (eV 1)))) (sSet 3 (eBin dAdd (eB 3) (eTup (aC (eIf (cV (eBin dEq (drawE 0 (eC (.int 5))) (eC (.int 0)))) (eUn dNeg (eB 5)) (eV 5)) aN)))))) (sSeq (sSet 6 (eC (.int 0))) (sSeq (sFor (.nm 5) (iAny (eV 3)) (sSet 6 (eCall 2 m_law_gcd (aC (eV 6) (aC (eV 5) aN))))) (sSeq (sSet 3 (eUn dTup (eComp (.nm 5) (iAny (eV 3)) cYes (eBin dDiv (eB 5) (eB 6)) [5]))) (sSeq (sSet 7 (eSl (eIx (eLst (aC (eC (.str "aaab")) (aC (eC (.str "aabb")) (aC (eC (.str "aabc")) (aC (eC (.str "abcd")) (aC (eC (.str "abab")) aN)))))) (drawE 0 (eC (.int 5)))) oN (oE (eV 2)))) (sSeq (sSet 7 (eIf (cAnd (cV (eBin dLt (eB 2) (eC (.int 4)))) (cV (eBin dGt (drawE 0 (eC (.int 3))) (eC (.int 0))))) (eSl (eC (.str "aaa")) oN (oE (eV 2))) (eV 7))) (sRet (eTup (aC (eV 3) (aC (eV 7) (aC (eIx (eLst (aC (eC (.int 1)) (aC (eC (.int 1)) (aC (eC (.int 1)) (aC (eC (.int 2)) (aC (eC (.int 3)) (aC (eC (.int 4)) aN))))))) (drawE 0 (eC (.int 6)))) aN))))))))))))) := rfl
theorem clock_ex (t : Tape) (most : Int) (hm : 0 < most) (hw : wide most = true) : ∃ hands looks marks t', GoodClk hands looks marks most ∧ m_law_clock [.obj 0, .int most] (tp t) = some (clkD hands looks marks, tp t') := by
  unfold m_law_clock
  rw [g_law_clock_is]
  obtain ⟨k1, t1, a0, a1, e1⟩ := drawE_ex t (ρ := [.val (.obj 0), .val (.int most), .non, .non, .non, .non, .non, .non]) (i := 0) (k := eC (.int 5)) rfl rfl (by decide) (wide_sm (by decide))
  obtain ⟨d1, m1, p1⟩ := pick_of (xs := [.int 2, .int 2, .int 3, .int 2, .int 4]) a0 (by simpa using a1)
  obtain ⟨n, hn, rfl⟩ : ∃ n : Nat, (n = 2 ∨ n = 3 ∨ n = 4) ∧ d1 = .int n := by
    simp only [List.mem_cons, List.not_mem_nil, or_false] at m1
    rcases m1 with rfl | rfl | rfl | rfl | rfl
    · exact ⟨2, .inl rfl, rfl⟩
    · exact ⟨2, .inl rfl, rfl⟩
    · exact ⟨3, .inr (.inl rfl), rfl⟩
    · exact ⟨2, .inl rfl, rfl⟩
    · exact ⟨4, .inr (.inr rfl), rfl⟩
  obtain ⟨hs, t2, x4, x5, e2, hl, hnz, hbd⟩ := handsLoop most hm hw n (by omega) t1
  have hne : hs ≠ [] := fun e => by rw [e] at hl; simp at hl; omega
  have gpos := gcdL_pos hs hne hnz
  have gw : wide (gcdL hs : Int) = true := by
    cases hs with
    | nil => exact absurd rfl hne
    | cons h hs' =>
      have h1 := Int.le_of_dvd (by have := hnz h List.mem_cons_self; omega) (Int.dvd_natAbs.mpr (gcdL_dvd (h :: hs') h List.mem_cons_self))
      have h2 := hbd h List.mem_cons_self
      exact wide_of hw (by omega)
  have e3 := gcdLoop (.val (.obj 0)) (.val (.int most)) (.val (.int n)) (.val (.tup (List.map .int hs))) x4 hs x5 (tp t2)
  have e4 := divComp (.val (.obj 0)) (.val (.int most)) (.val (.int n)) (.val (.tup (List.map .int hs))) x4 .non .non .non hs (gcdL hs) (tp t2) (by omega) gw
  generalize hands_def : hs.map (· / (gcdL hs : Int)) = hands at e4
  obtain ⟨k2, t3, b0, b1, e5⟩ := drawE_ex t2 (ρ := [.val (.obj 0), .val (.int most), .val (.int n), .val (.tup (hands.map .int)), x4, lastSlot x5 hs, .val (.int (gcdL hs)), .non]) (i := 0) (k := eC (.int 5)) rfl rfl (by decide) (wide_sm (by decide))
  obtain ⟨d2, m2, p2⟩ := pick_of (xs := [.str "aaab", .str "aabb", .str "aabc", .str "abcd", .str "abab"]) b0 (by simpa using b1)
  obtain ⟨s, hs5, rfl⟩ : ∃ s, s ∈ (["aaab", "aabb", "aabc", "abcd", "abab"] : List PySem.Str) ∧ d2 = .str s := by
    simp only [List.mem_cons, List.not_mem_nil, or_false] at m2
    rcases m2 with rfl | rfl | rfl | rfl | rfl <;> exact ⟨_, by simp, rfl⟩
  obtain ⟨looks, t4, hlk, e6⟩ : ∃ looks t4, looks ∈ looksOf n ∧ eIf (cAnd (cV (eBin dLt (eB 2) (eC (.int 4)))) (cV (eBin dGt (drawE 0 (eC (.int 3))) (eC (.int 0))))) (eSl (eC (.str "aaa")) oN (oE (eV 2))) (eV 7)
      [.val (.obj 0), .val (.int most), .val (.int n), .val (.tup (hands.map .int)), x4, lastSlot x5 hs, .val (.int (gcdL hs)), .val (.str (loCut n s))] (tp t3) = some (.str looks, tp t4) := by
    by_cases h4 : n = 4
    · refine ⟨loCut n s, t3, cuts n hn s hs5, (eif_f (S' := tp t3) ?_).trans rfl⟩
      have hn4 : ¬ (n : Int) < 4 := by omega
      simp only [ev_C, ev_V, ev_B, ev_aN, ev_aC, ev_Tup, ev_Lst, ev_Bin, ev_Un, ev_UnF, ev_cV, ev_cAnd, ev_cOr, ev_cNot, ev_cYes, ev_And, ev_Or, ev_Not, ev_If, ev_Chain, ev_Call, ev_Ix, ev_Sl, ev_oN, ev_oE, ev_aS, ev_Comp, ev_iAny, ev_iRange1, ev_iRange2, ev_iZip, ev_iEnum, ev_sNil, ev_sSeq, ev_sIf, ev_sRet, ev_sRetO, ev_sRetN, ev_sAsg, ev_sSet, ev_sSetO, ev_sPar, ev_sFor, ev_sWhile, ev_sApp, ev_sIxO, ev_sIxC, ev_sFrz, ev_sExp, ev_sPass, ev_runB, ev_forN, ev_compN, ev_put0, ev_put1, ev_wipe0, ev_wipe1, ev_bnm, ev_btup, ev_bL0, ev_bL1, dv_add, dv_sub, dv_neg, dv_lt, dv_le, dv_gt, dv_ge, dv_int, dv_abs, dv_lenL, dv_lenT, dv_tupL, dv_tupT, dv_lofL, dv_lofT, dv_lofS, dv_seqL, dv_seqT, dv_ixL, dv_ixT, dv_ixO, atI_0, atI_1, atI_2, Option.bind_some, Option.bind_none, List.getElem?_cons_zero, List.getElem?_cons_succ, List.getElem?_nil, List.set_cons_zero, List.set_cons_succ, List.set_nil, List.length_cons, List.length_nil, List.map_cons, List.map_nil, List.replicate_succ, List.replicate_zero, List.cons_append, List.nil_append, Nat.reduceAdd, Nat.reduceSub, Nat.reduceLeDiff, Nat.zero_add, Nat.sub_zero, Nat.add_zero, if_true, if_false, Bool.false_eq_true, Nat.reduceEqDiff, Bool.not_true, Bool.not_false, decide_true, decide_false, ev_nat, decide_eq_false hn4]
    · have hn4 : (n : Int) < 4 := by omega
      obtain ⟨k3, t4, c0, c1, e⟩ := drawE_ex t3 (ρ := [.val (.obj 0), .val (.int most), .val (.int n), .val (.tup (hands.map .int)), x4, lastSlot x5 hs, .val (.int (gcdL hs)), .val (.str (loCut n s))]) (i := 0) (k := eC (.int 3)) rfl rfl (by decide) (wide_sm (by decide))
      by_cases h3 : 0 < k3
      · refine ⟨loCut n "aaa", t4, cutA n (by omega), (eif_t (S' := tp t4) ?_).trans ?_⟩
        · simp only [ev_C, ev_V, ev_B, ev_aN, ev_aC, ev_Tup, ev_Lst, ev_Bin, ev_Un, ev_UnF, ev_cV, ev_cAnd, ev_cOr, ev_cNot, ev_cYes, ev_And, ev_Or, ev_Not, ev_If, ev_Chain, ev_Call, ev_Ix, ev_Sl, ev_oN, ev_oE, ev_aS, ev_Comp, ev_iAny, ev_iRange1, ev_iRange2, ev_iZip, ev_iEnum, ev_sNil, ev_sSeq, ev_sIf, ev_sRet, ev_sRetO, ev_sRetN, ev_sAsg, ev_sSet, ev_sSetO, ev_sPar, ev_sFor, ev_sWhile, ev_sApp, ev_sIxO, ev_sIxC, ev_sFrz, ev_sExp, ev_sPass, ev_runB, ev_forN, ev_compN, ev_put0, ev_put1, ev_wipe0, ev_wipe1, ev_bnm, ev_btup, ev_bL0, ev_bL1, dv_add, dv_sub, dv_neg, dv_lt, dv_le, dv_gt, dv_ge, dv_int, dv_abs, dv_lenL, dv_lenT, dv_tupL, dv_tupT, dv_lofL, dv_lofT, dv_lofS, dv_seqL, dv_seqT, dv_ixL, dv_ixT, dv_ixO, atI_0, atI_1, atI_2, Option.bind_some, Option.bind_none, List.getElem?_cons_zero, List.getElem?_cons_succ, List.getElem?_nil, List.set_cons_zero, List.set_cons_succ, List.set_nil, List.length_cons, List.length_nil, List.map_cons, List.map_nil, List.replicate_succ, List.replicate_zero, List.cons_append, List.nil_append, Nat.reduceAdd, Nat.reduceSub, Nat.reduceLeDiff, Nat.zero_add, Nat.sub_zero, Nat.add_zero, if_true, if_false, Bool.false_eq_true, Nat.reduceEqDiff, Bool.not_true, Bool.not_false, decide_true, decide_false, ev_nat, decide_eq_true hn4, e, decide_eq_true h3]
        · have q := slS n "aaa" (by decide)
          simp only [ev_C, ev_V, ev_B, ev_aN, ev_aC, ev_Tup, ev_Lst, ev_Bin, ev_Un, ev_UnF, ev_cV, ev_cAnd, ev_cOr, ev_cNot, ev_cYes, ev_And, ev_Or, ev_Not, ev_If, ev_Chain, ev_Call, ev_Ix, ev_Sl, ev_oN, ev_oE, ev_aS, ev_Comp, ev_iAny, ev_iRange1, ev_iRange2, ev_iZip, ev_iEnum, ev_sNil, ev_sSeq, ev_sIf, ev_sRet, ev_sRetO, ev_sRetN, ev_sAsg, ev_sSet, ev_sSetO, ev_sPar, ev_sFor, ev_sWhile, ev_sApp, ev_sIxO, ev_sIxC, ev_sFrz, ev_sExp, ev_sPass, ev_runB, ev_forN, ev_compN, ev_put0, ev_put1, ev_wipe0, ev_wipe1, ev_bnm, ev_btup, ev_bL0, ev_bL1, dv_add, dv_sub, dv_neg, dv_lt, dv_le, dv_gt, dv_ge, dv_int, dv_abs, dv_lenL, dv_lenT, dv_tupL, dv_tupT, dv_lofL, dv_lofT, dv_lofS, dv_seqL, dv_seqT, dv_ixL, dv_ixT, dv_ixO, atI_0, atI_1, atI_2, Option.bind_some, Option.bind_none, List.getElem?_cons_zero, List.getElem?_cons_succ, List.getElem?_nil, List.set_cons_zero, List.set_cons_succ, List.set_nil, List.length_cons, List.length_nil, List.map_cons, List.map_nil, List.replicate_succ, List.replicate_zero, List.cons_append, List.nil_append, Nat.reduceAdd, Nat.reduceSub, Nat.reduceLeDiff, Nat.zero_add, Nat.sub_zero, Nat.add_zero, if_true, if_false, Bool.false_eq_true, Nat.reduceEqDiff, Bool.not_true, Bool.not_false, decide_true, decide_false, ev_nat, q]
      · refine ⟨loCut n s, t4, cuts n hn s hs5, (eif_f (S' := tp t4) ?_).trans rfl⟩
        simp only [ev_C, ev_V, ev_B, ev_aN, ev_aC, ev_Tup, ev_Lst, ev_Bin, ev_Un, ev_UnF, ev_cV, ev_cAnd, ev_cOr, ev_cNot, ev_cYes, ev_And, ev_Or, ev_Not, ev_If, ev_Chain, ev_Call, ev_Ix, ev_Sl, ev_oN, ev_oE, ev_aS, ev_Comp, ev_iAny, ev_iRange1, ev_iRange2, ev_iZip, ev_iEnum, ev_sNil, ev_sSeq, ev_sIf, ev_sRet, ev_sRetO, ev_sRetN, ev_sAsg, ev_sSet, ev_sSetO, ev_sPar, ev_sFor, ev_sWhile, ev_sApp, ev_sIxO, ev_sIxC, ev_sFrz, ev_sExp, ev_sPass, ev_runB, ev_forN, ev_compN, ev_put0, ev_put1, ev_wipe0, ev_wipe1, ev_bnm, ev_btup, ev_bL0, ev_bL1, dv_add, dv_sub, dv_neg, dv_lt, dv_le, dv_gt, dv_ge, dv_int, dv_abs, dv_lenL, dv_lenT, dv_tupL, dv_tupT, dv_lofL, dv_lofT, dv_lofS, dv_seqL, dv_seqT, dv_ixL, dv_ixT, dv_ixO, atI_0, atI_1, atI_2, Option.bind_some, Option.bind_none, List.getElem?_cons_zero, List.getElem?_cons_succ, List.getElem?_nil, List.set_cons_zero, List.set_cons_succ, List.set_nil, List.length_cons, List.length_nil, List.map_cons, List.map_nil, List.replicate_succ, List.replicate_zero, List.cons_append, List.nil_append, Nat.reduceAdd, Nat.reduceSub, Nat.reduceLeDiff, Nat.zero_add, Nat.sub_zero, Nat.add_zero, if_true, if_false, Bool.false_eq_true, Nat.reduceEqDiff, Bool.not_true, Bool.not_false, decide_true, decide_false, ev_nat, decide_eq_true hn4, e, decide_eq_false h3]
  obtain ⟨k4, t5, f0, f1, e7⟩ := drawE_ex t4 (ρ := [.val (.obj 0), .val (.int most), .val (.int n), .val (.tup (hands.map .int)), x4, lastSlot x5 hs, .val (.int (gcdL hs)), .val (.str looks)]) (i := 0) (k := eC (.int 6)) rfl rfl (by decide) (wide_sm (by decide))
  obtain ⟨d4, m4, p4⟩ := pick_of (xs := [.int 1, .int 1, .int 1, .int 2, .int 3, .int 4]) f0 (by simpa using f1)
  obtain ⟨marks, hmk, rfl⟩ : ∃ k : Int, (k = 1 ∨ k = 2 ∨ k = 3 ∨ k = 4) ∧ d4 = .int k := by
    simp only [List.mem_cons, List.not_mem_nil, or_false] at m4
    rcases m4 with rfl | rfl | rfl | rfl | rfl | rfl <;> exact ⟨_, by decide, rfl⟩
  have hl2 : hands.length = n := by rw [← hands_def, List.length_map, hl]
  refine ⟨hands, looks, marks, t5, ⟨by omega, fun h m => ?_, fun h m => ?_, by rw [← hands_def]; exact gcdL_div hs gpos, by rw [hl2]; exact hlk, hmk⟩, ?_⟩
  · rw [← hands_def] at m
    obtain ⟨z, mz, rfl⟩ := List.mem_map.mp m
    intro e0
    have := Int.mul_ediv_cancel' (gcdL_dvd hs z mz)
    have e0' : z / (gcdL hs : Int) = 0 := e0
    rw [e0'] at this
    exact hnz z mz (by omega)
  · rw [← hands_def] at m
    obtain ⟨z, mz, rfl⟩ := List.mem_map.mp m
    have h1 := hbd z mz
    have h2 : ((z / (gcdL hs : Int)).natAbs : Int) ≤ z.natAbs := by
      have := Int.mul_ediv_cancel' (gcdL_dvd hs z mz)
      have h3 : z.natAbs = gcdL hs * (z / (gcdL hs : Int)).natAbs := by
        have h4 := congrArg Int.natAbs this
        rw [Int.natAbs_mul, Int.natAbs_natCast] at h4
        exact h4.symm
      have : 1 * (z / (gcdL hs : Int)).natAbs ≤ gcdL hs * (z / (gcdL hs : Int)).natAbs := Nat.mul_le_mul_right _ gpos
      omega
    show ((z / (gcdL hs : Int)).natAbs : Int) ≤ most
    omega
  · refine run_rt (ρ := [.val (.obj 0), .val (.int most), .non, .non, .non, .non, .non, .non]) rfl ?_
    refine (seq_nx (set_s (ix_s (d := .lst [.int 2, .int 2, .int 3, .int 2, .int 4]) (S' := tp t) rfl e1 p1))).trans ?_
    refine (seq_nx (set_s (d := .tup []) (S' := tp t1) rfl)).trans ?_
    refine (seq_nx (for_s (range1_s (k := n) (S' := tp t1) rfl (inWord_len (by omega))) e2)).trans ?_
    refine (seq_nx (set_s (d := .int 0) (S' := tp t2) rfl)).trans ?_
    refine (seq_nx (for_s (ds := hs.map .int) (S' := tp t2) rfl e3)).trans ?_
    refine (seq_nx (set_s (d := .tup (hands.map .int)) (S' := tp t2) ?_)).trans ?_
    · refine un_s (d := .lst (hands.map .int)) (S' := tp t2) ?_ rfl
      refine comp_s (ds := hs.map .int) (S' := tp t2) ?_ ?_ ?_
      · rfl
      · rw [List.length_map]; omega
      · exact e4
    refine (seq_nx (set_s (d := .str (loCut n s)) (S' := tp t3) ?_)).trans ?_
    · have q1 := ix_s (d := .lst [.str "aaab", .str "aabb", .str "aabc", .str "abcd", .str "abab"]) (fa := (eLst (aC (eC (.str "aaab")) (aC (eC (.str "aabb")) (aC (eC (.str "aabc")) (aC (eC (.str "abcd")) (aC (eC (.str "abab")) aN))))))) (S' := tp t2) rfl e5 p2
      have q2 := slS n s (len5 s hs5)
      rw [ev_Sl]
      refine (congrArg (fun o => Option.bind o _) q1).trans ?_
      simp only [ev_C, ev_V, ev_B, ev_aN, ev_aC, ev_Tup, ev_Lst, ev_Bin, ev_Un, ev_UnF, ev_cV, ev_cAnd, ev_cOr, ev_cNot, ev_cYes, ev_And, ev_Or, ev_Not, ev_If, ev_Chain, ev_Call, ev_Ix, ev_Sl, ev_oN, ev_oE, ev_aS, ev_Comp, ev_iAny, ev_iRange1, ev_iRange2, ev_iZip, ev_iEnum, ev_sNil, ev_sSeq, ev_sIf, ev_sRet, ev_sRetO, ev_sRetN, ev_sAsg, ev_sSet, ev_sSetO, ev_sPar, ev_sFor, ev_sWhile, ev_sApp, ev_sIxO, ev_sIxC, ev_sFrz, ev_sExp, ev_sPass, ev_runB, ev_forN, ev_compN, ev_put0, ev_put1, ev_wipe0, ev_wipe1, ev_bnm, ev_btup, ev_bL0, ev_bL1, dv_add, dv_sub, dv_neg, dv_lt, dv_le, dv_gt, dv_ge, dv_int, dv_abs, dv_lenL, dv_lenT, dv_tupL, dv_tupT, dv_lofL, dv_lofT, dv_lofS, dv_seqL, dv_seqT, dv_ixL, dv_ixT, dv_ixO, atI_0, atI_1, atI_2, Option.bind_some, Option.bind_none, List.getElem?_cons_zero, List.getElem?_cons_succ, List.getElem?_nil, List.set_cons_zero, List.set_cons_succ, List.set_nil, List.length_cons, List.length_nil, List.map_cons, List.map_nil, List.replicate_succ, List.replicate_zero, List.cons_append, List.nil_append, Nat.reduceAdd, Nat.reduceSub, Nat.reduceLeDiff, Nat.zero_add, Nat.sub_zero, Nat.add_zero, if_true, if_false, Bool.false_eq_true, Nat.reduceEqDiff, Bool.not_true, Bool.not_false, decide_true, decide_false, ev_nat, q2]
    refine (seq_nx (set_s e6)).trans ?_
    refine ret_s (tup_s (aC_s (d := .tup (hands.map .int)) (S' := tp t4) rfl (aC_s (d := .str looks) (S' := tp t4) rfl (aC_s (ix_s (d := .lst [.int 1, .int 1, .int 1, .int 2, .int 3, .int 4]) (S' := tp t4) rfl e7 p4) rfl))) (by show 3 ≤ 16777216; decide))
theorem fr_den (t b : Int) (hb : 0 < b) : ((fr ((t : Rat) / (b : Rat))).den : Int) ≤ b := by
  have h := part_q t b hb
  unfold dR at h
  injection h with h
  injection h with h1 h2
  injection h2 with h2 _
  injection h2 with h2
  rw [← h2]
  exact Int.ediv_le_self _ (Int.le_of_lt hb)
structure GoodTime (q : Rat) : Prop where
  lo : 0 ≤ q
  hi : q < 1
  den : (q.den : Int) ≤ 1000000
theorem num_mul (q : Rat) (k : Int) : ((q.num * k : Int) : Rat) / (q.den : Int) = q * (k : Rat) := by
  rw [Rat.intCast_mul]
  have := num_div_den q
  have e : ((q.den : Int) : Rat) = (q.den : Rat) := Rat.intCast_natCast _
  rw [e]
  grind
def dial (hands : List Int) (q : Rat) : List D := hands.map fun (h : Int) => dR (fr (q * (h : Rat)))
theorem lk_dial (hands : List Int) (q : Rat) (hl : hands.length ≤ 16777216) : lkD 7 (.tup (dial hands q)) = true := by
  have a : lkL 6 (dial hands q) = true := lkL_of fun x hx => by
    obtain ⟨h, _, rfl⟩ := List.mem_map.mp hx
    simp [dR, lkD, lkL]
  have b : (dial hands q).length ≤ 16777216 := by unfold dial; rw [List.length_map]; exact hl
  simp only [lkD, a, decide_eq_true b, Bool.and_self]
end K
namespace K
open DL
open L2 (atI ixN)
section
variable {ρ : List Slot} {S S' : List D} {c c2 : Et}
theorem cOr_f (h : c ρ S = some (false, S')) : cOr c c2 ρ S = c2 ρ S' := by rw [ev_cOr, h, Option.bind_some]; rfl
theorem cOr_t (h : c ρ S = some (true, S')) : cOr c c2 ρ S = some (true, S') := by rw [ev_cOr, h, Option.bind_some]; rfl
theorem cAnd_f (h : c ρ S = some (false, S')) : cAnd c c2 ρ S = some (false, S') := by rw [ev_cAnd, h, Option.bind_some]; rfl
theorem cAnd_t (h : c ρ S = some (true, S')) : cAnd c c2 ρ S = c2 ρ S' := by rw [ev_cAnd, h, Option.bind_some]; rfl
theorem iany_s {f : Ev} {ρ : List Slot} {S S' : List D} {d : D} {xs : List D} (h : f ρ S = some (d, S')) (h2 : seqOf d = some xs) : iAny f ρ S = some (xs, S') := by
  rw [ev_iAny, h, Option.bind_some, h2, Option.bind_some]
end
theorem dv_neI (a b : Int) : dNe (.int a) (.int b) = some (.bl (!decide (a = b))) := by
  unfold dNe
  simp only [okD, Bool.and_self, if_true, eqD]
  rw [Bool.beq_eq_decide_eq]
abbrev lt (looks : PySem.Str) : List Nat := looks.cps.toList
theorem wd {x : Int} (h : x.natAbs < 2 ^ 60) : wide x = true := wide_sm (Nat.lt_of_lt_of_le h (by decide))
theorem mulw {a b : Int} (h : a.natAbs < 2 ^ 60) (h' : b.natAbs < 2 ^ 60) : dMul (.int a) (.int b) = some (.int (a * b)) := dv_mul a b (by rw [wd h, wd h']; cases small a <;> cases small b <;> rfl)
theorem divw {a b : Int} (h0 : 0 < b) (h : b.natAbs < 2 ^ 60) : dDiv (.int a) (.int b) = some (.int (a / b)) := dv_div a b h0 (wd h)
theorem absw (h : Int) : dAbs (.int h) = some (.int (h.natAbs : Int)) := by
  show some (D.int (if h < 0 then -h else h)) = _
  congr 2
  split <;> omega
theorem lcm_pos_dvd : ∀ (hs : List Nat) (l : Nat), l ∣ hs.foldl Nat.lcm l := fun hs l => (lcm_acc hs l).1
theorem gcd_le {l : Nat} {h : Int} (l0 : 0 < l) : 0 < Int.gcd (l : Int) h ∧ Int.gcd (l : Int) h ≤ l := by
  have e : Int.gcd (l : Int) h = Nat.gcd l h.natAbs := rfl
  rw [e]
  exact ⟨Nat.gcd_pos_of_pos_left _ l0, Nat.gcd_le_left _ l0⟩
theorem cb_mul {l : Nat} {h : Int} : (l : Int) / (Int.gcd (l : Int) h : Int) * (h.natAbs : Int) = ((Nat.lcm l h.natAbs : Nat) : Int) := by
  have e : Int.gcd (l : Int) h = Nat.gcd l h.natAbs := rfl
  rw [e, ← lcm_div, Int.natCast_mul, Int.natCast_ediv]
def cbBody : Sv := (sSet 2 (eBin dMul (eBin dDiv (eB 2) (eCall 2 m_divisor (aC (eV 2) (aC (eV 3) aN)))) (eUn dAbs (eB 3))))
theorem cb_loop (s0 s1 : Slot) (S : List D) : ∀ (hs : List Int) (l : Nat) (s3 : Slot), (∀ h ∈ hs, h.natAbs ≤ 60) → 0 < l → (∀ h ∈ hs, h ≠ 0) → (hs.map Int.natAbs).foldl Nat.lcm l ≤ 2 ^ 24 →
    ∃ s3', forL (.nm 3) cbBody (hs.map .int) [s0, s1, .val (.int (l : Int)), s3] S = some (.nx [s0, s1, .val (.int (((hs.map Int.natAbs).foldl Nat.lcm l : Nat) : Int)), s3'] S)
  | [], l, s3, _, _, _, _ => ⟨s3, rfl⟩
  | h :: hs, l, s3, hb, l0, hz, hl => by
    have d1 : Nat.lcm l h.natAbs ∣ (hs.map Int.natAbs).foldl Nat.lcm (Nat.lcm l h.natAbs) := lcm_pos_dvd _ _
    have p1 : 0 < (hs.map Int.natAbs).foldl Nat.lcm (Nat.lcm l h.natAbs) := by
      have : ∀ (xs : List Nat) (a : Nat), 0 < a → (∀ x ∈ xs, 0 < x) → 0 < xs.foldl Nat.lcm a := fun xs => by
        induction xs with
        | nil => intro a ha _; exact ha
        | cons x xs ih => intro a ha hx; exact ih _ (Nat.lcm_pos ha (hx x List.mem_cons_self)) fun y hy => hx y (List.mem_cons_of_mem _ hy)
      refine this _ _ (Nat.lcm_pos l0 (by have := hz h List.mem_cons_self; omega)) fun x hx => ?_
      obtain ⟨y, hy, rfl⟩ := List.mem_map.mp hx
      have := hz y (List.mem_cons_of_mem _ hy)
      omega
    have b1 : Nat.lcm l h.natAbs ≤ 2 ^ 24 := Nat.le_trans (Nat.le_of_dvd p1 d1) hl
    have lp : 0 < Nat.lcm l h.natAbs := Nat.lcm_pos l0 (by have := hz h List.mem_cons_self; omega)
    have b2 : l ≤ 2 ^ 24 := Nat.le_trans (Nat.le_of_dvd lp (Nat.dvd_lcm_left _ _)) b1
    obtain ⟨g0, g1⟩ := gcd_le (h := h) l0
    have hh := hb h List.mem_cons_self
    have e24 : (2 : Nat) ^ 24 = 16777216 := rfl
    have e60 : (2 : Nat) ^ 60 = 1152921504606846976 := rfl
    obtain ⟨s3', q⟩ := cb_loop s0 s1 S hs (Nat.lcm l h.natAbs) (.val (.int h)) (fun x hx => hb x (List.mem_cons_of_mem _ hx)) lp (fun x hx => hz x (List.mem_cons_of_mem _ hx)) hl
    refine ⟨s3', ?_⟩
    rw [List.map_cons, ev_forC, ev_bnm, Option.bind_some, ev_put1, ev_put0]
    have dq : ((l : Int) / (Int.gcd (l : Int) h : Int)).natAbs ≤ l := by
      rw [← Int.natCast_ediv, Int.natAbs_natCast]
      exact Nat.div_le_self _ _
    have step : cbBody [s0, s1, .val (.int (l : Int)), .val (.int h)] S = some (.nx [s0, s1, .val (.int ((Nat.lcm l h.natAbs : Nat) : Int)), .val (.int h)] S) := by
      unfold cbBody
      refine set_s ?_
      refine bin_s (d := .int ((l : Int) / (Int.gcd (l : Int) h : Int))) (S' := S) (bin_s (d := .int (l : Int)) (S' := S) rfl (call_s (ds := [.int (l : Int), .int h]) (S' := S) rfl rfl (m_divisor_eq _ _ S)) (divw (by omega) (by omega))) (un_s (d := .int h) (S' := S) rfl (absw h)) ?_
      rw [mulw (by omega) (by omega), cb_mul]
    show ((cbBody [s0, s1, .val (.int (l : Int)), .val (.int h)] S).bind _) = _
    rw [step]
    exact q
theorem g_common_bottom_is : g_common_bottom = sSeq (sSet 2 (eC (.int 1))) (sSeq (sFor (.nm 3) (iAny (eIx (eB 0) (eC (.int 0)))) cbBody) (sRet (eBin dMul (eB 2) (eB 1)))) := rfl
section
variable {hands : List Int} {looks : PySem.Str} {m k dots : Nat} (c : RY.Dt hands (lt looks) m k dots) (S : List D)
include c
theorem common_eq : m_common_bottom [clkD hands looks (m : Int), .int (dots : Int)] S = some (.int (RY.btm hands dots : Int), S) := by
  unfold m_common_bottom
  rw [g_common_bottom_is]
  refine run_rt (ρ := [.val (clkD hands looks (m : Int)), .val (.int (dots : Int)), .non, .non]) rfl ?_
  have hb := c.lcm_bd
  obtain ⟨s3, e⟩ := cb_loop (.val (clkD hands looks (m : Int))) (.val (.int (dots : Int))) S hands 1 .non c.bd Nat.one_pos c.nz hb.2
  refine (seq_nx (ρ' := [.val (clkD hands looks (m : Int)), .val (.int (dots : Int)), .val (.int ((1 : Nat) : Int)), .non]) (S' := S) rfl).trans ?_
  refine (seq_nx (for_s (ds := hands.map .int) (S' := S) rfl e)).trans ?_
  refine ret_s (bin_s (d := .int (RY.lcmH hands : Int)) (S' := S) (d2 := .int (dots : Int)) rfl rfl ?_)
  have e24 : (2 : Nat) ^ 24 = 16777216 := rfl
  have e60 : (2 : Nat) ^ 60 = 1152921504606846976 := rfl
  have := c.d24
  rw [mulw (by omega) (by omega), ← Int.natCast_mul]
  rfl
end
def vwComp : Ev := (eComp (.tup [(.nm 11), (.nm 12)]) (iZip (aC (eV 5) (aC (eV 7) aN))) cYes (eTup (aC (eV 11) (aC (eBin dMod (eBin dAdd (eB 12) (eBin dDiv (eBin dMul (eB 9) (eB 1)) (eB 6))) (eB 1)) aN))) [11, 12])
def vwOwn : Ev := (eComp (.nm 10) (iAny (eV 4)) cYes (eBin dMod (eBin dDiv (eBin dMul (eBin dMul (eB 10) (eB 2)) (eB 1)) (eB 3)) (eB 1)) [10])
theorem g_view_at_is : g_view_at = (sSeq (sAsg (.tup [(.nm 4), (.nm 5), (.nm 6)]) (eV 0)) (sSeq (sSet 7 vwOwn) (sSeq (sSetO 8 (eLst aN)) (sSeq (sFor (.nm 9) (iRange1 (aC (eV 6) aN)) (sApp 8 (eUnF sortD vwComp))) (sRet (eUn dMinD (eB 8))))))) := rfl
theorem zip_si : ∀ (L : List Nat) (xs : List Int), zipD (L.map fun c => D.str ⟨#[c]⟩) (xs.map .int) = (L.zip xs).map fun p => .tup [.str ⟨#[p.1]⟩, .int p.2]
  | [], _ => by simp [zipD]
  | _ :: _, [] => by simp [zipD]
  | c :: L, x :: xs => by
    simp only [List.map_cons, zipD, List.zip_cons_cons]
    rw [zip_si L xs]
section
variable {hands : List Int} {looks : PySem.Str} {m k dots : Nat} (c : RY.Dt hands (lt looks) m k dots) (S : List D)
include c
theorem stepk (s : Nat) : ((s : Int) * (dots : Int)) / (m : Int) = (s : Int) * (k : Int) := by
  have m0 := c.m0
  rw [c.dk, Int.natCast_mul, Int.mul_left_comm, Int.mul_ediv_cancel_left _ (by omega)]
theorem lt_ok : ∀ ch ∈ lt looks, PySem.PyData.strOk ⟨#[ch]⟩ = true := fun ch h => RY.ok_letter ch (c.ab ch h)
theorem own_s {top B2 : Int} (t0 : top.natAbs ≤ 2 ^ 40) (b0 : 0 < B2) (b1 : B2 ≤ 2 ^ 40) (s5 s6 s7 s8 s9 s10 s11 s12 : Slot) :
    vwOwn [.val (clkD hands looks (m : Int)), .val (.int (dots : Int)), .val (.int top), .val (.int B2), .val (.tup (hands.map .int)), s5, s6, s7, s8, s9, s10, s11, s12] S = some (.lst ((RY.ownL hands dots B2 top).map .int), S) := by
  unfold vwOwn
  have e40 : (2 : Nat) ^ 40 = 1099511627776 := rfl
  have e40' : (2 : Int) ^ 40 = 1099511627776 := rfl
  have e60 : (2 : Nat) ^ 60 = 1152921504606846976 := rfl
  refine comp_s (ds := hands.map .int) (S' := S) rfl (by rw [List.length_map]; have := c.l4; omega) ?_
  unfold RY.ownL
  rw [List.map_map]
  refine compL_map D.int _ hands fun h hh => ⟨_, rfl, ?_⟩
  have hb := c.bd h hh
  have d0 := c.d0
  have d24 := c.d24
  have b1 : (h * top).natAbs ≤ 60 * 2 ^ 40 := by rw [Int.natAbs_mul]; exact Nat.mul_le_mul hb t0
  refine bin_s (d := .int (h * top * dots / B2)) (S' := S) (d2 := .int (dots : Int)) (bin_s (d := .int (h * top * dots)) (S' := S) (d2 := .int B2) (bin_s (d := .int (h * top)) (S' := S) (d2 := .int (dots : Int)) (bin_s (d := .int h) (S' := S) (d2 := .int top) rfl rfl (mulw (by omega) (by omega))) rfl (mulw (by omega) (by omega))) rfl (divw b0 (by omega))) rfl ?_
  exact dv_mod _ _ (by omega)
theorem row_s (own : List Int) (s : Nat) (s2 s3 s4 s8 s10 s11 s12 : Slot) (hs : s < m) (hlen : own.length ≤ 4) :
    eUnF sortD vwComp [.val (clkD hands looks (m : Int)), .val (.int (dots : Int)), s2, s3, s4, .val (.str looks), .val (.int (m : Int)), .val (.lst (own.map .int)), s8, .val (.int (s : Int)), s10, s11, s12] S = some (RY.rowD (RY.srt (RY.row (lt looks) own k dots s)), S) := by
  have e60 : (2 : Nat) ^ 60 = 1152921504606846976 := rfl
  have m0 := c.m0
  have m6 := c.m6
  have d0 := c.d0
  have d24 := c.d24
  refine unF_s (d := .lst ((RY.row (lt looks) own k dots s).map RY.rwE)) (S' := S) ?_ (RY.sort_row fun p hp => ?_)
  · unfold vwComp
    refine comp_s (ds := ((lt looks).zip own).map fun p => .tup [.str ⟨#[p.1]⟩, .int p.2]) (S' := S) ?_ (by rw [List.length_map, List.length_zip]; omega) ?_
    · have h1 : seqOf (.str looks) = some ((lt looks).map fun c => D.str ⟨#[c]⟩) := rfl
      have h2 : seqOf (.lst (own.map .int)) = some (own.map .int) := rfl
      simp only [ev_C, ev_V, ev_B, ev_aN, ev_aC, ev_Tup, ev_Lst, ev_Bin, ev_Un, ev_UnF, ev_cV, ev_cAnd, ev_cOr, ev_cNot, ev_cYes, ev_And, ev_Or, ev_Not, ev_If, ev_Chain, ev_Call, ev_Ix, ev_Sl, ev_oN, ev_oE, ev_aS, ev_Comp, ev_iAny, ev_iRange1, ev_iRange2, ev_iZip, ev_iEnum, ev_sNil, ev_sSeq, ev_sIf, ev_sRet, ev_sRetO, ev_sRetN, ev_sAsg, ev_sSet, ev_sSetO, ev_sPar, ev_sFor, ev_sWhile, ev_sApp, ev_sIxO, ev_sIxC, ev_sFrz, ev_sExp, ev_sPass, ev_runB, ev_forN, ev_compN, ev_put0, ev_put1, ev_wipe0, ev_wipe1, ev_bnm, ev_btup, ev_bL0, ev_bL1, dv_add, dv_sub, dv_neg, dv_lt, dv_le, dv_gt, dv_ge, dv_int, dv_abs, dv_lenL, dv_lenT, dv_tupL, dv_tupT, dv_lofL, dv_lofT, dv_lofS, dv_seqL, dv_seqT, dv_ixL, dv_ixT, dv_ixO, atI_0, atI_1, atI_2, Option.bind_some, Option.bind_none, List.getElem?_cons_zero, List.getElem?_cons_succ, List.getElem?_nil, List.set_cons_zero, List.set_cons_succ, List.set_nil, List.length_cons, List.length_nil, List.map_cons, List.map_nil, List.replicate_succ, List.replicate_zero, List.cons_append, List.nil_append, Nat.reduceAdd, Nat.reduceSub, Nat.reduceLeDiff, Nat.zero_add, Nat.sub_zero, Nat.add_zero, if_true, if_false, Bool.false_eq_true, Nat.reduceEqDiff, Bool.not_true, Bool.not_false, decide_true, decide_false, ev_nat, h1, h2, zip_si]
    · unfold RY.row
      rw [List.map_map]
      refine compL_map (fun p : Nat × Int => D.tup [.str ⟨#[p.1]⟩, .int p.2]) _ _ fun p _ => ?_
      refine ⟨[(11, .str ⟨#[p.1]⟩), (12, .int p.2)], rfl, ?_⟩
      refine tup_s (aC_s (S' := S) rfl (aC_s (S' := S) (bin_s (d := .int (p.2 + (s : Int) * k)) (S' := S) (d2 := .int (dots : Int)) (bin_s (d := .int p.2) (S' := S) (d2 := .int ((s : Int) * k)) rfl (bin_s (d := .int ((s : Int) * dots)) (S' := S) (d2 := .int (m : Int)) (bin_s (d := .int (s : Int)) (S' := S) (d2 := .int (dots : Int)) rfl rfl (mulw (by omega) (by omega))) rfl ?_) rfl) rfl (dv_mod _ _ (by omega))) rfl)) (by show 2 ≤ 16777216; decide)
      rw [divw (by omega) (by omega), stepk c]
  · obtain ⟨q, hq, rfl⟩ := List.mem_map.mp hp
    exact lt_ok c _ (List.of_mem_zip hq).1
theorem view_eq {top B2 : Int} (t0 : top.natAbs ≤ 2 ^ 40) (b0 : 0 < B2) (b1 : B2 ≤ 2 ^ 40) :
    m_view_at [clkD hands looks (m : Int), .int (dots : Int), .int top, .int B2] S = some (RY.viewD (lt looks) (RY.ownL hands dots B2 top) k dots m, S) := by
  unfold m_view_at
  rw [g_view_at_is]
  refine run_rt (ρ := [.val (clkD hands looks (m : Int)), .val (.int (dots : Int)), .val (.int top), .val (.int B2), .non, .non, .non, .non, .non, .non, .non, .non, .non]) rfl ?_
  refine (seq_nx (asg_s (S' := S) rfl rfl)).trans ?_
  refine (seq_nx (set_s (own_s c S t0 b0 b1 _ _ _ _ _ _ _ _))).trans ?_
  refine (seq_nx (setO_s (d := .lst []) (S' := S) rfl (by exact (by decide : 8 < 13)))).trans ?_
  have m6 := c.m6
  have hown : (RY.ownL hands dots B2 top).length ≤ 4 := by unfold RY.ownL; rw [List.length_map]; exact c.l4
  generalize RY.ownL hands dots B2 top = own at *
  have all : ∀ j n s9, n + j = m → ∃ s9', forL (.nm 9) (sApp 8 (eUnF sortD vwComp)) ((List.range' n j).map fun (s : Nat) => D.int (s : Int)) [.val (clkD hands looks (m : Int)), .val (.int (dots : Int)), .val (.int top), .val (.int B2), .val (.tup (hands.map .int)), .val (.str looks), .val (.int (m : Int)), .val (.lst (own.map .int)), .own (.lst (((List.range n).map fun s => RY.srt (RY.row (lt looks) own k dots s)).map RY.rowD)), s9, .non, .non, .non] S =
      some (.nx [.val (clkD hands looks (m : Int)), .val (.int (dots : Int)), .val (.int top), .val (.int B2), .val (.tup (hands.map .int)), .val (.str looks), .val (.int (m : Int)), .val (.lst (own.map .int)), .own (.lst ((RY.rows (lt looks) own k dots m).map RY.rowD)), s9', .non, .non, .non] S) := by
    intro j
    induction j with
    | zero =>
      intro n s9 h
      have : n = m := by omega
      subst this
      exact ⟨s9, rfl⟩
    | succ j ih =>
      intro n s9 h
      obtain ⟨s9', q⟩ := ih (n + 1) (.val (.int (n : Int))) (by omega)
      refine ⟨s9', ?_⟩
      rw [List.range'_succ, List.map_cons, ev_forC, ev_bnm, Option.bind_some, ev_put1, ev_put0]
      simp only [List.set_cons_succ, List.set_cons_zero]
      rw [app_s (row_s c S own n _ _ _ _ _ _ _ (by omega) hown) rfl (by rw [List.length_map, List.length_map, List.length_range]; omega), Option.bind_some]
      rw [List.range_succ, List.map_append, List.map_append] at q
      exact q
  obtain ⟨s9', e⟩ := all m 0 .non (by omega)
  refine (seq_nx (for_s (ds := rangeD 0 (m : Int)) (S' := S) (range1_s (S' := S) rfl (inWord_len (by omega))) (by rw [rangeD_eq, List.range_eq_range']; exact e))).trans ?_
  exact ret_s (un_s (S' := S) rfl (RY.min_rows c.m0 (lt_ok c)))
end
def nD (n : Nat) : D := .int (n : Int)
def dK (ks : List Nat) : List (L2.Key × D) := ks.map fun (x : Nat) => ((Sum.inl (x : Int) : L2.Key), D.bl true)
theorem dK_put (ks : List Nat) (x : Nat) : stK (dK ks) (Sum.inl (x : Int)) (.bl true) = dK (RY.addK ks x) := by
  have hk : ((dK ks).any fun p => decide (p.1 = (Sum.inl (x : Int) : L2.Key))) = true ↔ x ∈ ks := by
    unfold dK
    rw [List.any_map, List.any_eq_true]
    constructor
    · rintro ⟨y, hy, e⟩
      have e := Sum.inl.inj (of_decide_eq_true e)
      have : y = x := by omega
      exact this ▸ hy
    · intro h
      exact ⟨x, h, decide_eq_true rfl⟩
  unfold stK RY.addK
  by_cases h : x ∈ ks
  · rw [if_pos (hk.mpr h), if_pos h]
    unfold dK
    rw [List.map_map]
    refine List.map_congr_left fun y _ => ?_
    show (if (Sum.inl (y : Int) : L2.Key) = Sum.inl (x : Int) then ((Sum.inl (y : Int) : L2.Key), D.bl true) else (Sum.inl (y : Int), D.bl true)) = _
    split <;> rfl
  · rw [if_neg (fun z => h (hk.mp z)), if_neg h]
    unfold dK
    rw [List.map_append]
    rfl
theorem keysI_dK : ∀ ks : List Nat, keysI (dK ks) = some (ks.map fun (n : Nat) => (n : Int))
  | [] => rfl
  | x :: ks => by
    show (keysI (dK ks)).map ((x : Int) :: ·) = _
    rw [keysI_dK ks]
    rfl
theorem sort_dK (hands : List Int) (dots : Nat) : sortKI (.kd (dK (RY.edges hands dots))) = some ((RY.edgS hands dots).map nD) := by
  unfold sortKI
  dsimp only
  rw [keysI_dK]
  show some _ = some _
  congr 1
  have h : ((RY.edgS hands dots).map fun (n : Nat) => (n : Int)) = ((RY.edges hands dots).map fun (n : Nat) => (n : Int)).mergeSort (· ≤ ·) := by
    refine sort_one ((RY.edgS_perm hands dots).map _) (List.pairwise_map.mpr ((RY.edgS_lt hands dots).imp fun {a b} q => ?_))
    omega
  dsimp only
  rw [← h, List.map_map]
  rfl
theorem kput_s {i : Nat} {f fk : Ev} {ρ : List Slot} {S S1 S2 : List D} {kvs : List (L2.Key × D)} {v dk : D} {k : L2.Key} (h1 : f ρ S = some (v, S1)) (h2 : fk ρ S1 = some (dk, S2)) (ho : ρ[i]? = some (.own (.kd kvs))) (hk : kkD dk = some k) (hl : kvs.length < 16777216) : sKPut i f fk ρ S = some (.nx (ρ.set i (.own (.kd (stK kvs k v)))) S2) := by
  unfold sKPut
  rw [h1, Option.bind_some, h2, Option.bind_some, ho]
  show (kkD dk).bind _ = _
  rw [hk, Option.bind_some]
  exact if_pos hl
def clIn : Sv := (sKPut 3 (eC (.bl true)) (eBin dDiv (eBin dMul (eB 5) (eB 2)) (eBin dMul (eB 1) (eUn dAbs (eB 4)))))
def clOut : Sv := (sFor (.nm 5) (iRange1 (aC (eBin dAdd (eBin dMul (eB 1) (eUn dAbs (eB 4))) (eC (.int 1))) aN)) clIn)
def clElt : Ev := (eTup (aC (eV 7) (aC (eV 8) (aC (eCall 4 m_view_at (aC (eV 0) (aC (eV 1) (aC (eBin dAdd (eB 7) (eB 8)) (aC (eBin dMul (eC (.int 2)) (eB 2)) aN))))) aN))))
theorem g_cells_is : g_cells = (sSeq (sSet 2 (eCall 2 m_common_bottom (aC (eV 0) (aC (eV 1) aN)))) (sSeq (sSetO 3 eKd0) (sSeq (sFor (.nm 4) (iAny (eIx (eB 0) (eC (.int 0)))) clOut) (sSeq (sSet 6 (eUnF sortKI (eB 3))) (sRet (eComp (.tup [(.nm 7), (.nm 8)]) (iZip (aC (eV 6) (aC (eSl (eB 6) (oE (eC (.int 1))) oN) aN))) cYes clElt [7, 8])))))) := rfl
theorem cutD_drop1 (xs : List D) (k : Nat) : cutD xs (some (k : Int)) none = xs.drop k := by
  unfold cutD
  rw [HT.sIx_none, HT.sIx_nat]
  by_cases h : k ≤ xs.length
  · rw [Nat.min_eq_left h, List.take_of_length_le (by rw [List.length_drop]; omega)]
  · rw [Nat.min_eq_right (by omega), Nat.sub_self, List.take_zero, List.drop_of_length_le (by omega)]
theorem sl_tail (xs : List D) : slD (some 1) none (.lst xs) = some (.lst xs.tail) := by
  show some (D.lst (cutD xs (some ((1 : Nat) : Int)) none)) = _
  rw [cutD_drop1, List.drop_one]
theorem zip_nD : ∀ (a b : List Nat), zipD (a.map nD) (b.map nD) = (a.zip b).map fun p => D.tup [nD p.1, nD p.2]
  | [], _ => by simp [zipD]
  | _ :: _, [] => by simp [zipD]
  | x :: a, y :: b => by
    simp only [List.map_cons, zipD, List.zip_cons_cons]
    rw [zip_nD a b]
section
variable {hands : List Int} {looks : PySem.Str} {m k dots : Nat} (c : RY.Dt hands (lt looks) m k dots) (S : List D)
include c
theorem cl_in {h : Int} (hh : h ∈ hands) (s6 s7 s8 : Slot) : ∀ (js ks : List Nat) (s5 : Slot), (∀ j ∈ js, j ≤ dots * h.natAbs) → ks.length + js.length ≤ 1000000 →
    ∃ s5', forL (.nm 5) clIn (js.map nD) [.val (clkD hands looks (m : Int)), .val (.int (dots : Int)), .val (.int (RY.btm hands dots : Int)), .own (.kd (dK ks)), .val (.int h), s5, s6, s7, s8] S =
      some (.nx [.val (clkD hands looks (m : Int)), .val (.int (dots : Int)), .val (.int (RY.btm hands dots : Int)), .own (.kd (dK (RY.addAll ks (js.map fun j => j * RY.wth hands h)))), .val (.int h), s5', s6, s7, s8] S)
  | [], ks, s5, _, _ => ⟨s5, rfl⟩
  | j :: js, ks, s5, hj, hl => by
    obtain ⟨s5', q⟩ := cl_in hh s6 s7 s8 js (RY.addK ks (j * RY.wth hands h)) (.val (nD j)) (fun x hx => hj x (List.mem_cons_of_mem _ hx)) (by have := RY.addK_len (ks := ks) (x := j * RY.wth hands h); rw [List.length_cons] at hl; omega)
    refine ⟨s5', ?_⟩
    rw [List.map_cons, ev_forC, ev_bnm, Option.bind_some, ev_put1, ev_put0]
    simp only [List.set_cons_succ, List.set_cons_zero]
    obtain ⟨e, w0⟩ := c.wth_eq hh
    have hb := c.bd h hh
    have hz := c.nz h hh
    have d0 := c.d0
    have d24 := c.d24
    have b29 := c.b29
    have e29 : (2 : Nat) ^ 29 = 536870912 := rfl
    have e60 : (2 : Nat) ^ 60 = 1152921504606846976 := rfl
    have hdh : dots * h.natAbs ≤ 24 * 60 := Nat.mul_le_mul d24 hb
    have hdp : 0 < dots * h.natAbs := Nat.mul_pos d0 (by omega)
    have hj0 := hj j List.mem_cons_self
    have hjB : j * RY.btm hands dots ≤ 1440 * 536870912 := Nat.mul_le_mul (by omega) (by omega)
    have v : (j : Int) * (RY.btm hands dots : Int) / ((dots : Int) * (h.natAbs : Int)) = ((j * RY.wth hands h : Nat) : Int) := by
      rw [← Int.natCast_mul, ← Int.natCast_mul, ← Int.natCast_ediv, e, ← Nat.mul_assoc, Nat.mul_div_cancel _ hdp]
    have step : clIn [.val (clkD hands looks (m : Int)), .val (.int (dots : Int)), .val (.int (RY.btm hands dots : Int)), .own (.kd (dK ks)), .val (.int h), .val (nD j), s6, s7, s8] S =
        some (.nx [.val (clkD hands looks (m : Int)), .val (.int (dots : Int)), .val (.int (RY.btm hands dots : Int)), .own (.kd (dK (RY.addK ks (j * RY.wth hands h)))), .val (.int h), .val (nD j), s6, s7, s8] S) := by
      rw [← dK_put]
      refine kput_s (S1 := S) (dk := .int ((j * RY.wth hands h : Nat) : Int)) rfl ?_ rfl rfl (by unfold dK; rw [List.length_map]; omega)
      refine bin_s (d := .int ((j : Int) * (RY.btm hands dots : Int))) (S' := S) (d2 := .int ((dots : Int) * (h.natAbs : Int))) (bin_s (d := nD j) (S' := S) (d2 := .int (RY.btm hands dots : Int)) rfl rfl (mulw (by omega) (by omega))) (bin_s (d := .int (dots : Int)) (S' := S) (d2 := .int (h.natAbs : Int)) rfl (un_s (d := .int h) (S' := S) rfl (absw h)) (mulw (by omega) (by omega))) ?_
      have hw : ((dots : Int) * (h.natAbs : Int)) = ((dots * h.natAbs : Nat) : Int) := (Int.natCast_mul _ _).symm
      rw [divw (by omega) (by omega), v]
    rw [step, Option.bind_some]
    exact q
theorem cl_out (s7 s8 : Slot) : ∀ (hs : List Int) (ks : List Nat) (s4 s5 s6 : Slot), (∀ h ∈ hs, h ∈ hands) → ks.length + hs.length * 1441 ≤ 1000000 →
    ∃ s4' s5', forL (.nm 4) clOut (hs.map .int) [.val (clkD hands looks (m : Int)), .val (.int (dots : Int)), .val (.int (RY.btm hands dots : Int)), .own (.kd (dK ks)), s4, s5, s6, s7, s8] S =
      some (.nx [.val (clkD hands looks (m : Int)), .val (.int (dots : Int)), .val (.int (RY.btm hands dots : Int)), .own (.kd (dK (RY.edgF hands dots hs ks))), s4', s5', s6, s7, s8] S)
  | [], ks, s4, s5, s6, _, _ => ⟨s4, s5, rfl⟩
  | h :: hs, ks, s4, s5, s6, hm, hl => by
    have hh := hm h List.mem_cons_self
    have hb := c.bd h hh
    have d24 := c.d24
    have hdh : dots * h.natAbs ≤ 24 * 60 := Nat.mul_le_mul d24 hb
    rw [List.length_cons] at hl
    have e60 : (2 : Nat) ^ 60 = 1152921504606846976 := rfl
    obtain ⟨s5', e1⟩ := cl_in c S hh s6 s7 s8 (List.range (dots * h.natAbs + 1)) ks s5 (fun j hj => by have := List.mem_range.mp hj; omega) (by rw [List.length_range]; omega)
    have hlen := RY.addAll_len (RY.edgH hands dots h) ks
    have hle : (RY.edgH hands dots h).length = dots * h.natAbs + 1 := by unfold RY.edgH; rw [List.length_map, List.length_range]
    obtain ⟨a4, a5, q⟩ := cl_out s7 s8 hs (RY.addAll ks (RY.edgH hands dots h)) (.val (.int h)) s5' s6 (fun x hx => hm x (List.mem_cons_of_mem _ hx)) (by omega)
    refine ⟨a4, a5, ?_⟩
    rw [List.map_cons, ev_forC, ev_bnm, Option.bind_some, ev_put1, ev_put0]
    simp only [List.set_cons_succ, List.set_cons_zero]
    have step : clOut [.val (clkD hands looks (m : Int)), .val (.int (dots : Int)), .val (.int (RY.btm hands dots : Int)), .own (.kd (dK ks)), .val (.int h), s5, s6, s7, s8] S =
        some (.nx [.val (clkD hands looks (m : Int)), .val (.int (dots : Int)), .val (.int (RY.btm hands dots : Int)), .own (.kd (dK (RY.addAll ks (RY.edgH hands dots h)))), .val (.int h), s5', s6, s7, s8] S) := by
      unfold clOut
      refine for_s (ds := rangeD 0 ((dots * h.natAbs + 1 : Nat) : Int)) (S' := S) (range1_s (S' := S) ?_ (inWord_len (by omega))) ?_
      · refine aC_s (d := .int ((dots * h.natAbs + 1 : Nat) : Int)) (S' := S) ?_ rfl
        refine bin_s (d := .int ((dots : Int) * (h.natAbs : Int))) (S' := S) (d2 := .int 1) (bin_s (d := .int (dots : Int)) (S' := S) (d2 := .int (h.natAbs : Int)) rfl (un_s (d := .int h) (S' := S) rfl (absw h)) (mulw (by omega) (by omega))) rfl ?_
        rw [← Int.natCast_mul]
        rfl
      · rw [rangeD_eq]
        exact e1
    rw [step, Option.bind_some]
    exact q
noncomputable def cellD (hands : List Int) (L : List Nat) (m k dots : Nat) (p : Nat × Nat) : D := .tup [nD p.1, nD p.2, RY.rowD (RY.vu hands L m k dots p.1)]
theorem cells_eq : m_cells [clkD hands looks (m : Int), .int (dots : Int)] S = some (.lst (((RY.edgS hands dots).zip (RY.edgS hands dots).tail).map (cellD hands (lt looks) m k dots)), S) := by
  unfold m_cells
  rw [g_cells_is]
  refine run_rt (ρ := [.val (clkD hands looks (m : Int)), .val (.int (dots : Int)), .non, .non, .non, .non, .non, .non, .non]) rfl ?_
  refine (seq_nx (set_s (d := .int (RY.btm hands dots : Int)) (S' := S) (call_s (ds := [clkD hands looks (m : Int), .int (dots : Int)]) (S' := S) rfl rfl (common_eq c S)))).trans ?_
  refine (seq_nx (setO_s (d := .kd (dK [])) (S' := S) rfl (by exact (by decide : 3 < 9)))).trans ?_
  have l4 := c.l4
  obtain ⟨s4, s5, e⟩ := cl_out c S .non .non hands [] .non .non .non (fun h hh => hh) (by rw [List.length_nil]; omega)
  refine (seq_nx (for_s (ds := hands.map .int) (S' := S) rfl e)).trans ?_
  refine (seq_nx (set_s (d := .lst ((RY.edgS hands dots).map nD)) (S' := S) (unF_s (S' := S) rfl (sort_dK hands dots)))).trans ?_
  refine ret_s (comp_s (ds := ((RY.edgS hands dots).zip (RY.edgS hands dots).tail).map fun p => D.tup [nD p.1, nD p.2]) (S' := S) ?_ ?_ ?_)
  · have h2 : seqOf (.lst ((RY.edgS hands dots).map nD)) = some ((RY.edgS hands dots).map nD) := rfl
    have h3 : seqOf (.lst ((RY.edgS hands dots).map nD).tail) = some ((RY.edgS hands dots).tail.map nD) := by rw [← List.map_tail]; rfl
    simp only [ev_C, ev_V, ev_B, ev_aN, ev_aC, ev_Tup, ev_Lst, ev_Bin, ev_Un, ev_UnF, ev_cV, ev_cAnd, ev_cOr, ev_cNot, ev_cYes, ev_And, ev_Or, ev_Not, ev_If, ev_Chain, ev_Call, ev_Ix, ev_Sl, ev_oN, ev_oE, ev_aS, ev_Comp, ev_iAny, ev_iRange1, ev_iRange2, ev_iZip, ev_iEnum, ev_sNil, ev_sSeq, ev_sIf, ev_sRet, ev_sRetO, ev_sRetN, ev_sAsg, ev_sSet, ev_sSetO, ev_sPar, ev_sFor, ev_sWhile, ev_sApp, ev_sIxO, ev_sIxC, ev_sFrz, ev_sExp, ev_sPass, ev_runB, ev_forN, ev_compN, ev_put0, ev_put1, ev_wipe0, ev_wipe1, ev_bnm, ev_btup, ev_bL0, ev_bL1, dv_add, dv_sub, dv_neg, dv_lt, dv_le, dv_gt, dv_ge, dv_int, dv_abs, dv_lenL, dv_lenT, dv_tupL, dv_tupT, dv_lofL, dv_lofT, dv_lofS, dv_seqL, dv_seqT, dv_ixL, dv_ixT, dv_ixO, atI_0, atI_1, atI_2, Option.bind_some, Option.bind_none, List.getElem?_cons_zero, List.getElem?_cons_succ, List.getElem?_nil, List.set_cons_zero, List.set_cons_succ, List.set_nil, List.length_cons, List.length_nil, List.map_cons, List.map_nil, List.replicate_succ, List.replicate_zero, List.cons_append, List.nil_append, Nat.reduceAdd, Nat.reduceSub, Nat.reduceLeDiff, Nat.zero_add, Nat.sub_zero, Nat.add_zero, if_true, if_false, Bool.false_eq_true, Nat.reduceEqDiff, Bool.not_true, Bool.not_false, decide_true, decide_false, ev_nat, sl_tail, h2, h3, zip_nD]
  · have := RY.edg_len c
    rw [List.length_map, List.length_zip]
    omega
  · refine compL_map (fun p : Nat × Nat => D.tup [nD p.1, nD p.2]) _ _ fun p hp => ⟨[(7, nD p.1), (8, nD p.2)], rfl, ?_⟩
    have e40 : (2 : Nat) ^ 40 = 1099511627776 := rfl
    have e40' : (2 : Int) ^ 40 = 1099511627776 := rfl
    have e29 : (2 : Nat) ^ 29 = 536870912 := rfl
    have e60 : (2 : Nat) ^ 60 = 1152921504606846976 := rfl
    have b29 := c.b29
    have b0 := c.b0
    obtain ⟨q1, q2, q3⟩ := RY.zip_lt (RY.edgS_lt hands dots) p hp
    have l2 := RY.edg_le c _ q3
    have hv := view_eq c S (top := (p.1 : Int) + p.2) (B2 := 2 * (RY.btm hands dots : Int)) (by omega) (by omega) (by omega)
    rw [RY.edg_own c p hp p.1 (Nat.le_refl _) q1, (RY.vrow_eq c.m0).1] at hv
    refine tup_s (aC_s (S' := S) rfl (aC_s (S' := S) rfl (aC_s (S' := S) (call_s (S' := S) (ds := [clkD hands looks (m : Int), .int (dots : Int), .int ((p.1 : Int) + p.2), .int (2 * (RY.btm hands dots : Int))]) (aC_s (S' := S) rfl (aC_s (S' := S) rfl (aC_s (S' := S) rfl (aC_s (S' := S) (bin_s (d := .int 2) (S' := S) (d2 := .int (RY.btm hands dots : Int)) rfl rfl (mulw (by omega) (by omega))) rfl)))) rfl hv) rfl))) (by show 3 ≤ 16777216; decide)
end
abbrev Tri := Nat × Nat × List (Nat × Int)
def triD (t : Tri) : D := .tup [nD t.1, nD t.2.1, RY.rowD t.2.2]
def RowOk (r : List (Nat × Int)) : Prop := ∀ p ∈ r, PySem.PyData.strOk ⟨#[p.1]⟩ = true
theorem eqL_inj {α : Type} [DecidableEq α] {e : α → D} (h : ∀ x y, eqD (e x) (e y) = decide (x = y)) : ∀ (a b : List α), eqL (a.map e) (b.map e) = decide (a = b)
  | [], [] => by simp [eqL]
  | [], _ :: _ => by simp [eqL]
  | _ :: _, [] => by simp [eqL]
  | x :: a, y :: b => by
    simp only [List.map_cons, eqL, h, eqL_inj h a b]
    by_cases q : x = y
    · subst q; simp
    · simp [q]
theorem sg1_inj {a b : Nat} (h : (⟨#[a]⟩ : PySem.Str) = ⟨#[b]⟩) : a = b := by
  have h := congrArg (fun s : PySem.Str => s.cps.toList) h
  simpa using h
theorem eqD_rwE (p q : Nat × Int) : eqD (RY.rwE p) (RY.rwE q) = decide (p = q) := by
  obtain ⟨a, x⟩ := p
  obtain ⟨b, y⟩ := q
  unfold RY.rwE
  simp only [eqD, eqL]
  by_cases e : a = b
  · subst e
    have : ((⟨#[a]⟩ : PySem.Str) == ⟨#[a]⟩) = true := by simp
    rw [this, Bool.true_and, Bool.and_true, Bool.beq_eq_decide_eq]
    simp
  · have : ((⟨#[a]⟩ : PySem.Str) == ⟨#[b]⟩) = false := beq_eq_false_iff_ne.mpr fun z => e (sg1_inj z)
    rw [this, Bool.false_and]
    simp [e]
theorem eqD_rw (a b : List (Nat × Int)) : eqD (RY.rowD a) (RY.rowD b) = decide (a = b) := by
  unfold RY.rowD
  simp only [eqD]
  exact eqL_inj eqD_rwE a b
theorem dEq_row {a b : List (Nat × Int)} (ha : RowOk a) (hb : RowOk b) : dEq (RY.rowD a) (RY.rowD b) = some (.bl (decide (a = b))) := by
  unfold dEq
  rw [if_pos (by rw [RY.okD_rowD ha 58, RY.okD_rowD hb 58]; rfl), eqD_rw]
theorem okD_tri {t : Tri} (h : RowOk t.2.2) : okD 59 (triD t) = true := by
  unfold triD nD
  have := RY.okD_rowD h 56
  simp [okD, okL, this]
theorem ne_nil {l : List Tri} (h : ∀ t ∈ l, RowOk t.2.2) : dNe (.lst (l.map triD)) (.lst []) = some (.bl (!decide (l = []))) := by
  unfold dNe
  have ok : okD 60 (.lst (l.map triD)) = true := by
    show okL 59 (l.map triD) = true
    refine okL_of fun d hd => ?_
    obtain ⟨t, ht, rfl⟩ := List.mem_map.mp hd
    exact okD_tri (h t ht)
  rw [if_pos (by rw [ok]; rfl)]
  cases l with
  | nil => rfl
  | cons t l => simp [eqD, eqL]
theorem ixN_last (n : Nat) : ixN (n + 1) (-1) = some n := by
  unfold ixN
  rw [if_neg (by omega), if_pos (by omega)]
  congr 1
  omega
theorem set_last {α : Type} (l : List α) (x y : α) : (l ++ [x]).set l.length y = l ++ [y] := by
  rw [List.set_append_right _ _ (Nat.le_refl _), Nat.sub_self]
  rfl
def stTest : Et := (cAnd (cV (eBin dNe (eB 2) (eLst aN))) (cV (eBin dEq (eIx (eIx (eB 2) (eUn dNeg (eC (.int 1)))) (eC (.int 2))) (eB 5))))
def stMore : Sv := (sIxO 2 (eTup (aC (eIx (eIx (eB 2) (eUn dNeg (eC (.int 1)))) (eC (.int 0))) (aC (eBin dSub (eBin dAdd (eIx (eIx (eB 2) (eUn dNeg (eC (.int 1)))) (eC (.int 1))) (eB 4)) (eB 3)) (aC (eV 5) aN)))) (eUn dNeg (eC (.int 1))))
def stNew : Sv := (sApp 2 (eTup (aC (eV 3) (aC (eBin dSub (eB 4) (eB 3)) (aC (eV 5) aN)))))
def stBody : Sv := sIf stTest stMore stNew
def stEnd : Et := (cAnd (cV (eBin dGt (eUn dLen (eB 2)) (eC (.int 1)))) (cV (eBin dEq (eIx (eIx (eB 2) (eC (.int 0))) (eC (.int 2))) (eIx (eIx (eB 2) (eUn dNeg (eC (.int 1)))) (eC (.int 2))))))
def stWrap : Ev := (eLst (aS (eSl (eB 2) (oE (eC (.int 1))) (oE (eUn dNeg (eC (.int 1))))) (aC (eTup (aC (eIx (eIx (eB 2) (eUn dNeg (eC (.int 1)))) (eC (.int 0))) (aC (eBin dAdd (eIx (eIx (eB 2) (eUn dNeg (eC (.int 1)))) (eC (.int 1))) (eIx (eIx (eB 2) (eC (.int 0))) (eC (.int 1)))) (aC (eIx (eIx (eB 2) (eC (.int 0))) (eC (.int 2))) aN)))) aN)))
theorem g_stretches_is : g_stretches = (sSeq (sSetO 2 (eLst aN)) (sSeq (sFor (.tup [(.nm 3), (.nm 4), (.nm 5)]) (iAny (eCall 2 m_cells (aC (eV 0) (aC (eV 1) aN)))) stBody) (sSeq (sIf stEnd (sRet stWrap) sNil) (sRetO 2)))) := rfl
theorem st_step (s0 s1 : Slot) (S : List D) (acc : List Tri) (c : Tri) (ha : ∀ t ∈ acc, RowOk t.2.2) (hc : RowOk c.2.2) (hlt : c.1 < c.2.1) (hl : acc.length < 16777216) :
    stBody [s0, s1, .own (.lst (acc.map triD)), .val (nD c.1), .val (nD c.2.1), .val (RY.rowD c.2.2)] S = some (.nx [s0, s1, .own (.lst ((RZ.stepC acc c).map triD)), .val (nD c.1), .val (nD c.2.1), .val (RY.rowD c.2.2)] S) := by
  unfold stBody
  have h1 : (cV (eBin dNe (eB 2) (eLst aN))) [s0, s1, .own (.lst (acc.map triD)), .val (nD c.1), .val (nD c.2.1), .val (RY.rowD c.2.2)] S = some (!decide (acc = []), S) := cV_s (bin_s (d := .lst (acc.map triD)) (S' := S) (d2 := .lst []) (S2 := S) rfl rfl (ne_nil ha))
  have new : stNew [s0, s1, .own (.lst (acc.map triD)), .val (nD c.1), .val (nD c.2.1), .val (RY.rowD c.2.2)] S = some (.nx [s0, s1, .own (.lst ((acc ++ [(c.1, c.2.1 - c.1, c.2.2)]).map triD)), .val (nD c.1), .val (nD c.2.1), .val (RY.rowD c.2.2)] S) := by
    unfold stNew
    have e : ((c.2.1 : Int) - (c.1 : Int)) = ((c.2.1 - c.1 : Nat) : Int) := by omega
    have q := app_s (i := 2) (xs := acc.map triD) (f := eTup (aC (eV 3) (aC (eBin dSub (eB 4) (eB 3)) (aC (eV 5) aN)))) (ρ := [s0, s1, .own (.lst (acc.map triD)), .val (nD c.1), .val (nD c.2.1), .val (RY.rowD c.2.2)]) (S := S) (S' := S) (d := triD (c.1, c.2.1 - c.1, c.2.2)) ?_ rfl (by rw [List.length_map]; exact hl)
    · rw [q, List.map_append]; rfl
    · refine tup_s (aC_s (S' := S) rfl (aC_s (S' := S) (d := nD (c.2.1 - c.1)) (bin_s (d := nD c.2.1) (S' := S) (d2 := nD c.1) rfl rfl ?_) rfl)) (by show 3 ≤ 16777216; decide)
      show some (D.int ((c.2.1 : Int) - (c.1 : Int))) = _
      rw [e]; rfl
  cases h : acc.getLast? with
  | none =>
    have hn : acc = [] := List.getLast?_eq_none_iff.mp h
    subst hn
    refine (if_f (S' := S) ?_).trans new
    exact cAnd_f h1
  | some l =>
    obtain ⟨pre, rfl⟩ : ∃ pre, acc = pre ++ [l] := List.getLast?_eq_some_iff.mp h
    have hnn : decide (pre ++ [l] = []) = false := by simp
    rw [hnn] at h1
    have hm : (pre ++ [l]).map triD = pre.map triD ++ [triD l] := by rw [List.map_append]; rfl
    have eL : ∀ (ρ : List Slot), ρ[2]? = some (.own (.lst ((pre ++ [l]).map triD))) → eIx (eB 2) (eUn dNeg (eC (.int 1))) ρ S = some (triD l, S) := fun ρ hρ => by
      have hb : eB 2 ρ S = some (.lst ((pre ++ [l]).map triD), S) := by rw [ev_B, hρ]
      exact ix_s hb (S2 := S) (d2 := .int (-1)) rfl (by rw [hm]; exact L2.atI_last _ _)
    have hok := ha l (by simp)
    have h2 : (cV (eBin dEq (eIx (eIx (eB 2) (eUn dNeg (eC (.int 1)))) (eC (.int 2))) (eB 5))) [s0, s1, .own (.lst ((pre ++ [l]).map triD)), .val (nD c.1), .val (nD c.2.1), .val (RY.rowD c.2.2)] S = some (decide (l.2.2 = c.2.2), S) :=
      cV_s (bin_s (d := RY.rowD l.2.2) (S' := S) (d2 := RY.rowD c.2.2) (S2 := S) (ix_s (S' := S) (eL _ rfl) (S2 := S) (d2 := .int 2) rfl rfl) rfl (dEq_row hok hc))
    have ht : stTest [s0, s1, .own (.lst ((pre ++ [l]).map triD)), .val (nD c.1), .val (nD c.2.1), .val (RY.rowD c.2.2)] S = some (decide (l.2.2 = c.2.2), S) := (cAnd_t h1).trans h2
    unfold RZ.stepC
    rw [h]
    dsimp only
    by_cases e : l.2.2 = c.2.2
    · rw [decide_eq_true e] at ht
      rw [if_pos e, List.dropLast_concat]
      refine (if_t ht).trans ?_
      unfold stMore
      have ev : eTup (aC (eIx (eIx (eB 2) (eUn dNeg (eC (.int 1)))) (eC (.int 0))) (aC (eBin dSub (eBin dAdd (eIx (eIx (eB 2) (eUn dNeg (eC (.int 1)))) (eC (.int 1))) (eB 4)) (eB 3)) (aC (eV 5) aN))) [s0, s1, .own (.lst ((pre ++ [l]).map triD)), .val (nD c.1), .val (nD c.2.1), .val (RY.rowD c.2.2)] S = some (triD (l.1, l.2.1 + c.2.1 - c.1, c.2.2), S) := by
        refine tup_s (aC_s (S' := S) (d := nD l.1) (ix_s (S' := S) (eL _ rfl) (S2 := S) (d2 := .int 0) rfl rfl) (aC_s (S' := S) (d := nD (l.2.1 + c.2.1 - c.1)) (bin_s (d := .int ((l.2.1 : Int) + c.2.1)) (S' := S) (d2 := nD c.1) (bin_s (d := nD l.2.1) (S' := S) (d2 := nD c.2.1) (ix_s (S' := S) (eL _ rfl) (S2 := S) (d2 := .int 1) rfl rfl) rfl rfl) rfl ?_) rfl)) (by show 3 ≤ 16777216; decide)
        show some (D.int ((l.2.1 : Int) + c.2.1 - (c.1 : Int))) = _
        have : ((l.2.1 : Int) + c.2.1 - (c.1 : Int)) = ((l.2.1 + c.2.1 - c.1 : Nat) : Int) := by omega
        rw [this]; rfl
      rw [ev_sIxO, ev, Option.bind_some]
      have en : eUn dNeg (eC (.int 1)) [s0, s1, .own (.lst ((pre ++ [l]).map triD)), .val (nD c.1), .val (nD c.2.1), .val (RY.rowD c.2.2)] S = some (.int (-1), S) := rfl
      rw [en, Option.bind_some]
      show (ixN ((pre ++ [l]).map triD).length (-1)).bind _ = _
      rw [hm, List.length_append, List.length_singleton, ixN_last, Option.bind_some, set_last, List.map_append]
      rfl
    · rw [decide_eq_false e] at ht
      rw [if_neg e]
      exact (if_f ht).trans new
theorem stepC_ok {acc : List Tri} {c : Tri} (ha : ∀ t ∈ acc, RowOk t.2.2) (hc : RowOk c.2.2) : (∀ t ∈ RZ.stepC acc c, RowOk t.2.2) ∧ (RZ.stepC acc c).length ≤ acc.length + 1 := by
  unfold RZ.stepC
  split
  · split
    · refine ⟨fun t ht => ?_, by rw [List.length_append, List.length_dropLast]; simp⟩
      rcases List.mem_append.mp ht with h | h
      · exact ha t ((List.dropLast_sublist _).subset h)
      · rw [List.mem_singleton.mp h]; exact hc
    · refine ⟨fun t ht => ?_, by rw [List.length_append]; exact Nat.le_refl _⟩
      rcases List.mem_append.mp ht with h | h
      · exact ha t h
      · rw [List.mem_singleton.mp h]; exact hc
  · exact ⟨fun t ht => by rw [List.mem_singleton.mp ht]; exact hc, by simp⟩
theorem st_loop (s0 s1 : Slot) (S : List D) : ∀ (cs acc : List Tri) (s3 s4 s5 : Slot), (∀ t ∈ acc, RowOk t.2.2) → (∀ t ∈ cs, RowOk t.2.2 ∧ t.1 < t.2.1) → acc.length + cs.length ≤ 1000000 →
    ∃ s3' s4' s5', forL (.tup [(.nm 3), (.nm 4), (.nm 5)]) stBody (cs.map triD) [s0, s1, .own (.lst (acc.map triD)), s3, s4, s5] S = some (.nx [s0, s1, .own (.lst ((cs.foldl RZ.stepC acc).map triD)), s3', s4', s5'] S)
  | [], acc, s3, s4, s5, _, _, _ => ⟨s3, s4, s5, rfl⟩
  | c :: cs, acc, s3, s4, s5, ha, hc, hl => by
    obtain ⟨h1, h2⟩ := hc c List.mem_cons_self
    obtain ⟨k1, k2⟩ := stepC_ok ha h1
    rw [List.length_cons] at hl
    obtain ⟨a3, a4, a5, q⟩ := st_loop s0 s1 S cs (RZ.stepC acc c) (.val (nD c.1)) (.val (nD c.2.1)) (.val (RY.rowD c.2.2)) k1 (fun t ht => hc t (List.mem_cons_of_mem _ ht)) (by omega)
    refine ⟨a3, a4, a5, ?_⟩
    have eb : binds (.tup [(.nm 3), (.nm 4), (.nm 5)]) (triD c) = some [(3, nD c.1), (4, nD c.2.1), (5, RY.rowD c.2.2)] := rfl
    rw [List.map_cons, ev_forC, eb, Option.bind_some]
    have ep : putD [s0, s1, .own (.lst (acc.map triD)), s3, s4, s5] [(3, nD c.1), (4, nD c.2.1), (5, RY.rowD c.2.2)] = [s0, s1, .own (.lst (acc.map triD)), .val (nD c.1), .val (nD c.2.1), .val (RY.rowD c.2.2)] := rfl
    rw [ep, st_step s0 s1 S acc c ha h1 h2 (by omega), Option.bind_some]
    exact q
theorem sl_mid (xs : List D) : slD (some 1) (some (-1)) (.lst xs) = some (.lst xs.tail.dropLast) := by
  show some (D.lst (cutD xs (some ((1 : Nat) : Int)) (some (-1)))) = _
  congr 2
  unfold cutD
  rw [HT.sIx_nat]
  have e : HT.sIx xs.length xs.length (some (-1)) = xs.length - 1 := by
    show (if (-1 : Int) < 0 then (-1 + (xs.length : Int)).toNat else min (-1 : Int).toNat xs.length) = _
    rw [if_pos (by decide)]
    omega
  rw [e]
  cases xs with
  | nil => rfl
  | cons x xs =>
    have e1 : min 1 (x :: xs).length = 1 := by rw [List.length_cons]; omega
    rw [e1, List.drop_one, List.tail_cons, List.length_cons, List.dropLast_eq_take]
    congr 1
theorem st_wrap (s0 s1 s3 s4 s5 : Slot) (S : List D) (l : List Tri) (h : ∀ t ∈ l, RowOk t.2.2) (hl : l.length ≤ 1000000) : sSeq (sIf stEnd (sRet stWrap) sNil) (sRetO 2) [s0, s1, .own (.lst (l.map triD)), s3, s4, s5] S = some (.rt (.lst ((RZ.wrapC l).map triD)) S) := by
  have hlen : (cV (eBin dGt (eUn dLen (eB 2)) (eC (.int 1)))) [s0, s1, .own (.lst (l.map triD)), s3, s4, s5] S = some (decide (1 < l.length), S) := by
    refine cV_s (bin_s (d := .int ((l.map triD).length : Int)) (S' := S) (d2 := .int 1) (S2 := S) (un_s (S' := S) rfl rfl) rfl ?_)
    rw [dv_gt, List.length_map]
    congr 2
    exact decide_eq_decide.mpr (by omega)
  have stay : ∀ (hc : stEnd [s0, s1, .own (.lst (l.map triD)), s3, s4, s5] S = some (false, S)), sSeq (sIf stEnd (sRet stWrap) sNil) (sRetO 2) [s0, s1, .own (.lst (l.map triD)), s3, s4, s5] S = some (.rt (.lst (l.map triD)) S) := fun hc => (seq_nx ((if_f hc).trans rfl)).trans rfl
  by_cases h1 : 1 < l.length
  · rw [decide_eq_true h1] at hlen
    obtain ⟨a, l', rfl⟩ : ∃ a l', l = a :: l' := by
      cases l with
      | nil => cases h1
      | cons a l' => exact ⟨a, l', rfl⟩
    obtain ⟨pre, z, hz⟩ : ∃ pre z, a :: l' = pre ++ [z] := ⟨_, _, (List.dropLast_concat_getLast (List.cons_ne_nil a l')).symm⟩
    have hlast : (a :: l').getLast? = some z := by rw [hz]; exact List.getLast?_concat
    have hm : (a :: l').map triD = pre.map triD ++ [triD z] := by rw [hz, List.map_append]; rfl
    have eL : ∀ (ρ : List Slot), ρ[2]? = some (.own (.lst ((a :: l').map triD))) → eIx (eB 2) (eUn dNeg (eC (.int 1))) ρ S = some (triD z, S) := fun ρ hρ => by
      have hb : eB 2 ρ S = some (.lst ((a :: l').map triD), S) := by rw [ev_B, hρ]
      exact ix_s hb (S2 := S) (d2 := .int (-1)) rfl (by rw [hm]; exact L2.atI_last _ _)
    have eF : ∀ (ρ : List Slot), ρ[2]? = some (.own (.lst ((a :: l').map triD))) → eIx (eB 2) (eC (.int 0)) ρ S = some (triD a, S) := fun ρ hρ => by
      have hb : eB 2 ρ S = some (.lst ((a :: l').map triD), S) := by rw [ev_B, hρ]
      exact ix_s hb (S2 := S) (d2 := .int 0) rfl (by rw [dv_ixL, atI_0]; rfl)
    have oa := h a List.mem_cons_self
    have oz := h z (by rw [hz]; simp)
    have h2 : (cV (eBin dEq (eIx (eIx (eB 2) (eC (.int 0))) (eC (.int 2))) (eIx (eIx (eB 2) (eUn dNeg (eC (.int 1)))) (eC (.int 2))))) [s0, s1, .own (.lst ((a :: l').map triD)), s3, s4, s5] S = some (decide (a.2.2 = z.2.2), S) :=
      cV_s (bin_s (d := RY.rowD a.2.2) (S' := S) (d2 := RY.rowD z.2.2) (S2 := S) (ix_s (S' := S) (eF _ rfl) (S2 := S) (d2 := .int 2) rfl rfl) (ix_s (S' := S) (eL _ rfl) (S2 := S) (d2 := .int 2) rfl rfl) (dEq_row oa oz))
    have he : stEnd [s0, s1, .own (.lst ((a :: l').map triD)), s3, s4, s5] S = some (decide (a.2.2 = z.2.2), S) := (cAnd_t hlen).trans h2
    unfold RZ.wrapC
    rw [hlast, List.head?_cons]
    dsimp only
    by_cases e : a.2.2 = z.2.2
    · rw [decide_eq_true e] at he
      rw [if_pos ⟨h1, e⟩]
      have hw : stWrap [s0, s1, .own (.lst ((a :: l').map triD)), s3, s4, s5] S = some (.lst (((a :: l').tail.dropLast ++ [(z.1, z.2.1 + a.2.1, a.2.2)]).map triD), S) := by
        unfold stWrap
        have es : eSl (eB 2) (oE (eC (.int 1))) (oE (eUn dNeg (eC (.int 1)))) [s0, s1, .own (.lst ((a :: l').map triD)), s3, s4, s5] S = some (.lst ((a :: l').map triD).tail.dropLast, S) := by
          rw [ev_Sl]
          have b1 : eB 2 [s0, s1, .own (.lst ((a :: l').map triD)), s3, s4, s5] S = some (.lst ((a :: l').map triD), S) := rfl
          have b2 : oE (eC (.int 1)) [s0, s1, .own (.lst ((a :: l').map triD)), s3, s4, s5] S = some (some 1, S) := rfl
          have b3 : oE (eUn dNeg (eC (.int 1))) [s0, s1, .own (.lst ((a :: l').map triD)), s3, s4, s5] S = some (some (-1), S) := rfl
          rw [b1, Option.bind_some, b2, Option.bind_some, b3, Option.bind_some, sl_mid]
          rfl
        have et : eTup (aC (eIx (eIx (eB 2) (eUn dNeg (eC (.int 1)))) (eC (.int 0))) (aC (eBin dAdd (eIx (eIx (eB 2) (eUn dNeg (eC (.int 1)))) (eC (.int 1))) (eIx (eIx (eB 2) (eC (.int 0))) (eC (.int 1)))) (aC (eIx (eIx (eB 2) (eC (.int 0))) (eC (.int 2))) aN))) [s0, s1, .own (.lst ((a :: l').map triD)), s3, s4, s5] S = some (triD (z.1, z.2.1 + a.2.1, a.2.2), S) :=
          tup_s (aC_s (S' := S) (d := nD z.1) (ix_s (S' := S) (eL _ rfl) (S2 := S) (d2 := .int 0) rfl rfl) (aC_s (S' := S) (d := nD (z.2.1 + a.2.1)) (bin_s (d := nD z.2.1) (S' := S) (d2 := nD a.2.1) (ix_s (S' := S) (eL _ rfl) (S2 := S) (d2 := .int 1) rfl rfl) (ix_s (S' := S) (eF _ rfl) (S2 := S) (d2 := .int 1) rfl rfl) rfl) (aC_s (S' := S) (d := RY.rowD a.2.2) (ix_s (S' := S) (eF _ rfl) (S2 := S) (d2 := .int 2) rfl rfl) rfl))) (by show 3 ≤ 16777216; decide)
        refine lst_s (ds := ((a :: l').tail.dropLast ++ [(z.1, z.2.1 + a.2.1, a.2.2)]).map triD) ?_ ?_
        · rw [ev_aS, es, Option.bind_some]
          dsimp only
          rw [Option.bind_some, aC_s (S' := S) et rfl, Option.bind_some, List.map_append]
          simp [List.map_dropLast]
        · rw [List.length_map, List.length_append, List.length_dropLast, List.length_tail]
          simp only [List.length_cons, List.length_nil] at *
          omega
      exact seq_rt ((if_t he).trans (ret_s hw))
    · rw [decide_eq_false e] at he
      rw [if_neg (fun z => e z.2)]
      exact stay he
  · rw [decide_eq_false h1] at hlen
    have e : RZ.wrapC l = l := by
      unfold RZ.wrapC
      split
      · rw [if_neg (fun z => h1 z.1)]
      · rfl
    rw [e]
    exact stay (cAnd_f hlen)
section
variable {hands : List Int} {looks : PySem.Str} {m k dots : Nat} (c : RY.Dt hands (lt looks) m k dots) (S : List D)
include c
theorem vu_ok (u : Nat) : RowOk (RY.vu hands (lt looks) m k dots u) := RY.rows_str (lt_ok c) _ (RY.vrow_eq c.m0).2
noncomputable def strV (hands : List Int) (L : List Nat) (m k dots : Nat) : List Tri := RZ.tag (RY.vu hands L m k dots) (RZ.strL (RY.vu hands L m k dots) (RY.btm hands dots))
omit c in
theorem ins_len (V : Nat → List (Nat × Int)) (n : Nat) : (RZ.ins V n).length ≤ n := by
  unfold RZ.ins
  exact Nat.le_trans (List.length_filter_le _ _) (by rw [List.length_range]; exact Nat.le_refl _)
theorem stretches_eq : m_stretches [clkD hands looks (m : Int), .int (dots : Int)] S = some (.lst ((strV hands (lt looks) m k dots).map triD), S) := by
  unfold m_stretches
  rw [g_stretches_is]
  refine run_rt (ρ := [.val (clkD hands looks (m : Int)), .val (.int (dots : Int)), .non, .non, .non, .non]) rfl ?_
  refine (seq_nx (setO_s (d := .lst (([] : List Tri).map triD)) (S' := S) rfl (by exact (by decide : 2 < 6)))).trans ?_
  have hlen : ((RY.edgS hands dots).zip (RY.edgS hands dots).tail).length ≤ 10000 := by
    have := RY.edg_len c
    rw [List.length_zip]
    omega
  have ec : (((RY.edgS hands dots).zip (RY.edgS hands dots).tail).map (cellD hands (lt looks) m k dots)) = ((((RY.edgS hands dots).zip (RY.edgS hands dots).tail).map fun p => (p.1, p.2, RY.vu hands (lt looks) m k dots p.1)).map triD) := by
    rw [List.map_map]
    rfl
  have hcs : ∀ t ∈ (((RY.edgS hands dots).zip (RY.edgS hands dots).tail).map fun p => (p.1, p.2, RY.vu hands (lt looks) m k dots p.1)), RowOk t.2.2 ∧ t.1 < t.2.1 := fun t ht => by
    obtain ⟨p, hp, rfl⟩ := List.mem_map.mp ht
    exact ⟨vu_ok c _, (RY.zip_lt (RY.edgS_lt hands dots) p hp).1⟩
  obtain ⟨s3, s4, s5, e⟩ := st_loop (.val (clkD hands looks (m : Int))) (.val (.int (dots : Int))) S (((RY.edgS hands dots).zip (RY.edgS hands dots).tail).map fun p => (p.1, p.2, RY.vu hands (lt looks) m k dots p.1)) [] .non .non .non (fun t h => nomatch h) hcs (by rw [List.length_map, List.length_nil]; omega)
  refine (seq_nx (for_s (ds := (((RY.edgS hands dots).zip (RY.edgS hands dots).tail).map (cellD hands (lt looks) m k dots))) (S' := S) (iany_s (call_s (ds := [clkD hands looks (m : Int), .int (dots : Int)]) (S' := S) rfl rfl (cells_eq c S)) rfl) (by rw [ec]; exact e))).trans ?_
  have hfold := RY.stretches_of c
  rw [hfold]
  have hw := RZ.wrap_eq (RY.vu hands (lt looks) m k dots) (RY.btm hands dots) c.b0
  have hok : ∀ t ∈ RZ.tag (RY.vu hands (lt looks) m k dots) (RZ.prs (RZ.ins (RY.vu hands (lt looks) m k dots) (RY.btm hands dots)) (RY.btm hands dots)), RowOk t.2.2 := fun t ht => by
    obtain ⟨p, _, rfl⟩ := List.mem_map.mp ht
    exact vu_ok c _
  have hln : ∀ (cs acc : List Tri), (cs.foldl RZ.stepC acc).length ≤ acc.length + cs.length := fun cs => by
    induction cs with
    | nil => intro acc; simp
    | cons x cs ih =>
      intro acc
      rw [List.foldl_cons, List.length_cons]
      have h1 := ih (RZ.stepC acc x)
      have h2 : (RZ.stepC acc x).length ≤ acc.length + 1 := by
        unfold RZ.stepC
        split
        · split
          · rw [List.length_append, List.length_dropLast]; simp
          · rw [List.length_append]; exact Nat.le_refl _
        · simp
      omega
  have hl := hln (((RY.edgS hands dots).zip (RY.edgS hands dots).tail).map fun p => (p.1, p.2, RY.vu hands (lt looks) m k dots p.1)) []
  rw [hfold, List.length_map, List.length_nil] at hl
  refine (st_wrap _ _ _ _ _ S _ hok (by omega)).trans ?_
  rw [hw]
  rfl
end
def kD (r : List (Nat × Int)) : D := .tup (r.map RY.rwE)
def prD (p : Nat × Nat) : D := .tup [nD p.1, nD p.2]
def vD (ps : List (Nat × Nat)) : D := .lst (ps.map prD)
def dG (G : List (List (Nat × Int) × List (Nat × Nat))) : List (D × D) := G.map fun g => (kD g.1, vD g.2)
theorem keyD_rwE {p q : Nat × Int} (h : keyD (RY.rwE p) = keyD (RY.rwE q)) : p = q := by
  unfold RY.rwE at h
  simp only [keyD, keyL, PySem.NestedKey.tup.injEq, List.cons.injEq, PySem.NestedKey.text.injEq, PySem.NestedKey.num.injEq, and_true] at h
  exact Prod.ext (sg1_inj h.1) h.2
theorem keyL_rw : ∀ (a b : List (Nat × Int)), keyL (a.map RY.rwE) = keyL (b.map RY.rwE) → a = b
  | [], [], _ => rfl
  | [], _ :: _, h => by simp [keyL] at h
  | _ :: _, [], h => by simp [keyL] at h
  | p :: a, q :: b, h => by
    simp only [List.map_cons, keyL, List.cons.injEq] at h
    rw [keyD_rwE h.1, keyL_rw a b h.2]
theorem keyD_kD (a b : List (Nat × Int)) : keyD (kD a) = keyD (kD b) ↔ a = b := by
  refine ⟨fun h => ?_, fun h => by rw [h]⟩
  unfold kD at h
  simp only [keyD, PySem.NestedKey.tup.injEq] at h
  exact keyL_rw a b h
theorem kyD_kD (r : List (Nat × Int)) : (isTupD (kD r) && kyD 7 (kD r)) = true := by
  unfold kD
  show (true && kyL 6 (r.map RY.rwE)) = true
  rw [Bool.true_and]
  induction r with
  | nil => simp [kyL]
  | cons p r ih => simp only [List.map_cons, kyL, ih, Bool.and_true]; simp [RY.rwE, kyD, kyL]
theorem val_dG (G : List (List (Nat × Int) × List (Nat × Nat))) (r : List (Nat × Int)) : valD (dG G) (kD r) = (G.find? fun g => decide (g.1 = r)).map fun g => vD g.2 := by
  unfold valD dG
  induction G with
  | nil => rfl
  | cons g G ih =>
    rw [List.map_cons, List.find?_cons, List.find?_cons]
    by_cases h : g.1 = r
    · rw [decide_eq_true h, decide_eq_true ((keyD_kD g.1 r).mpr h)]; rfl
    · rw [decide_eq_false h, decide_eq_false (fun z => h ((keyD_kD g.1 r).mp z))]; exact ih
theorem has_dG (G : List (List (Nat × Int) × List (Nat × Nat))) (r : List (Nat × Int)) : hasD (dG G) (kD r) = G.any fun g => decide (g.1 = r) := by
  unfold hasD dG
  rw [List.any_map]
  congr 1
  funext g
  exact decide_eq_decide.mpr (keyD_kD g.1 r)
section
variable (V : Nat → List (Nat × Int))
theorem st_dG (l : List (Nat × Nat)) (p : Nat × Nat) : stD (dG (RZ.gat V l)) (kD (V p.1)) (vD (RZ.sel V l p.1 ++ [p])) = dG (RZ.gat V (l ++ [p])) := by
  rw [RZ.gat_snoc]
  unfold stD
  rw [has_dG]
  by_cases h : ((RZ.gat V l).any fun g => decide (g.1 = V p.1)) = true
  · rw [if_pos h, if_pos h]
    unfold dG
    rw [List.map_map, List.map_map]
    refine List.map_congr_left fun g _ => ?_
    show (if keyD (kD g.1) = keyD (kD (V p.1)) then (kD g.1, vD (RZ.sel V l p.1 ++ [p])) else (kD g.1, vD g.2)) = (kD (if g.1 = V p.1 then (g.1, RZ.sel V l p.1 ++ [p]) else g).1, vD (if g.1 = V p.1 then (g.1, RZ.sel V l p.1 ++ [p]) else g).2)
    by_cases e : g.1 = V p.1
    · rw [if_pos e, if_pos ((keyD_kD g.1 _).mpr e)]
    · rw [if_neg e, if_neg (fun z => e ((keyD_kD g.1 _).mp z))]
  · rw [if_neg h, if_neg h]
    unfold dG
    rw [List.map_append]
    rfl
theorem get_dG (l : List (Nat × Nat)) (x : Nat) : (valD (dG (RZ.gat V l)) (kD (V x))).getD (.lst []) = vD (RZ.sel V l x) := by
  rw [val_dG]
  have h := RZ.gat_find V l x
  cases q : (RZ.gat V l).find? fun g => decide (g.1 = V x) with
  | none => rw [q] at h; rw [← h]; rfl
  | some g => rw [q] at h; rw [← h]; rfl
def vsBody : Sv := (sDPut 2 (eLst (aS (eDGet (eB 2) (eUn dTup (eB 5)) (eLst aN)) (aC (eTup (aC (eV 3) (aC (eV 4) aN))) aN))) (eUn dTup (eB 5)))
theorem g_views_of_is : g_views_of = (sSeq (sSetO 2 eDct0) (sSeq (sFor (.tup [(.nm 3), (.nm 4), (.nm 5)]) (iAny (eCall 2 m_stretches (aC (eV 0) (aC (eV 1) aN)))) vsBody) (sRetO 2))) := rfl
theorem vs_loop (s0 s1 : Slot) (S : List D) : ∀ (l pre : List (Nat × Nat)) (s3 s4 s5 : Slot), pre.length + l.length ≤ 1000000 →
    ∃ s3' s4' s5', forL (.tup [(.nm 3), (.nm 4), (.nm 5)]) vsBody ((RZ.tag V l).map triD) [s0, s1, .own (.dct (dG (RZ.gat V pre))), s3, s4, s5] S = some (.nx [s0, s1, .own (.dct (dG (RZ.gat V (pre ++ l)))), s3', s4', s5'] S)
  | [], pre, s3, s4, s5, _ => ⟨s3, s4, s5, by rw [List.append_nil]; rfl⟩
  | p :: l, pre, s3, s4, s5, hl => by
    rw [List.length_cons] at hl
    obtain ⟨a3, a4, a5, q⟩ := vs_loop s0 s1 S l (pre ++ [p]) (.val (nD p.1)) (.val (nD p.2)) (.val (RY.rowD (V p.1))) (by rw [List.length_append, List.length_singleton]; omega)
    refine ⟨a3, a4, a5, ?_⟩
    have eb : binds (.tup [(.nm 3), (.nm 4), (.nm 5)]) (triD (p.1, p.2, V p.1)) = some [(3, nD p.1), (4, nD p.2), (5, RY.rowD (V p.1))] := rfl
    have et : (RZ.tag V (p :: l)).map triD = triD (p.1, p.2, V p.1) :: (RZ.tag V l).map triD := rfl
    rw [et, ev_forC, eb, Option.bind_some]
    have ep : putD [s0, s1, .own (.dct (dG (RZ.gat V pre))), s3, s4, s5] [(3, nD p.1), (4, nD p.2), (5, RY.rowD (V p.1))] = [s0, s1, .own (.dct (dG (RZ.gat V pre))), .val (nD p.1), .val (nD p.2), .val (RY.rowD (V p.1))] := rfl
    rw [ep]
    have hsel : (RZ.sel V pre p.1).length ≤ pre.length := List.length_filter_le _ _
    have hgat : (dG (RZ.gat V pre)).length < 16777216 := by
      unfold dG RZ.gat
      rw [List.length_map, List.length_map]
      have h0 : ∀ (l : List (Nat × Nat)) (R : List Nat), (l.foldl (RZ.rep1 V) R).length ≤ R.length + l.length := fun l => by
        induction l with
        | nil => intro R; simp
        | cons x l ih =>
          intro R
          rw [List.foldl_cons, List.length_cons]
          have h1 := ih (RZ.rep1 V R x)
          have h2 : (RZ.rep1 V R x).length ≤ R.length + 1 := by
            unfold RZ.rep1
            split
            · omega
            · rw [List.length_append]; exact Nat.le_refl _
          omega
      have := h0 pre []
      unfold RZ.reps
      rw [List.length_nil] at this
      omega
    have step : vsBody [s0, s1, .own (.dct (dG (RZ.gat V pre))), .val (nD p.1), .val (nD p.2), .val (RY.rowD (V p.1))] S = some (.nx [s0, s1, .own (.dct (dG (RZ.gat V (pre ++ [p])))), .val (nD p.1), .val (nD p.2), .val (RY.rowD (V p.1))] S) := by
      have ek : eUn dTup (eB 5) [s0, s1, .own (.dct (dG (RZ.gat V pre))), .val (nD p.1), .val (nD p.2), .val (RY.rowD (V p.1))] S = some (kD (V p.1), S) := rfl
      have eg : eDGet (eB 2) (eUn dTup (eB 5)) (eLst aN) [s0, s1, .own (.dct (dG (RZ.gat V pre))), .val (nD p.1), .val (nD p.2), .val (RY.rowD (V p.1))] S = some (vD (RZ.sel V pre p.1), S) := by
        unfold eDGet
        have b1 : eB 2 [s0, s1, .own (.dct (dG (RZ.gat V pre))), .val (nD p.1), .val (nD p.2), .val (RY.rowD (V p.1))] S = some (.dct (dG (RZ.gat V pre)), S) := rfl
        have b2 : eLst aN [s0, s1, .own (.dct (dG (RZ.gat V pre))), .val (nD p.1), .val (nD p.2), .val (RY.rowD (V p.1))] S = some (.lst [], S) := rfl
        rw [b1, Option.bind_some, ek, Option.bind_some, b2, Option.bind_some]
        show (if (isTupD (kD (V p.1)) && kyD 7 (kD (V p.1))) = true then some ((valD (dG (RZ.gat V pre)) (kD (V p.1))).getD (.lst []), S) else none) = _
        rw [if_pos (kyD_kD _), get_dG]
      have ev : eLst (aS (eDGet (eB 2) (eUn dTup (eB 5)) (eLst aN)) (aC (eTup (aC (eV 3) (aC (eV 4) aN))) aN)) [s0, s1, .own (.dct (dG (RZ.gat V pre))), .val (nD p.1), .val (nD p.2), .val (RY.rowD (V p.1))] S = some (vD (RZ.sel V pre p.1 ++ [p]), S) := by
        refine lst_s (ds := (RZ.sel V pre p.1 ++ [p]).map prD) ?_ (by rw [List.length_map, List.length_append, List.length_singleton]; omega)
        rw [ev_aS, eg, Option.bind_some]
        unfold vD
        dsimp only
        have et : eTup (aC (eV 3) (aC (eV 4) aN)) [s0, s1, .own (.dct (dG (RZ.gat V pre))), .val (nD p.1), .val (nD p.2), .val (RY.rowD (V p.1))] S = some (prD p, S) := rfl
        rw [Option.bind_some, aC_s (S' := S) et rfl, Option.bind_some, List.map_append]
        rfl
      unfold vsBody sDPut
      rw [ev, Option.bind_some, ek, Option.bind_some]
      show (if (isTupD (kD (V p.1)) && kyD 7 (kD (V p.1)) && decide ((dG (RZ.gat V pre)).length < 16777216)) = true then some (Out.nx _ S) else none) = _
      rw [if_pos (by rw [kyD_kD, decide_eq_true hgat]; rfl), st_dG]
      rfl
    rw [step, Option.bind_some]
    rw [List.append_assoc] at q
    exact q
end
section
variable {hands : List Int} {looks : PySem.Str} {m k dots : Nat} (c : RY.Dt hands (lt looks) m k dots) (S : List D)
include c
theorem str_len : (RZ.strL (RY.vu hands (lt looks) m k dots) (RY.btm hands dots)).length ≤ 10000 := by
  have hw := congrArg List.length (RZ.wrap_eq (RY.vu hands (lt looks) m k dots) (RY.btm hands dots) c.b0)
  rw [← RY.stretches_of c] at hw
  have hln : ∀ (cs acc : List Tri), (cs.foldl RZ.stepC acc).length ≤ acc.length + cs.length := fun cs => by
    induction cs with
    | nil => intro acc; simp
    | cons x cs ih =>
      intro acc
      rw [List.foldl_cons, List.length_cons]
      have h1 := ih (RZ.stepC acc x)
      have h2 : (RZ.stepC acc x).length ≤ acc.length + 1 := by
        unfold RZ.stepC
        split
        · split
          · rw [List.length_append, List.length_dropLast]; simp
          · rw [List.length_append]; exact Nat.le_refl _
        · simp
      omega
  have hl := hln (((RY.edgS hands dots).zip (RY.edgS hands dots).tail).map fun p => (p.1, p.2, RY.vu hands (lt looks) m k dots p.1)) []
  have := RY.edg_len c
  rw [List.length_map, List.length_nil, List.length_zip] at hl
  have wl : ∀ l : List Tri, (RZ.wrapC l).length ≤ l.length := fun l => by
    unfold RZ.wrapC
    split
    · split
      · rename_i h
        rw [List.length_append, List.length_dropLast, List.length_tail]
        simp only [List.length_singleton]
        omega
      · exact Nat.le_refl _
    · exact Nat.le_refl _
  have h3 := wl ((((RY.edgS hands dots).zip (RY.edgS hands dots).tail).map fun p => (p.1, p.2, RY.vu hands (lt looks) m k dots p.1)).foldl RZ.stepC [])
  rw [hw] at h3
  unfold RZ.tag at h3
  rw [List.length_map] at h3
  omega
theorem views_of_eq : m_views_of [clkD hands looks (m : Int), .int (dots : Int)] S = some (.dct (dG (RZ.gat (RY.vu hands (lt looks) m k dots) (RZ.strL (RY.vu hands (lt looks) m k dots) (RY.btm hands dots)))), S) := by
  unfold m_views_of
  rw [g_views_of_is]
  refine run_rt (ρ := [.val (clkD hands looks (m : Int)), .val (.int (dots : Int)), .non, .non, .non, .non]) rfl ?_
  refine (seq_nx (setO_s (d := .dct (dG (RZ.gat (RY.vu hands (lt looks) m k dots) []))) (S' := S) rfl (by exact (by decide : 2 < 6)))).trans ?_
  have hl := str_len c
  obtain ⟨s3, s4, s5, e⟩ := vs_loop (RY.vu hands (lt looks) m k dots) (.val (clkD hands looks (m : Int))) (.val (.int (dots : Int))) S (RZ.strL (RY.vu hands (lt looks) m k dots) (RY.btm hands dots)) [] .non .non .non (by rw [List.length_nil]; omega)
  refine (seq_nx (for_s (ds := (strV hands (lt looks) m k dots).map triD) (S' := S) (iany_s (call_s (ds := [clkD hands looks (m : Int), .int (dots : Int)]) (S' := S) rfl rfl (stretches_eq c S)) rfl) e)).trans ?_
  rfl
theorem count_views_eq : m_count_views [clkD hands looks (m : Int), .int (dots : Int)] S = some (nD (RZ.reps (RY.vu hands (lt looks) m k dots) (RZ.strL (RY.vu hands (lt looks) m k dots) (RY.btm hands dots))).length, S) := by
  unfold m_count_views g_count_views
  refine run_rt (ρ := [.val (clkD hands looks (m : Int)), .val (.int (dots : Int))]) rfl ?_
  refine ret_s (un_s (S' := S) (call_s (ds := [clkD hands looks (m : Int), .int (dots : Int)]) (S' := S) rfl rfl (views_of_eq c S)) ?_)
  show some (D.int ((dG _).length : Int)) = _
  unfold dG RZ.gat
  rw [List.length_map, List.length_map]
  rfl
theorem count_stretches_eq : m_count_stretches [clkD hands looks (m : Int), .int (dots : Int)] S = some (nD (RZ.strL (RY.vu hands (lt looks) m k dots) (RY.btm hands dots)).length, S) := by
  unfold m_count_stretches g_count_stretches
  refine run_rt (ρ := [.val (clkD hands looks (m : Int)), .val (.int (dots : Int))]) rfl ?_
  refine ret_s (un_s (S' := S) (call_s (ds := [clkD hands looks (m : Int), .int (dots : Int)]) (S' := S) rfl rfl (stretches_eq c S)) ?_)
  show some (D.int ((List.map triD _).length : Int)) = _
  unfold strV RZ.tag
  rw [List.length_map, List.length_map]
  rfl
end
theorem last_cell : ∀ {l : List Nat} {a u : Nat}, (a :: l).Pairwise (· < ·) → a ≤ u → u < l.getLastD a → ∃ pre p, ((a :: l).zip l).filter (fun p => decide (p.1 ≤ u)) = pre ++ [p] ∧ p ∈ (a :: l).zip l ∧ p.1 ≤ u ∧ u < p.2
  | [], a, u, _, h1, h2 => by
    have : u < a := h2
    omega
  | b :: l, a, u, hp, h1, h2 => by
    rw [List.pairwise_cons] at hp
    have e : (b :: l).getLastD a = l.getLastD b := by cases l <;> rfl
    rw [e] at h2
    rw [List.zip_cons_cons, List.filter_cons_of_pos (by simpa using h1)]
    by_cases h : u < b
    · refine ⟨[], (a, b), ?_, List.mem_cons_self, h1, h⟩
      have : ((b :: l).zip l).filter (fun p => decide (p.1 ≤ u)) = [] := by
        rw [List.filter_eq_nil_iff]
        intro p hm z
        have z := of_decide_eq_true z
        rcases List.mem_cons.mp (List.of_mem_zip hm).1 with y | y
        · omega
        · have := (List.pairwise_cons.mp hp.2).1 _ y; omega
      rw [this]
      rfl
    · obtain ⟨pre, p, q1, q2, q3, q4⟩ := last_cell hp.2 (by omega) h2
      refine ⟨(a, b) :: pre, p, ?_, List.mem_cons_of_mem _ q2, q3, q4⟩
      rw [q1]
      rfl
def lenD (t b : Int) : D := if t = b then .tup [.int 1, .int 1] else dR (fr ((t : Rat) / (b : Rat)))
theorem len_eq (t b : Int) (h0 : 0 < b) (h1 : b.natAbs < 2 ^ 60) (S : List D) : m_length_of [.int t, .int b] S = some (lenD t b, S) := by
  unfold m_length_of g_length_of
  refine run_rt (ρ := [.val (.int t), .val (.int b)]) rfl ?_
  refine ret_s ?_
  have hc : cV (eBin dEq (eB 0) (eB 1)) [.val (.int t), .val (.int b)] S = some (decide (t = b), S) := cV_s (bin_s (d := .int t) (S' := S) (d2 := .int b) (S2 := S) rfl rfl (dv_eqI _ _))
  unfold lenD
  by_cases e : t = b
  · rw [decide_eq_true e] at hc
    rw [if_pos e]
    exact (eif_t hc).trans rfl
  · rw [decide_eq_false e] at hc
    rw [if_neg e]
    exact (eif_f hc).trans (call_s (ds := [.int t, .int b]) (S' := S) rfl rfl (m_part_eq t b S h0 (wd h1)))
def mxL (l : List (Nat × Nat)) : Nat := (l.map (·.2)).foldl max 0
theorem mxL_ge {l : List (Nat × Nat)} : (∀ p ∈ l, p.2 ≤ mxL l) := fun p hp => by
  have h : ∀ (xs : List Nat) (x : Nat), x ≤ xs.foldl max x ∧ ∀ y ∈ xs, y ≤ xs.foldl max x := fun xs => by
    induction xs with
    | nil => intro x; exact ⟨Nat.le_refl _, fun _ h => nomatch h⟩
    | cons z xs ih =>
      intro x
      obtain ⟨h1, h2⟩ := ih (max x z)
      rw [List.foldl_cons]
      refine ⟨Nat.le_trans (Nat.le_max_left _ _) h1, fun y hy => ?_⟩
      rcases List.mem_cons.mp hy with rfl | hy
      · exact Nat.le_trans (Nat.le_max_right _ _) h1
      · exact h2 y hy
  exact (h _ 0).2 _ (List.mem_map.mpr ⟨p, hp, rfl⟩)
theorem mxL_mem {l : List (Nat × Nat)} (hn : l ≠ []) : ∃ p ∈ l, p.2 = mxL l := by
  have h : ∀ (xs : List Nat) (x : Nat), xs.foldl max x = x ∨ xs.foldl max x ∈ xs := fun xs => by
    induction xs with
    | nil => intro x; exact .inl rfl
    | cons z xs ih =>
      intro x
      rw [List.foldl_cons]
      rcases ih (max x z) with q | q
      · rw [q]
        by_cases e : x ≤ z
        · rw [Nat.max_eq_right e]; exact .inr List.mem_cons_self
        · rw [Nat.max_eq_left (by omega)]; exact .inl rfl
      · exact .inr (List.mem_cons_of_mem _ q)
  rcases h (l.map (·.2)) 0 with q | q
  · obtain ⟨p, hp⟩ := List.exists_mem_of_ne_nil l hn
    have := mxL_ge p hp
    refine ⟨p, hp, ?_⟩
    unfold mxL at *
    omega
  · obtain ⟨p, hp, e⟩ := List.mem_map.mp q
    exact ⟨p, hp, e⟩
theorem max_eq {l : List (Nat × Nat)} (hn : l ≠ []) : dMaxS (.lst (l.map fun p => nD p.2)) = some (nD (mxL l)) := by
  have e : (l.map fun p => nD p.2) = (l.map fun p => (p.2 : Int)).map D.int := by rw [List.map_map]; rfl
  rw [e]
  show ((intsD ((l.map fun p => (p.2 : Int)).map D.int)).bind fun is => (maxI is).map D.int) = _
  rw [intsD_map, Option.bind_some]
  obtain ⟨p, hp, hx⟩ := mxL_mem hn
  cases h : maxI (l.map fun p => (p.2 : Int)) with
  | none =>
    cases l with
    | nil => exact absurd rfl hn
    | cons x l => cases h
  | some m =>
    have := maxI_uniq h (k := (mxL l : Int)) (List.mem_map.mpr ⟨p, hp, by rw [hx]⟩) (fun y hy => by
      obtain ⟨q, hq, rfl⟩ := List.mem_map.mp hy
      have := mxL_ge q hq
      omega)
    rw [← this]
    rfl
section
variable {hands : List Int} {looks : PySem.Str} {m k dots : Nat} (c : RY.Dt hands (lt looks) m k dots) (S : List D)
include c
theorem longest_eq : m_longest_stretch [clkD hands looks (m : Int), .int (dots : Int)] S = some (lenD (mxL (RZ.strL (RY.vu hands (lt looks) m k dots) (RY.btm hands dots))) (RY.btm hands dots), S) := by
  unfold m_longest_stretch g_longest_stretch
  refine run_rt (ρ := [.val (clkD hands looks (m : Int)), .val (.int (dots : Int)), .non, .non, .non]) rfl ?_
  have hl := str_len c
  have e29 : (2 : Nat) ^ 29 = 536870912 := rfl
  have e60 : (2 : Nat) ^ 60 = 1152921504606846976 := rfl
  have b29 := c.b29
  have b0 := c.b0
  refine ret_s (call_s (ds := [nD (mxL (RZ.strL (RY.vu hands (lt looks) m k dots) (RY.btm hands dots))), .int (RY.btm hands dots : Int)]) (S' := S) (aC_s (S' := S) ?_ (aC_s (S' := S) (call_s (ds := [clkD hands looks (m : Int), .int (dots : Int)]) (S' := S) rfl rfl (common_eq c S)) rfl)) rfl (len_eq _ _ (by omega) (by omega) S))
  refine un_s (S' := S) (comp_s (ds := (strV hands (lt looks) m k dots).map triD) (S' := S) (iany_s (call_s (ds := [clkD hands looks (m : Int), .int (dots : Int)]) (S' := S) rfl rfl (stretches_eq c S)) rfl) (by unfold strV RZ.tag; rw [List.length_map, List.length_map]; omega) ?_) (max_eq (RZ.strL_ne c.b0))
  unfold strV RZ.tag
  rw [List.map_map]
  refine compL_map (triD ∘ fun p : Nat × Nat => (p.1, p.2, RY.vu hands (lt looks) m k dots p.1)) (fun p : Nat × Nat => nD p.2) _ fun p _ => ⟨[(2, nD p.1), (3, nD p.2), (4, RY.rowD (RY.vu hands (lt looks) m k dots p.1))], rfl, rfl⟩
def toldD (B : Nat) (p : Nat × Nat) : D := .tup [dR (fr (((p.1 : Int) : Rat) / ((B : Int) : Rat))), lenD p.2 B]
end
def usIn : Ev := (eUn dSum (eComp (.tup [(.nm 6), (.nm 7)]) (iAny (eV 5)) cYes (eV 7) [6, 7]))
def usBody : Sv := (sIf (cV (eBin dGt (eUn dLen (eB 5)) (eC (.int 1)))) (sAug 3 usIn) sNil)
def shG (g : List (Nat × Int) × List (Nat × Nat)) : Nat := if 1 < g.2.length then (g.2.map (·.2)).sum else 0
theorem sum_cast : ∀ l : List Nat, (l.map fun (n : Nat) => (n : Int)).sum = ((l.sum : Nat) : Int)
  | [] => rfl
  | x :: l => by
    rw [List.map_cons, List.sum_cons, List.sum_cons, sum_cast l]
    omega
theorem us_loop (s0 s1 s2 : Slot) (S : List D) : ∀ (G : List (List (Nat × Int) × List (Nat × Nat))) (n : Nat) (s4 s5 s6 s7 : Slot), (∀ g ∈ G, g.2.length ≤ 1000000) →
    ∃ s4' s5' s6' s7', forL (.tup [(.nm 4), (.nm 5)]) usBody (G.map fun g => D.tup [kD g.1, vD g.2]) [s0, s1, s2, .val (nD n), s4, s5, s6, s7] S = some (.nx [s0, s1, s2, .val (nD (n + (G.map shG).sum)), s4', s5', s6', s7'] S)
  | [], n, s4, s5, s6, s7, _ => ⟨s4, s5, s6, s7, rfl⟩
  | g :: G, n, s4, s5, s6, s7, h => by
    obtain ⟨a4, a5, a6, a7, q⟩ := us_loop s0 s1 s2 S G (n + shG g) (.val (kD g.1)) (.val (vD g.2)) s6 s7 fun x hx => h x (List.mem_cons_of_mem _ hx)
    refine ⟨a4, a5, a6, a7, ?_⟩
    have hg := h g List.mem_cons_self
    have eb : binds (.tup [(.nm 4), (.nm 5)]) (D.tup [kD g.1, vD g.2]) = some [(4, kD g.1), (5, vD g.2)] := rfl
    rw [List.map_cons, ev_forC, eb, Option.bind_some]
    have ep : putD [s0, s1, s2, .val (nD n), s4, s5, s6, s7] [(4, kD g.1), (5, vD g.2)] = [s0, s1, s2, .val (nD n), .val (kD g.1), .val (vD g.2), s6, s7] := rfl
    rw [ep]
    have ht : (cV (eBin dGt (eUn dLen (eB 5)) (eC (.int 1)))) [s0, s1, s2, .val (nD n), .val (kD g.1), .val (vD g.2), s6, s7] S = some (decide (1 < g.2.length), S) := by
      refine cV_s (bin_s (d := .int ((g.2.map prD).length : Int)) (S' := S) (d2 := .int 1) (S2 := S) (un_s (d := vD g.2) (S' := S) rfl rfl) rfl ?_)
      rw [dv_gt, List.length_map]
      congr 2
      exact decide_eq_decide.mpr (by omega)
    have step : usBody [s0, s1, s2, .val (nD n), .val (kD g.1), .val (vD g.2), s6, s7] S = some (.nx [s0, s1, s2, .val (nD (n + shG g)), .val (kD g.1), .val (vD g.2), s6, s7] S) := by
      unfold usBody shG
      by_cases e : 1 < g.2.length
      · rw [decide_eq_true e] at ht
        rw [if_pos e]
        refine (if_t ht).trans ?_
        have ev : usIn [s0, s1, s2, .val (nD n), .val (kD g.1), .val (vD g.2), s6, s7] S = some (.int (((g.2.map (·.2)).sum : Nat) : Int), S) := by
          unfold usIn
          refine un_s (d := .lst (((g.2.map (·.2)).map fun (n : Nat) => (n : Int)).map .int)) (S' := S) (comp_s (ds := g.2.map prD) (S' := S) rfl (by rw [List.length_map]; omega) ?_) ?_
          · rw [List.map_map, List.map_map]
            exact compL_map prD (fun p : Nat × Nat => nD p.2) _ fun p _ => ⟨[(6, nD p.1), (7, nD p.2)], rfl, rfl⟩
          · show ((intsD _).map fun is => D.int is.sum) = _
            rw [intsD_map, Option.map_some, sum_cast]
        have ha := aug_s (f := usIn) (i := 3) (n := (n : Int)) (ρ := [s0, s1, s2, .val (nD n), .val (kD g.1), .val (vD g.2), s6, s7]) (S := S) rfl ev
        rw [ha]
        show some (Out.nx [s0, s1, s2, .val (.int ((n : Int) + (((g.2.map (·.2)).sum : Nat) : Int))), .val (kD g.1), .val (vD g.2), s6, s7] S) = _
        rw [← Int.natCast_add]
        rfl
      · rw [decide_eq_false e] at ht
        rw [if_neg e]
        exact (if_f ht).trans rfl
    rw [step, Option.bind_some]
    rw [Nat.add_assoc] at q
    exact q
section
variable {hands : List Int} {looks : PySem.Str} {m k dots : Nat} (c : RY.Dt hands (lt looks) m k dots) (S : List D)
include c
end
theorem looks_lt : ∀ n ∈ [2, 3, 4], ∀ s ∈ looksOf n, s.cps.toList.length = n ∧ (s.cps.toList.all fun c => decide (c ∈ [97, 98, 99, 100])) = true := by decide +kernel
theorem GoodClk.dt {hands : List Int} {looks : PySem.Str} {marks most : Int} (g : GoodClk hands looks marks most) (hm : most ≤ 60) {k : Nat} (k0 : 0 < k) (k6 : k ≤ 6) : RY.Dt hands (lt looks) marks.toNat k (marks.toNat * k) ∧ ((marks.toNat : Nat) : Int) = marks := by
  have hl := g.len
  have hn : hands.length ∈ [2, 3, 4] := by simp only [List.mem_cons, List.not_mem_nil, or_false]; omega
  obtain ⟨f1, f2⟩ := looks_lt _ hn looks g.looks
  have hk := g.marks
  have h4 : marks.toNat ≤ 4 := by omega
  refine ⟨⟨by omega, hl.2, g.nz, fun h hh => ?_, f1, fun c hc => of_decide_eq_true (List.all_eq_true.mp f2 c hc), by omega, by omega, k0, rfl, Nat.le_trans (Nat.mul_le_mul h4 k6) (by decide)⟩, by omega⟩
  have := g.bd h hh
  omega
def Sm (q : Rat) : Prop := q.num.natAbs < 2 ^ 60 ∧ q.den < 2 ^ 60
theorem fr_bd (t b : Int) (h0 : 0 < b) : ((fr ((t : Rat) / (b : Rat))).num.natAbs : Int) ≤ b ∧ ((fr ((t : Rat) / (b : Rat))).den : Int) ≤ b := by
  have h := part_q t b h0
  unfold dR at h
  injection h with h
  injection h with h1 h2
  injection h2 with h2 _
  injection h1 with h1
  injection h2 with h2
  have r0 := Int.emod_nonneg t (Int.ne_of_gt h0)
  have r1 := Int.emod_lt_of_pos t h0
  have a1 : t % b / (Int.gcd (t % b) b : Int) ≤ t % b := Int.ediv_le_self _ r0
  have a2 : 0 ≤ t % b / (Int.gcd (t % b) b : Int) := Int.ediv_nonneg r0 (by omega)
  have a3 : b / (Int.gcd (t % b) b : Int) ≤ b := Int.ediv_le_self _ (Int.le_of_lt h0)
  refine ⟨?_, ?_⟩
  · rw [← h1]; omega
  · omega
theorem fr_sm (t b : Int) (h0 : 0 < b) (h1 : b < 2 ^ 60) : Sm (fr ((t : Rat) / (b : Rat))) := by
  have e60 : (2 : Int) ^ 60 = 1152921504606846976 := rfl
  have e60' : (2 : Nat) ^ 60 = 1152921504606846976 := rfl
  obtain ⟨a, b⟩ := fr_bd t b h0
  exact ⟨by omega, by omega⟩
def fB (B t : Nat) : Rat := ((t : Int) : Rat) / ((B : Int) : Rat)
theorem fB_lt {B s t : Nat} (h : 0 < B) : fB B s < fB B t ↔ s < t := by
  unfold fB
  have hB : (0 : Rat) < ((B : Int) : Rat) := by rw [Rat.intCast_pos]; omega
  rw [Rat.div_lt_iff hB, Rat.div_mul_cancel (fun z => by rw [z] at hB; exact absurd hB (by decide)), Rat.intCast_lt_intCast]
  omega
theorem fB_zero (B : Nat) : fB B 0 = 0 := by
  unfold fB
  have : (((0 : Nat) : Int) : Rat) = 0 := rfl
  rw [this, Rat.div_def, Rat.zero_mul]
theorem fB_one {B : Nat} (h : 0 < B) : fB B B = 1 := by
  unfold fB
  have hB : (0 : Rat) < ((B : Int) : Rat) := by rw [Rat.intCast_pos]; omega
  have hne : ((B : Int) : Rat) ≠ 0 := fun z => by rw [z] at hB; exact absurd hB (by decide)
  rw [Rat.div_def, Rat.mul_inv_cancel _ hne]
theorem fB_fr {B t : Nat} (h : t < B) : fr (fB B t) = fB B t := by
  refine fr_self ?_ ?_
  · rcases Nat.eq_zero_or_pos t with z | z
    · rw [z, fB_zero]; exact Rat.le_refl
    · rw [← fB_zero B]; exact Rat.le_of_lt ((fB_lt (by omega)).mpr z)
  · rw [← fB_one (B := B) (by omega)]; exact (fB_lt (by omega)).mpr h
theorem fB_sm {B t : Nat} (h : t ≤ B) (h0 : 0 < B) (h1 : B < 2 ^ 59) : Sm (fB B t) := by
  have e59 : (2 : Nat) ^ 59 = 576460752303423488 := rfl
  have e60 : (2 : Int) ^ 60 = 1152921504606846976 := rfl
  rcases Nat.lt_or_ge t B with q | q
  · rw [← fB_fr q]
    exact fr_sm _ _ (by omega) (by omega)
  · have : t = B := by omega
    rw [this, fB_one h0]
    exact ⟨by decide, by decide⟩
theorem fB_bd {B t : Nat} (h : t ≤ B) (h0 : 0 < B) : (fB B t).num.natAbs ≤ B ∧ (fB B t).den ≤ B := by
  rcases Nat.lt_or_ge t B with q | q
  · rw [← fB_fr q]
    obtain ⟨a, b⟩ := fr_bd (t : Int) (B : Int) (by omega)
    have a : ((fr (fB B t)).num.natAbs : Int) ≤ (B : Int) := a
    have b : ((fr (fB B t)).den : Int) ≤ (B : Int) := b
    exact ⟨by omega, by omega⟩
  · have : t = B := by omega
    rw [this, fB_one h0]
    exact ⟨h0, h0⟩
theorem lenD_eq {B t : Nat} (h : t ≤ B) (h0 : 0 < B) : lenD (t : Int) (B : Int) = dR (fB B t) := by
  unfold lenD
  by_cases e : t = B
  · rw [if_pos (by rw [e]), e, fB_one h0]
    rfl
  · rw [if_neg (by omega)]
    exact congrArg dR (fB_fr (by omega))
theorem toldD_eq {B : Nat} {p : Nat × Nat} (h1 : p.1 < B) (h2 : p.2 ≤ B) : toldD B p = .tup [dR (fB B p.1), dR (fB B p.2)] := by
  unfold toldD
  rw [lenD_eq h2 (by omega)]
  have : fr (((p.1 : Int) : Rat) / ((B : Int) : Rat)) = fB B p.1 := fB_fr h1
  rw [this]
theorem time_u {q : Rat} (h0 : 0 ≤ q) (h1 : q < 1) : ∃ x y : Nat, x < y ∧ y = q.den ∧ dR q = .tup [.int (x : Int), .int (y : Int)] ∧ q = ((x : Int) : Rat) / ((y : Int) : Rat) := by
  have hn := Rat.num_nonneg.mpr h0
  have h2 := Rat.lt_iff q 1 |>.mp h1
  have e1 : (1 : Rat).den = 1 := rfl
  have e2 : (1 : Rat).num = 1 := rfl
  rw [e1, e2] at h2
  have e3 : ((q.num.toNat : Nat) : Int) = q.num := Int.toNat_of_nonneg hn
  refine ⟨q.num.toNat, q.den, by omega, rfl, ?_, ?_⟩
  · unfold dR
    rw [e3]
  · rw [e3, Rat.intCast_natCast]
    exact (num_div_den q).symm
theorem fB_time {x y B : Nat} (hy : 0 < y) (hB : 0 < B) : fB B (x * B / y) ≤ ((x : Int) : Rat) / ((y : Int) : Rat) ∧ ((x : Int) : Rat) / ((y : Int) : Rat) < fB B (x * B / y + 1) := by
  have y0 : (0 : Rat) < ((y : Int) : Rat) := by rw [Rat.intCast_pos]; omega
  have b0 : (0 : Rat) < ((B : Int) : Rat) := by rw [Rat.intCast_pos]; omega
  have h1 : x * B / y * y ≤ x * B := Nat.div_mul_le_self _ _
  have h2 : x * B < (x * B / y + 1) * y := by
    have h3 := Nat.mod_add_div (x * B) y
    have h4 := Nat.mod_lt (x * B) hy
    have h5 : y * (x * B / y) = x * B / y * y := Nat.mul_comm _ _
    rw [Nat.add_mul, Nat.one_mul]
    omega
  unfold fB
  generalize x * B / y = u at *
  have yne : ((y : Int) : Rat) ≠ 0 := fun z => by rw [z] at y0; exact absurd y0 (by decide)
  have hq : ((x : Int) : Rat) / ((y : Int) : Rat) * ((y : Int) : Rat) = ((x : Int) : Rat) := Rat.div_mul_cancel yne
  generalize ((x : Int) : Rat) / ((y : Int) : Rat) = q at *
  have e : q * ((B : Int) : Rat) * ((y : Int) : Rat) = (((x : Int) * (B : Int) : Int) : Rat) := by
    rw [Rat.intCast_mul, ← hq]
    grind
  constructor
  · rw [← Rat.not_lt, Rat.lt_div_iff b0]
    intro z
    have z := Rat.mul_lt_mul_of_pos_right z y0
    rw [e, ← Rat.intCast_mul, Rat.intCast_lt_intCast] at z
    have : (u : Int) * (y : Int) ≤ (x : Int) * (B : Int) := by exact_mod_cast h1
    omega
  · rw [Rat.lt_div_iff b0]
    refine Classical.byContradiction fun z => ?_
    have z := Rat.mul_le_mul_of_nonneg_right (Rat.not_lt.mp z) (Rat.le_of_lt y0)
    rw [e, ← Rat.intCast_mul, Rat.intCast_le_intCast] at z
    have : (x : Int) * (B : Int) < ((u + 1 : Nat) : Int) * (y : Int) := by exact_mod_cast h2
    omega
theorem sub_frac (q r : Rat) : ((q.num * (r.den : Int) - r.num * (q.den : Int) : Int) : Rat) / (((q.den : Int) * (r.den : Int) : Int) : Rat) = q - r := by
  have hq : (q.den : Rat) ≠ 0 := fun z => q.den_nz (by exact_mod_cast z)
  have hr : (r.den : Rat) ≠ 0 := fun z => r.den_nz (by exact_mod_cast z)
  have e1 := num_div_den q
  have e2 := num_div_den r
  have e3 : q * (q.den : Rat) = (q.num : Rat) := by
    have := Rat.div_mul_cancel (a := (q.num : Rat)) hq
    rw [e1] at this
    exact this
  have e4 : r * (r.den : Rat) = (r.num : Rat) := by
    have := Rat.div_mul_cancel (a := (r.num : Rat)) hr
    rw [e2] at this
    exact this
  rw [Rat.intCast_sub, Rat.intCast_mul, Rat.intCast_mul, Rat.intCast_mul, Rat.intCast_natCast, Rat.intCast_natCast, ← e3, ← e4]
  generalize (q.den : Rat) = b at *
  generalize (r.den : Rat) = d at *
  have hz : b * d ≠ 0 := fun z => by
    rcases Rat.mul_eq_zero.mp z with z | z
    · exact hq z
    · exact hr z
  have h := Rat.mul_inv_cancel _ hz
  rw [Rat.div_def]
  generalize (b * d)⁻¹ = i at *
  grind
theorem law_run2 {N : Nat} {body tail : Sv} {n : Int} (hw : inWord n = true) (ns : List Int)
    (hb : ∀ (j : Nat) (t : Tape) (ρ : List Slot), (j : Int) < n → ρ.length = N → ∃ x ρ' t', ρ'.length = N ∧ body (.val (.scr ns) :: .val (.obj 0) :: .val (.int j) :: ρ) (tp t) = some (.nx (.val (.scr ns) :: .val (.obj 0) :: x :: ρ') (tp t')))
    (ht : ∀ (x : Slot) (t : Tape) (ρ : List Slot), ρ.length = N → tail (.val (.scr ns) :: .val (.obj 0) :: x :: ρ) (tp t) = some (.rt (.bl true) (tp t))) :
    runB false (N + 3) (sCell 1 (eLst (aC (eUnF lOf (eB 0)) (aC (eC (.int 0)) (aC (eC (.int 0)) aN)))) (sSeq (sFor (.nm 2) (iRange1 (aC (eC (.int n)) aN)) body) tail)) [.scr ns] [] = some (.bl true, []) := by
  refine run_rt (ρ := .val (.scr ns) :: .non :: .non :: List.replicate N .non) rfl ?_
  have q := forL_inv (p := .nm 2) (g := body) (fun _ ρ S => ∃ x ρ0 t, ρ0.length = N ∧ ρ = .val (.scr ns) :: .val (.obj 0) :: x :: ρ0 ∧ S = tp t) (rangeD 0 n) (.val (.scr ns) :: .val (.obj 0) :: .non :: List.replicate N .non) (tp ⟨ns, 0, 0⟩) ⟨_, _, _, List.length_replicate, rfl, rfl⟩ (fun pre d ρ S hx hN H => by
    obtain ⟨x, ρ0, t, hl, rfl, rfl⟩ := H
    obtain ⟨k, hk, rfl⟩ := List.mem_map.mp hx
    have hk := List.mem_range.mp hk
    have hk2 : (k : Int) < n := by omega
    obtain ⟨x', ρ', t', hl', e⟩ := hb k t ρ0 hk2 hl
    have ez : (0 : Int) + (k : Int) = (k : Int) := Int.zero_add _
    have e' : body (.val (.scr ns) :: .val (.obj 0) :: .val (.int (0 + (k : Int))) :: ρ0) (tp t) = some (.nx (.val (.scr ns) :: .val (.obj 0) :: x' :: ρ') (tp t')) := by rw [ez]; exact e
    exact ⟨_, _, _, ev_bnm _ _, e', _, _, _, hl', rfl, rfl⟩)
  obtain ⟨ρ', S', e, x, ρ0, t, hl, rfl, rfl⟩ := q
  have z : sSeq (sFor (.nm 2) (iRange1 (aC (eC (.int n)) aN)) body) tail (.val (.scr ns) :: .val (.obj 0) :: .non :: List.replicate N .non) (tp ⟨ns, 0, 0⟩) = some (.rt (.bl true) (tp t)) := by
    refine (seq_nx (for_s (range1_s (k := n) (S' := tp ⟨ns, 0, 0⟩) rfl hw) e)).trans ?_
    exact ht x t ρ0 hl
  unfold sCell
  have w : (eLst (aC (eUnF lOf (eB 0)) (aC (eC (.int 0)) (aC (eC (.int 0)) aN)))) (.val (.scr ns) :: .non :: .non :: List.replicate N .non) [] = some (.lst [.lst (ns.map .int), .int 0, .int 0], []) := by rfl
  simp only [w, Option.bind_some]
  have z' : sSeq (sFor (.nm 2) (iRange1 (aC (eC (.int n)) aN)) body) tail ((Slot.val (.scr ns) :: .non :: .non :: List.replicate N .non).set 1 (.val (.obj 0))) [.lst [.lst (ns.map .int), .int 0, .int 0]] = some (.rt (.bl true) (tp t)) := z
  rw [z']
  rfl
end K
namespace K
open DL
open L2 (atI ixN)
def ldIn : Sv := (sSeq (sSet 9 (eCall 2 m_law_part (aC (eBin dMul (eB 8) (eB 2)) (aC (eV 3) aN)))) (sSeq (sSet 10 (eBin dDiv (eBin dMul (eIx (eB 9) (eC (.int 0))) (eB 1)) (eIx (eB 9) (eC (.int 1))))) (sApp 6 (eTup (aC (eV 7) (aC (eBin dMod (eUn dInt (eBin dAdd (eB 10) (eBin dDiv (eBin dMul (eB 5) (eB 1)) (eIx (eB 0) (eC (.int 2)))))) (eB 1)) aN))))))
def ldStep : Sv := (sSeq (sSetO 6 (eLst aN)) (sSeq (sFor (.tup [(.nm 7), (.nm 8)]) (iZip (aC (eIx (eB 0) (eC (.int 1))) (aC (eIx (eB 0) (eC (.int 0))) aN))) ldIn) (sApp 4 (eUn dStr (eUnF sortD (eB 6))))))
theorem g_law_dots_is : g_law_dots = (sSeq (sSetO 4 (eLst aN)) (sSeq (sFor (.nm 5) (iRange1 (aC (eIx (eB 0) (eC (.int 2))) aN)) ldStep) (sRet (eUn dMinD (eB 4))))) := rfl
section
variable {hands : List Int} {looks : PySem.Str} {m k dots : Nat} (c : RY.Dt hands (lt looks) m k dots) (S : List D)
include c
theorem ld_in {top B2 : Int} (t0 : top.natAbs ≤ 2 ^ 40) (b0 : 0 < B2) (b1 : B2 ≤ 2 ^ 40) (s : Nat) (hs : s < m) (s4 : Slot) : ∀ (ps : List (Nat × Int)) (pre : List (Nat × Int)) (s7 s8 s9 s10 : Slot), (∀ p ∈ ps, p.2 ∈ hands) → pre.length + ps.length ≤ 1000 →
    ∃ s7' s8' s9' s10', forL (.tup [(.nm 7), (.nm 8)]) ldIn (ps.map fun p => D.tup [.str ⟨#[p.1]⟩, .int p.2]) [.val (clkD hands looks (m : Int)), .val (.int (dots : Int)), .val (.int top), .val (.int B2), s4, .val (.int (s : Int)), .own (.lst (pre.map RY.rwE)), s7, s8, s9, s10] S =
      some (.nx [.val (clkD hands looks (m : Int)), .val (.int (dots : Int)), .val (.int top), .val (.int B2), s4, .val (.int (s : Int)), .own (.lst ((pre ++ ps.map fun p => (p.1, (RY.own1 dots B2 top p.2 + s * k) % dots)).map RY.rwE)), s7', s8', s9', s10'] S)
  | [], pre, s7, s8, s9, s10, _, _ => ⟨s7, s8, s9, s10, by rw [List.map_nil, List.map_nil, List.append_nil]; rfl⟩
  | p :: ps, pre, s7, s8, s9, s10, hm, hl => by
    rw [List.length_cons] at hl
    have e40 : (2 : Nat) ^ 40 = 1099511627776 := rfl
    have e40' : (2 : Int) ^ 40 = 1099511627776 := rfl
    have e60 : (2 : Nat) ^ 60 = 1152921504606846976 := rfl
    have hb := c.bd p.2 (hm p List.mem_cons_self)
    have d0 := c.d0
    have d24 := c.d24
    have m0 := c.m0
    have m6 := c.m6
    have bx : (p.2 * top).natAbs ≤ 60 * 1099511627776 := by rw [Int.natAbs_mul]; exact Nat.mul_le_mul hb (by omega)
    have hp := m_law_part_eq (p.2 * top) B2 S b0 (wd (by omega))
    rw [← part_q _ _ b0] at hp
    have hg0 : 0 < Int.gcd (p.2 * top % B2) B2 := Int.gcd_pos_of_ne_zero_right _ (Int.ne_of_gt b0)
    have hgle : (Int.gcd (p.2 * top % B2) B2 : Int) ∣ B2 := Int.gcd_dvd_right _ _
    have hden0 : 0 < B2 / (Int.gcd (p.2 * top % B2) B2 : Int) := Int.ediv_pos_of_pos_of_dvd b0 (by omega) hgle
    have hden1 : B2 / (Int.gcd (p.2 * top % B2) B2 : Int) ≤ B2 := Int.ediv_le_self _ (Int.le_of_lt b0)
    have r0 := Int.emod_nonneg (p.2 * top) (Int.ne_of_gt b0)
    have r1 := Int.emod_lt_of_pos (p.2 * top) b0
    have hn0 : 0 ≤ p.2 * top % B2 / (Int.gcd (p.2 * top % B2) B2 : Int) := Int.ediv_nonneg r0 (by omega)
    have hn1 : p.2 * top % B2 / (Int.gcd (p.2 * top % B2) B2 : Int) ≤ p.2 * top % B2 := Int.ediv_le_self _ r0
    have hown := RY.own_part (p.2 * top) (dots := (dots : Int)) (by omega) b0
    have hown : _ = RY.own1 dots B2 top p.2 := hown
    generalize p.2 * top % B2 / (Int.gcd (p.2 * top % B2) B2 : Int) = nn at *
    generalize B2 / (Int.gcd (p.2 * top % B2) B2 : Int) = dd at *
    obtain ⟨a7, a8, a9, a10, q⟩ := ld_in t0 b0 b1 s hs s4 ps (pre ++ [(p.1, (RY.own1 dots B2 top p.2 + s * k) % dots)]) (.val (.str ⟨#[p.1]⟩)) (.val (.int p.2)) (.val (.tup [.int nn, .int dd])) (.val (.int (RY.own1 dots B2 top p.2))) (fun x hx => hm x (List.mem_cons_of_mem _ hx)) (by rw [List.length_append, List.length_singleton]; omega)
    refine ⟨a7, a8, a9, a10, ?_⟩
    have eb : binds (.tup [(.nm 7), (.nm 8)]) (D.tup [.str ⟨#[p.1]⟩, .int p.2]) = some [(7, .str ⟨#[p.1]⟩), (8, .int p.2)] := rfl
    rw [List.map_cons, ev_forC, eb, Option.bind_some]
    have ep : putD [.val (clkD hands looks (m : Int)), .val (.int (dots : Int)), .val (.int top), .val (.int B2), s4, .val (.int (s : Int)), .own (.lst (pre.map RY.rwE)), s7, s8, s9, s10] [(7, .str ⟨#[p.1]⟩), (8, .int p.2)] = [.val (clkD hands looks (m : Int)), .val (.int (dots : Int)), .val (.int top), .val (.int B2), s4, .val (.int (s : Int)), .own (.lst (pre.map RY.rwE)), .val (.str ⟨#[p.1]⟩), .val (.int p.2), s9, s10] := rfl
    rw [ep]
    have step : ldIn [.val (clkD hands looks (m : Int)), .val (.int (dots : Int)), .val (.int top), .val (.int B2), s4, .val (.int (s : Int)), .own (.lst (pre.map RY.rwE)), .val (.str ⟨#[p.1]⟩), .val (.int p.2), s9, s10] S =
        some (.nx [.val (clkD hands looks (m : Int)), .val (.int (dots : Int)), .val (.int top), .val (.int B2), s4, .val (.int (s : Int)), .own (.lst ((pre ++ [(p.1, (RY.own1 dots B2 top p.2 + s * k) % dots)]).map RY.rwE)), .val (.str ⟨#[p.1]⟩), .val (.int p.2), .val (.tup [.int nn, .int dd]), .val (.int (RY.own1 dots B2 top p.2))] S) := by
      unfold ldIn
      refine (seq_nx (set_s (S' := S) (call_s (ds := [.int (p.2 * top), .int B2]) (S' := S) (aC_s (S' := S) (bin_s (d := .int p.2) (S' := S) (d2 := .int top) (S2 := S) rfl rfl (mulw (by omega) (by omega))) rfl) rfl hp))).trans ?_
      refine (seq_nx (set_s (d := .int (RY.own1 dots B2 top p.2)) (S' := S) (bin_s (d := .int (nn * dots)) (S' := S) (d2 := .int dd) (S2 := S) (bin_s (d := .int nn) (S' := S) (d2 := .int (dots : Int)) (S2 := S) rfl rfl (mulw (by omega) (by omega))) rfl ?_))).trans ?_
      · rw [divw (by omega) (by omega), hown]
      · refine (app_s (i := 6) (xs := pre.map RY.rwE) (S' := S) (d := RY.rwE (p.1, (RY.own1 dots B2 top p.2 + s * k) % dots)) ?_ rfl (by rw [List.length_map]; omega)).trans ?_
        · refine tup_s (aC_s (S' := S) rfl (aC_s (S' := S) (bin_s (d := .int (RY.own1 dots B2 top p.2 + (s : Int) * k)) (S' := S) (d2 := .int (dots : Int)) (un_s (d := .int (RY.own1 dots B2 top p.2 + (s : Int) * k)) (S' := S) (bin_s (d := .int (RY.own1 dots B2 top p.2)) (S' := S) (d2 := .int ((s : Int) * k)) rfl (bin_s (d := .int ((s : Int) * dots)) (S' := S) (d2 := .int (m : Int)) (bin_s (d := .int (s : Int)) (S' := S) (d2 := .int (dots : Int)) rfl rfl (mulw (by omega) (by omega))) rfl ?_) rfl) rfl) rfl (dv_mod _ _ (by omega))) rfl)) (by show 2 ≤ 16777216; decide)
          rw [divw (by omega) (by omega), stepk c]
        · rw [List.map_append]
          rfl
    rw [step, Option.bind_some]
    rw [List.append_assoc] at q
    exact q
theorem ld_row {top B2 : Int} (s : Nat) : ((lt looks).zip hands).map (fun p => (p.1, (RY.own1 dots B2 top p.2 + s * k) % dots)) = RY.row (lt looks) (RY.ownL hands dots B2 top) k dots s := by
  unfold RY.row RY.ownL
  rw [List.zip_map_right, List.map_map]
  rfl
theorem law_dots_eq {top B2 : Int} (t0 : top.natAbs ≤ 2 ^ 40) (b0 : 0 < B2) (b1 : B2 ≤ 2 ^ 40) : m_law_dots [clkD hands looks (m : Int), .int (dots : Int), .int top, .int B2] S = some (RY.viewT (lt looks) (RY.ownL hands dots B2 top) k dots m, S) := by
  unfold m_law_dots
  rw [g_law_dots_is]
  refine run_rt (ρ := [.val (clkD hands looks (m : Int)), .val (.int (dots : Int)), .val (.int top), .val (.int B2), .non, .non, .non, .non, .non, .non, .non]) rfl ?_
  have e60 : (2 : Int) ^ 60 = 1152921504606846976 := rfl
  have d0 := c.d0
  have d24 := c.d24
  have m6 := c.m6
  have hlk := c.lk
  have l4 := c.l4
  have hP := RY.rows_P (L := lt looks) (own := RY.ownL hands dots B2 top) (k := (k : Int)) (dots := (dots : Int)) (m := m) c.ab (by omega) (by omega)
  have hlen := RY.rows_len (L := lt looks) (own := RY.ownL hands dots B2 top) (k := (k : Int)) (dots := (dots : Int)) (m := m)
  refine (seq_nx (setO_s (d := .lst []) (S' := S) rfl (by exact (by decide : 4 < 11)))).trans ?_
  have all : ∀ j n s5 s6 s7 s8 s9 s10, n + j = m → ∃ s5' s6' s7' s8' s9' s10', forL (.nm 5) ldStep ((List.range' n j).map fun (s : Nat) => D.int (s : Int)) [.val (clkD hands looks (m : Int)), .val (.int (dots : Int)), .val (.int top), .val (.int B2), .own (.lst (((List.range n).map fun s => RY.srt (RY.row (lt looks) (RY.ownL hands dots B2 top) k dots s)).map fun r => .str (RY.txt r))), s5, s6, s7, s8, s9, s10] S =
      some (.nx [.val (clkD hands looks (m : Int)), .val (.int (dots : Int)), .val (.int top), .val (.int B2), .own (.lst ((RY.rows (lt looks) (RY.ownL hands dots B2 top) k dots m).map fun r => .str (RY.txt r))), s5', s6', s7', s8', s9', s10'] S) := by
    intro j
    induction j with
    | zero =>
      intro n s5 s6 s7 s8 s9 s10 h
      have : n = m := by omega
      subst this
      exact ⟨s5, s6, s7, s8, s9, s10, rfl⟩
    | succ j ih =>
      intro n s5 s6 s7 s8 s9 s10 h
      obtain ⟨a7, a8, a9, a10, e⟩ := ld_in c S t0 b0 b1 n (by omega) (.own (.lst (((List.range n).map fun s => RY.srt (RY.row (lt looks) (RY.ownL hands dots B2 top) k dots s)).map fun r => .str (RY.txt r)))) ((lt looks).zip hands) [] s7 s8 s9 s10 (fun p hp => (List.of_mem_zip hp).2) (by rw [List.length_nil, List.length_zip]; omega)
      obtain ⟨b5, b6, b7, b8, b9, b10, q⟩ := ih (n + 1) (.val (.int (n : Int))) (.own (.lst ((RY.row (lt looks) (RY.ownL hands dots B2 top) k dots n).map RY.rwE))) a7 a8 a9 a10 (by omega)
      refine ⟨b5, b6, b7, b8, b9, b10, ?_⟩
      rw [List.nil_append, ld_row c n] at e
      rw [List.range'_succ, List.map_cons, ev_forC, ev_bnm, Option.bind_some, ev_put1, ev_put0]
      simp only [List.set_cons_succ, List.set_cons_zero]
      have hrow : RY.srt (RY.row (lt looks) (RY.ownL hands dots B2 top) k dots n) ∈ RY.rows (lt looks) (RY.ownL hands dots B2 top) k dots m := List.mem_map.mpr ⟨n, List.mem_range.mpr (by omega), rfl⟩
      have hstr := (RY.str_row (l := RY.srt (RY.row (lt looks) (RY.ownL hands dots B2 top) k dots n)) (by have := hlen _ hrow; omega) (hP _ hrow)).1
      have hsort := RY.sort_row (l := RY.row (lt looks) (RY.ownL hands dots B2 top) k dots n) fun p hp => by
        obtain ⟨q, hq, rfl⟩ := List.mem_map.mp hp
        exact lt_ok c _ (List.of_mem_zip hq).1
      have step : ldStep [.val (clkD hands looks (m : Int)), .val (.int (dots : Int)), .val (.int top), .val (.int B2), .own (.lst (((List.range n).map fun s => RY.srt (RY.row (lt looks) (RY.ownL hands dots B2 top) k dots s)).map fun r => .str (RY.txt r))), .val (.int (n : Int)), s6, s7, s8, s9, s10] S =
          some (.nx [.val (clkD hands looks (m : Int)), .val (.int (dots : Int)), .val (.int top), .val (.int B2), .own (.lst (((List.range (n + 1)).map fun s => RY.srt (RY.row (lt looks) (RY.ownL hands dots B2 top) k dots s)).map fun r => .str (RY.txt r))), .val (.int (n : Int)), .own (.lst ((RY.row (lt looks) (RY.ownL hands dots B2 top) k dots n).map RY.rwE)), a7, a8, a9, a10] S) := by
        unfold ldStep
        refine (seq_nx (setO_s (d := .lst (([] : List (Nat × Int)).map RY.rwE)) (S' := S) rfl (by exact (by decide : 6 < 11)))).trans ?_
        refine (seq_nx (for_s (ds := ((lt looks).zip hands).map fun p => D.tup [.str ⟨#[p.1]⟩, .int p.2]) (S' := S) ?_ e)).trans ?_
        · have h1 : seqOf (.str looks) = some ((lt looks).map fun c => D.str ⟨#[c]⟩) := rfl
          have h2 : seqOf (.tup (hands.map .int)) = some (hands.map .int) := rfl
          have z1 : ixD S (clkD hands looks (m : Int)) (.int 1) = some (.str looks) := rfl
          have z0 : ixD S (clkD hands looks (m : Int)) (.int 0) = some (.tup (hands.map .int)) := rfl
          simp only [ev_C, ev_V, ev_B, ev_aN, ev_aC, ev_Tup, ev_Lst, ev_Bin, ev_Un, ev_UnF, ev_cV, ev_cAnd, ev_cOr, ev_cNot, ev_cYes, ev_And, ev_Or, ev_Not, ev_If, ev_Chain, ev_Call, ev_Ix, ev_Sl, ev_oN, ev_oE, ev_aS, ev_Comp, ev_iAny, ev_iRange1, ev_iRange2, ev_iZip, ev_iEnum, ev_sNil, ev_sSeq, ev_sIf, ev_sRet, ev_sRetO, ev_sRetN, ev_sAsg, ev_sSet, ev_sSetO, ev_sPar, ev_sFor, ev_sWhile, ev_sApp, ev_sIxO, ev_sIxC, ev_sFrz, ev_sExp, ev_sPass, ev_runB, ev_forN, ev_compN, ev_put0, ev_put1, ev_wipe0, ev_wipe1, ev_bnm, ev_btup, ev_bL0, ev_bL1, dv_add, dv_sub, dv_neg, dv_lt, dv_le, dv_gt, dv_ge, dv_int, dv_abs, dv_lenL, dv_lenT, dv_tupL, dv_tupT, dv_lofL, dv_lofT, dv_lofS, dv_seqL, dv_seqT, dv_ixL, dv_ixT, dv_ixO, atI_0, atI_1, atI_2, Option.bind_some, Option.bind_none, List.getElem?_cons_zero, List.getElem?_cons_succ, List.getElem?_nil, List.set_cons_zero, List.set_cons_succ, List.set_nil, List.length_cons, List.length_nil, List.map_cons, List.map_nil, List.replicate_succ, List.replicate_zero, List.cons_append, List.nil_append, Nat.reduceAdd, Nat.reduceSub, Nat.reduceLeDiff, Nat.zero_add, Nat.sub_zero, Nat.add_zero, if_true, if_false, Bool.false_eq_true, Nat.reduceEqDiff, Bool.not_true, Bool.not_false, decide_true, decide_false, ev_nat, z1, z0, h1, h2, zip_si]
        · refine (app_s (i := 4) (S' := S) (d := .str (RY.txt (RY.srt (RY.row (lt looks) (RY.ownL hands dots B2 top) k dots n)))) (un_s (S' := S) (unF_s (S' := S) rfl hsort) hstr) rfl (by rw [List.length_map, List.length_map, List.length_range]; omega)).trans ?_
          rw [List.range_succ, List.map_append, List.map_append]
          rfl
      rw [step, Option.bind_some]
      exact q
  obtain ⟨s5, s6, s7, s8, s9, s10, e⟩ := all m 0 .non .non .non .non .non .non (by omega)
  refine (seq_nx (for_s (ds := rangeD 0 (m : Int)) (S' := S) (range1_s (S' := S) rfl (inWord_len (by omega))) (by rw [rangeD_eq, List.range_eq_range']; exact e))).trans ?_
  refine ret_s (un_s (S' := S) rfl ?_)
  refine RY.dMinD_eq (by simpa using RY.rows_ne c.m0) (RY.minOk_of _ (fun r hr => ?_) (fun _ _ _ _ => by simp [py, PySem.W.alike]) (fun _ _ => rfl))
  show PySem.PyData.strOk (RY.txt r) = true
  exact RY.strOk_txt (hP r hr)
end
theorem wt_ex (hands : List Int) (L : List Nat) (m k dots u : Nat) : ∃ w : PySem.Str, RY.Dt hands L m k dots → RY.viewT L (RY.ownU hands dots u) k dots m = .str w ∧ PySem.PyData.strOk w = true := by
  by_cases c : RY.Dt hands L m k dots
  · have e60 : (2 : Int) ^ 60 = 1152921504606846976 := rfl
    have d0 := c.d0
    have d24 := c.d24
    have hP := RY.rows_P (L := L) (own := RY.ownU hands dots u) (k := (k : Int)) (dots := (dots : Int)) (m := m) c.ab (by omega) (by omega)
    obtain ⟨h, _⟩ := RY.minL_mem (l := (RY.rows L (RY.ownU hands dots u) k dots m).map fun r => D.str (RY.txt r)) (by simpa using RY.rows_ne c.m0)
    obtain ⟨r, hr, e⟩ := List.mem_map.mp h
    exact ⟨RY.txt r, fun _ => ⟨e.symm, RY.strOk_txt (hP r hr)⟩⟩
  · exact ⟨PySem.Str.empty, fun h => absurd h c⟩
noncomputable def wt (hands : List Int) (L : List Nat) (m k dots u : Nat) : PySem.Str := (wt_ex hands L m k dots u).choose
section
variable {hands : List Int} {looks : PySem.Str} {m k dots : Nat} (c : RY.Dt hands (lt looks) m k dots) (S : List D)
include c
theorem wt_eq (u : Nat) : RY.viewT (lt looks) (RY.ownU hands dots u) k dots m = .str (wt hands (lt looks) m k dots u) ∧ PySem.PyData.strOk (wt hands (lt looks) m k dots u) = true := (wt_ex hands (lt looks) m k dots u).choose_spec c
theorem wt_iff (i j : Nat) : wt hands (lt looks) m k dots i = wt hands (lt looks) m k dots j ↔ RY.vu hands (lt looks) m k dots i = RY.vu hands (lt looks) m k dots j := by
  have e60 : (2 : Int) ^ 60 = 1152921504606846976 := rfl
  have hd : (dots : Int) = (m : Int) * (k : Int) := by rw [c.dk, Int.natCast_mul]
  have d0 := c.d0
  have d24 := c.d24
  rw [RY.vu_iff c, ← RY.viewT_iff c.m0 hd c.ab (by omega) (by omega), (wt_eq c i).1, (wt_eq c j).1]
  exact ⟨fun h => by rw [h], fun h => by injection h⟩
theorem law_dots_u {u : Nat} (hu : u < RY.btm hands dots) : m_law_dots [clkD hands looks (m : Int), .int (dots : Int), .int (2 * (u : Int) + 1), .int (2 * (RY.btm hands dots : Int))] S = some (.str (wt hands (lt looks) m k dots u), S) := by
  have e40 : (2 : Nat) ^ 40 = 1099511627776 := rfl
  have e40' : (2 : Int) ^ 40 = 1099511627776 := rfl
  have e29 : (2 : Nat) ^ 29 = 536870912 := rfl
  have b29 := c.b29
  have b0 := c.b0
  have h := law_dots_eq c S (top := 2 * (u : Int) + 1) (B2 := 2 * (RY.btm hands dots : Int)) (by omega) (by omega) (by omega)
  rw [h]
  have := (wt_eq c u).1
  unfold RY.ownU at this
  rw [this]
end
abbrev TriT := Nat × Nat × PySem.Str
def triT (t : TriT) : D := .tup [nD t.1, nD t.2.1, .str t.2.2]
def lsV : Ev := (eComp (.nm 6) (iRange1 (aC (eV 2) aN)) cYes (eCall 4 m_law_dots (aC (eV 0) (aC (eV 1) (aC (eBin dAdd (eBin dMul (eC (.int 2)) (eB 6)) (eC (.int 1))) (aC (eBin dMul (eC (.int 2)) (eB 2)) aN))))) [6])
def lsC : Et := (cV (eBin dNe (eIx (eB 3) (eB 6)) (eIx (eB 3) (eBin dSub (eB 6) (eC (.int 1))))))
def lsB : Ev := (eComp (.nm 6) (iRange1 (aC (eV 2) aN)) lsC (eV 6) [6])
def lsE : Ev := (eComp (.tup [(.nm 7), (.nm 8)]) (iZip (aC (eV 4) (aC (eV 5) aN))) cYes (eTup (aC (eV 7) (aC (eBin dSub (eB 8) (eB 7)) (aC (eIx (eB 3) (eB 7)) aN)))) [7, 8])
def lsN : Ev := (eBin dAdd (eSl (eB 4) (oE (eC (.int 1))) oN) (eLst (aC (eBin dAdd (eIx (eB 4) (eC (.int 0))) (eB 2)) aN)))
def lsO : Ev := (eLst (aC (eTup (aC (eC (.int 0)) (aC (eV 2) (aC (eIx (eB 3) (eC (.int 0))) aN)))) aN))
theorem g_law_stretches_is : g_law_stretches = (sSeq (sSet 3 lsV) (sSeq (sSet 4 lsB) (sSeq (sIf (cV (eBin dEq (eB 4) (eLst aN))) (sRet lsO) sNil) (sSeq (sSet 5 lsN) (sRet lsE))))) := rfl
theorem dNe_str {x y : PySem.Str} (hx : PySem.PyData.strOk x = true) (hy : PySem.PyData.strOk y = true) : dNe (.str x) (.str y) = some (.bl (!decide (x = y))) := by
  unfold dNe
  rw [if_pos (by simp [okD, hx, hy])]
  simp only [eqD]
  congr 2
theorem dEq_str {x y : PySem.Str} (hx : PySem.PyData.strOk x = true) (hy : PySem.PyData.strOk y = true) : dEq (.str x) (.str y) = some (.bl (decide (x = y))) := by
  unfold dEq
  rw [if_pos (by simp [okD, hx, hy])]
  simp only [eqD]
  congr 2
theorem nil_eq (l : List Nat) : dEq (.lst (l.map nD)) (.lst []) = some (.bl (decide (l = []))) := by
  unfold dEq
  have ok : okD 60 (.lst (l.map nD)) = true := by
    show okL 59 (l.map nD) = true
    refine okL_of fun d hd => ?_
    obtain ⟨t, ht, rfl⟩ := List.mem_map.mp hd
    simp [nD, okD]
  rw [if_pos (by rw [ok]; rfl)]
  cases l with
  | nil => rfl
  | cons t l => simp [eqD, eqL]
section
variable {hands : List Int} {looks : PySem.Str} {m k dots : Nat} (c : RY.Dt hands (lt looks) m k dots) (S : List D)
include c
theorem ls_v (hB : RY.btm hands dots ≤ 1000000) (s3 s4 s5 s6 s7 s8 : Slot) : lsV [.val (clkD hands looks (m : Int)), .val (.int (dots : Int)), .val (.int (RY.btm hands dots : Int)), s3, s4, s5, s6, s7, s8] S = some (.lst ((List.range (RY.btm hands dots)).map fun u => D.str (wt hands (lt looks) m k dots u)), S) := by
  have e60 : (2 : Nat) ^ 60 = 1152921504606846976 := rfl
  unfold lsV
  refine comp_s (ds := rangeD 0 (RY.btm hands dots : Int)) (S' := S) (range1_s (S' := S) rfl (inWord_len (by omega))) (by rw [rangeD_eq, List.length_map, List.length_range]; omega) ?_
  rw [rangeD_eq]
  refine compL_map (fun (u : Nat) => D.int (u : Int)) _ _ fun u hu => ⟨_, ev_bnm _ _, ?_⟩
  have hu := List.mem_range.mp hu
  refine call_s (ds := [clkD hands looks (m : Int), .int (dots : Int), .int (2 * (u : Int) + 1), .int (2 * (RY.btm hands dots : Int))]) (S' := S) (aC_s (S' := S) rfl (aC_s (S' := S) rfl (aC_s (S' := S) (bin_s (d := .int (2 * (u : Int))) (S' := S) (d2 := .int 1) (S2 := S) (bin_s (d := .int 2) (S' := S) (d2 := .int (u : Int)) (S2 := S) rfl rfl (mulw (by omega) (by omega))) rfl rfl) (aC_s (S' := S) (bin_s (d := .int 2) (S' := S) (d2 := .int (RY.btm hands dots : Int)) (S2 := S) rfl rfl (mulw (by omega) (by omega))) rfl)))) rfl (law_dots_u c S hu)
omit c in
theorem at_views (W : Nat → PySem.Str) {B u : Nat} (hu : u < B) : atI ((List.range B).map fun u => D.str (W u)) (u : Int) = some (.str (W u)) := by
  rw [atI_nat, List.getElem?_map, List.getElem?_range hu]
  rfl
omit c in
theorem at_prev (W : Nat → PySem.Str) {B u : Nat} (hu : u < B) : atI ((List.range B).map fun u => D.str (W u)) ((u : Int) - 1) = some (.str (W (if u = 0 then B - 1 else u - 1))) := by
  by_cases h : u = 0
  · rw [if_pos h, h]
    obtain ⟨n, rfl⟩ : ∃ n, B = n + 1 := ⟨B - 1, by omega⟩
    rw [List.range_succ, List.map_append]
    exact L2.atI_last _ _
  · rw [if_neg h]
    have e : (u : Int) - 1 = ((u - 1 : Nat) : Int) := by omega
    rw [e]
    exact at_views W (by omega)
theorem ls_b (hB : RY.btm hands dots ≤ 1000000) (s4 s5 s6 s7 s8 : Slot) : lsB [.val (clkD hands looks (m : Int)), .val (.int (dots : Int)), .val (.int (RY.btm hands dots : Int)), .val (.lst ((List.range (RY.btm hands dots)).map fun u => D.str (wt hands (lt looks) m k dots u))), s4, s5, s6, s7, s8] S = some (.lst ((RZ.cyc (wt hands (lt looks) m k dots) (RY.btm hands dots)).map nD), S) := by
  unfold lsB RZ.cyc
  refine comp_s (ds := rangeD 0 (RY.btm hands dots : Int)) (S' := S) (range1_s (S' := S) rfl (inWord_len (by omega))) (by rw [rangeD_eq, List.length_map, List.length_range]; omega) ?_
  rw [rangeD_eq]
  refine compL_filter (fun (u : Nat) => D.int (u : Int)) nD _ _ fun u hu => ⟨_, ev_bnm _ _, ?_, fun _ => rfl⟩
  have hu := List.mem_range.mp hu
  unfold lsC
  have h := dNe_str (wt_eq c u).2 (wt_eq c (if u = 0 then RY.btm hands dots - 1 else u - 1)).2
  have e : (!decide (wt hands (lt looks) m k dots u = wt hands (lt looks) m k dots (if u = 0 then RY.btm hands dots - 1 else u - 1))) = decide (wt hands (lt looks) m k dots u ≠ wt hands (lt looks) m k dots (if u = 0 then RY.btm hands dots - 1 else u - 1)) := by
    rw [decide_not]
  rw [e] at h
  refine cV_s (bin_s (d := .str (wt hands (lt looks) m k dots u)) (S' := S) (d2 := .str (wt hands (lt looks) m k dots (if u = 0 then RY.btm hands dots - 1 else u - 1))) (S2 := S) (ix_s (S' := S) (d2 := .int (u : Int)) (S2 := S) rfl rfl (at_views _ hu)) (ix_s (S' := S) (d2 := .int ((u : Int) - 1)) (S2 := S) rfl rfl (at_prev _ hu)) h)
theorem law_stretches_eq (hB : RY.btm hands dots ≤ 1000000) : m_law_stretches [clkD hands looks (m : Int), .int (dots : Int), .int (RY.btm hands dots : Int)] S = some (.lst ((RZ.tag (wt hands (lt looks) m k dots) (RZ.strL (wt hands (lt looks) m k dots) (RY.btm hands dots))).map triT), S) := by
  unfold m_law_stretches
  rw [g_law_stretches_is]
  refine run_rt (ρ := [.val (clkD hands looks (m : Int)), .val (.int (dots : Int)), .val (.int (RY.btm hands dots : Int)), .non, .non, .non, .non, .non, .non]) rfl ?_
  have b0 := c.b0
  refine (seq_nx (set_s (ls_v c S hB _ _ _ _ _ _))).trans ?_
  refine (seq_nx (set_s (ls_b c S hB _ _ _ _ _))).trans ?_
  have hmem := fun k' => RZ.cyc_mem (V := wt hands (lt looks) m k dots) (n := RY.btm hands dots) (k := k')
  have hlen : (RZ.cyc (wt hands (lt looks) m k dots) (RY.btm hands dots)).length ≤ RY.btm hands dots := by
    unfold RZ.cyc
    exact Nat.le_trans (List.length_filter_le _ _) (by rw [List.length_range]; exact Nat.le_refl _)
  have hav := fun {u : Nat} (hu : u < RY.btm hands dots) => at_views (wt hands (lt looks) m k dots) hu
  unfold RZ.strL
  generalize wt hands (lt looks) m k dots = W at *
  generalize RY.btm hands dots = B at *
  generalize (List.range B).map (fun u => D.str (W u)) = vs at *
  have ht : (cV (eBin dEq (eB 4) (eLst aN))) [.val (clkD hands looks (m : Int)), .val (.int (dots : Int)), .val (.int (B : Int)), .val (.lst vs), .val (.lst ((RZ.cyc W B).map nD)), .non, .non, .non, .non] S = some (decide (RZ.cyc W B = []), S) := cV_s (bin_s (d := .lst ((RZ.cyc W B).map nD)) (S' := S) (d2 := .lst []) (S2 := S) rfl rfl (nil_eq _))
  cases hc : RZ.cyc W B with
  | nil =>
    rw [hc] at ht
    refine seq_rt ((if_t ht).trans (ret_s ?_))
    unfold lsO
    refine lst_s (ds := [triT (0, B, W 0)]) (aC_s (S' := S) (tup_s (aC_s (S' := S) rfl (aC_s (S' := S) rfl (aC_s (S' := S) (ix_s (S' := S) (d := .lst vs) rfl (d2 := .int ((0 : Nat) : Int)) (S2 := S) rfl (hav b0)) rfl))) (by show 3 ≤ 16777216; decide)) rfl) (by show 1 ≤ 16777216; decide)
  | cons b bs =>
    rw [hc] at ht hlen
    rw [List.length_cons] at hlen
    have hb : ∀ x ∈ b :: bs, x < B := fun x hx => ((hmem x).mp (by rw [hc]; exact hx)).1
    refine (seq_nx ((if_f ht).trans rfl)).trans ?_
    have en : lsN [.val (clkD hands looks (m : Int)), .val (.int (dots : Int)), .val (.int (B : Int)), .val (.lst vs), .val (.lst ((b :: bs).map nD)), .non, .non, .non, .non] S = some (.lst ((bs ++ [b + B]).map nD), S) := by
      unfold lsN
      refine bin_s (d := .lst (bs.map nD)) (S' := S) (d2 := .lst [nD (b + B)]) (S2 := S) ?_ ?_ ?_
      · have b1 : eB 4 [.val (clkD hands looks (m : Int)), .val (.int (dots : Int)), .val (.int (B : Int)), .val (.lst vs), .val (.lst ((b :: bs).map nD)), .non, .non, .non, .non] S = some (.lst ((b :: bs).map nD), S) := rfl
        have b2 : oE (eC (.int 1)) [.val (clkD hands looks (m : Int)), .val (.int (dots : Int)), .val (.int (B : Int)), .val (.lst vs), .val (.lst ((b :: bs).map nD)), .non, .non, .non, .non] S = some (some 1, S) := rfl
        rw [ev_Sl, b1, Option.bind_some, b2, Option.bind_some, ev_oN, Option.bind_some, sl_tail]
        rfl
      · refine lst_s (ds := [nD (b + B)]) (aC_s (S' := S) (bin_s (d := nD b) (S' := S) (d2 := nD B) (S2 := S) (ix_s (S' := S) (d := .lst ((b :: bs).map nD)) rfl (d2 := .int ((0 : Nat) : Int)) (S2 := S) rfl (atI_nat _ _)) rfl rfl) rfl) (by show 1 ≤ 16777216; decide)
      · rw [List.map_append]
        show (if (bs.map nD).length + [nD (b + B)].length ≤ 16777216 then some (D.lst (bs.map nD ++ [nD (b + B)])) else none) = _
        rw [if_pos (by rw [List.length_map]; simp only [List.length_cons, List.length_nil]; omega)]
        rfl
    refine (seq_nx (set_s en)).trans ?_
    refine ret_s ?_
    unfold lsE
    refine comp_s (ds := ((b :: bs).zip (bs ++ [b + B])).map fun p => D.tup [nD p.1, nD p.2]) (S' := S) ?_ ?_ ?_
    · have h2 : seqOf (.lst ((b :: bs).map nD)) = some ((b :: bs).map nD) := rfl
      have h3 : seqOf (.lst ((bs ++ [b + B]).map nD)) = some ((bs ++ [b + B]).map nD) := rfl
      have z := zip_nD (b :: bs) (bs ++ [b + B])
      rw [ev_iZip]
      have ea : (aC (eV 4) (aC (eV 5) aN)) (([.val (clkD hands looks (m : Int)), .val (.int (dots : Int)), .val (.int (B : Int)), .val (.lst vs), .val (.lst ((b :: bs).map nD)), .non, .non, .non, .non] : List Slot).set 5 (.val (.lst ((bs ++ [b + B]).map nD)))) S = some ([.lst ((b :: bs).map nD), .lst ((bs ++ [b + B]).map nD)], S) := rfl
      rw [ea, Option.bind_some]
      dsimp only
      rw [h2, Option.bind_some, h3, Option.bind_some, z]
    · rw [List.length_map, List.length_zip, List.length_cons, List.length_append]; omega
    · unfold RZ.tag
      rw [List.map_map, List.map_map]
      refine compL_map (fun p : Nat × Nat => D.tup [nD p.1, nD p.2]) _ _ fun p hp => ⟨[(7, nD p.1), (8, nD p.2)], rfl, ?_⟩
      have lt := RZ.cyc_lt (V := W) (n := B)
      rw [hc] at lt
      obtain ⟨q1, q2, _, _⟩ := RZ.ring_pairs (b := 0) lt (e := b + B) (fun x hx => by have := hb x hx; omega) p hp
      have e : ((p.2 : Int) - (p.1 : Int)) = ((p.2 - p.1 : Nat) : Int) := by omega
      refine tup_s (aC_s (S' := S) rfl (aC_s (S' := S) (d := nD (p.2 - p.1)) (bin_s (d := nD p.2) (S' := S) (d2 := nD p.1) (S2 := S) rfl rfl ?_) (aC_s (S' := S) (ix_s (S' := S) (d := .lst vs) rfl (d2 := .int (p.1 : Int)) (S2 := S) rfl (hav (hb _ q2))) rfl))) (by show 3 ≤ 16777216; decide)
      show some (D.int ((p.2 : Int) - (p.1 : Int))) = _
      rw [e]
      rfl
end
def dtBody : Sv := (sSet 3 (eBin dMul (eBin dDiv (eB 3) (eCall 2 m_law_gcd (aC (eV 3) (aC (eV 4) aN)))) (eUn dAbs (eB 4))))
def dtElse : Sv := (sPar3 1 2 3 (eTup (aC (eTup (aC (eC (.int 1)) (aC (eC (.int 3)) aN))) (aC (eC (.str "aa")) (aC (eC (.int 1)) aN)))) (eBin dAdd (eC (.int 1)) (eCall 2 m_law_draw (aC (eV 0) (aC (eC (.int 9)) aN)))) (eC (.int 3)))
def dtRet : Sv := (sRet (eTup (aC (eV 1) (aC (eV 2) (aC (eBin dMul (eB 3) (eB 2)) aN)))))
theorem g_law_dotted_is : g_law_dotted = (sSeq (sSet 1 (eCall 2 m_law_clock (aC (eV 0) (aC (eC (.int 6)) aN)))) (sSeq (sPar 2 3 (eBin dMul (eIx (eB 1) (eC (.int 2))) (eBin dAdd (eC (.int 1)) (eCall 2 m_law_draw (aC (eV 0) (aC (eC (.int 3)) aN))))) (eC (.int 1))) (sSeq (sFor (.nm 4) (iAny (eIx (eB 1) (eC (.int 0)))) dtBody) (sSeq (sIf (cV (eBin dGt (eBin dMul (eB 3) (eB 2)) (eC (.int 400)))) dtElse sNil) dtRet)))) := rfl
theorem dt_loop (s0 s1 s2 : Slot) (S : List D) : ∀ (hs : List Int) (l : Nat) (s4 : Slot), (∀ h ∈ hs, h.natAbs ≤ 60) → 0 < l → (∀ h ∈ hs, h ≠ 0) → (hs.map Int.natAbs).foldl Nat.lcm l ≤ 2 ^ 24 →
    ∃ s4', forL (.nm 4) dtBody (hs.map .int) [s0, s1, s2, .val (.int (l : Int)), s4] S = some (.nx [s0, s1, s2, .val (.int (((hs.map Int.natAbs).foldl Nat.lcm l : Nat) : Int)), s4'] S)
  | [], l, s4, _, _, _, _ => ⟨s4, rfl⟩
  | h :: hs, l, s4, hb, l0, hz, hl => by
    have d1 : Nat.lcm l h.natAbs ∣ (hs.map Int.natAbs).foldl Nat.lcm (Nat.lcm l h.natAbs) := lcm_pos_dvd _ _
    have p1 : 0 < (hs.map Int.natAbs).foldl Nat.lcm (Nat.lcm l h.natAbs) := by
      have : ∀ (xs : List Nat) (a : Nat), 0 < a → (∀ x ∈ xs, 0 < x) → 0 < xs.foldl Nat.lcm a := fun xs => by
        induction xs with
        | nil => intro a ha _; exact ha
        | cons x xs ih => intro a ha hx; exact ih _ (Nat.lcm_pos ha (hx x List.mem_cons_self)) fun y hy => hx y (List.mem_cons_of_mem _ hy)
      refine this _ _ (Nat.lcm_pos l0 (by have := hz h List.mem_cons_self; omega)) fun x hx => ?_
      obtain ⟨y, hy, rfl⟩ := List.mem_map.mp hx
      have := hz y (List.mem_cons_of_mem _ hy)
      omega
    have b1 : Nat.lcm l h.natAbs ≤ 2 ^ 24 := Nat.le_trans (Nat.le_of_dvd p1 d1) hl
    have lp : 0 < Nat.lcm l h.natAbs := Nat.lcm_pos l0 (by have := hz h List.mem_cons_self; omega)
    have b2 : l ≤ 2 ^ 24 := Nat.le_trans (Nat.le_of_dvd lp (Nat.dvd_lcm_left _ _)) b1
    obtain ⟨g0, g1⟩ := gcd_le (h := h) l0
    have hh := hb h List.mem_cons_self
    have e24 : (2 : Nat) ^ 24 = 16777216 := rfl
    have e60 : (2 : Nat) ^ 60 = 1152921504606846976 := rfl
    obtain ⟨s4', q⟩ := dt_loop s0 s1 s2 S hs (Nat.lcm l h.natAbs) (.val (.int h)) (fun x hx => hb x (List.mem_cons_of_mem _ hx)) lp (fun x hx => hz x (List.mem_cons_of_mem _ hx)) hl
    refine ⟨s4', ?_⟩
    rw [List.map_cons, ev_forC, ev_bnm, Option.bind_some, ev_put1, ev_put0]
    have dq : ((l : Int) / (Int.gcd (l : Int) h : Int)).natAbs ≤ l := by
      rw [← Int.natCast_ediv, Int.natAbs_natCast]
      exact Nat.div_le_self _ _
    have step : dtBody [s0, s1, s2, .val (.int (l : Int)), .val (.int h)] S = some (.nx [s0, s1, s2, .val (.int ((Nat.lcm l h.natAbs : Nat) : Int)), .val (.int h)] S) := by
      unfold dtBody
      refine set_s ?_
      refine bin_s (d := .int ((l : Int) / (Int.gcd (l : Int) h : Int))) (S' := S) (bin_s (d := .int (l : Int)) (S' := S) rfl (call_s (ds := [.int (l : Int), .int h]) (S' := S) rfl rfl (m_law_gcd_eq _ _ S)) (divw (by omega) (by omega))) (un_s (d := .int h) (S' := S) rfl (absw h)) ?_
      rw [mulw (by omega) (by omega), cb_mul]
    show ((dtBody [s0, s1, s2, .val (.int (l : Int)), .val (.int h)] S).bind _) = _
    rw [step]
    exact q
theorem dt_own {k : Nat} (k0 : 0 < k) (k9 : k ≤ 18) : RY.Dt [1, 3] (lt "aa") 1 k k := ⟨by decide, by decide, by decide, by decide, by decide +kernel, by decide +kernel, by decide, by decide, k0, by omega, by omega⟩
structure Dotd (hands : List Int) (looks : PySem.Str) (m k dots : Nat) : Prop where
  dt : RY.Dt hands (lt looks) m k dots
  d12 : dots ≤ 12
  b400 : RY.btm hands dots ≤ 400
  gd : (∃ marks, GoodClk hands looks marks 6 ∧ marks.toNat = m ∧ k ≤ 3) ∨ (hands = [1, 3] ∧ looks = "aa" ∧ m = 1)
theorem dotted_ex (t : Tape) : ∃ hands looks m k dots t', Dotd hands looks m k dots ∧ m_law_dotted [.obj 0] (tp t) = some (.tup [clkD hands looks ((m : Nat) : Int), .int (dots : Nat), .int (RY.btm hands dots : Nat)], tp t') := by
  have e24 : (2 : Nat) ^ 24 = 16777216 := rfl
  have e60 : (2 : Nat) ^ 60 = 1152921504606846976 := rfl
  obtain ⟨hands, looks, marks, t1, g, e1⟩ := clock_ex t 6 (by decide) (wide_sm (by decide))
  obtain ⟨r, t2, r0, r1, e2⟩ := drawE_ex t1 (ρ := [.val (.obj 0), .val (clkD hands looks marks), .non, .non, .non]) (i := 0) (k := eC (.int 3)) rfl rfl (by decide) (wide_sm (by decide))
  obtain ⟨k, rfl⟩ : ∃ k : Nat, r = (k : Int) := ⟨r.toNat, by omega⟩
  obtain ⟨c, hmk⟩ := g.dt (by decide) (k := 1 + k) (by omega) (by omega)
  have hdots : marks * (1 + (k : Int)) = ((marks.toNat * (1 + k) : Nat) : Int) := by
    rw [Int.natCast_mul, hmk]; rfl
  have hm4 : marks.toNat ≤ 4 := by have := g.marks; omega
  have hd12 : marks.toNat * (1 + k) ≤ 4 * 3 := Nat.mul_le_mul hm4 (by omega)
  generalize hmm : marks.toNat = m at c hmk hdots hm4 hd12
  generalize hd : m * (1 + k) = dots at c hdots hd12
  have hb := c.lcm_bd
  have head : ∀ R : Sv, g_law_dotted = (sSeq (sSet 1 (eCall 2 m_law_clock (aC (eV 0) (aC (eC (.int 6)) aN)))) (sSeq (sPar 2 3 (eBin dMul (eIx (eB 1) (eC (.int 2))) (eBin dAdd (eC (.int 1)) (eCall 2 m_law_draw (aC (eV 0) (aC (eC (.int 3)) aN))))) (eC (.int 1))) (sSeq (sFor (.nm 4) (iAny (eIx (eB 1) (eC (.int 0)))) dtBody) (sSeq (sIf (cV (eBin dGt (eBin dMul (eB 3) (eB 2)) (eC (.int 400)))) dtElse sNil) dtRet)))) := fun _ => g_law_dotted_is
  have f1 : sSet 1 (eCall 2 m_law_clock (aC (eV 0) (aC (eC (.int 6)) aN))) [.val (.obj 0), .non, .non, .non, .non] (tp t) = some (.nx [.val (.obj 0), .val (clkD hands looks marks), .non, .non, .non] (tp t1)) := set_s (call_s (ds := [.obj 0, .int 6]) (S' := tp t) rfl rfl e1)
  have f2 : sPar 2 3 (eBin dMul (eIx (eB 1) (eC (.int 2))) (eBin dAdd (eC (.int 1)) (eCall 2 m_law_draw (aC (eV 0) (aC (eC (.int 3)) aN))))) (eC (.int 1)) [.val (.obj 0), .val (clkD hands looks marks), .non, .non, .non] (tp t1) = some (.nx [.val (.obj 0), .val (clkD hands looks marks), .val (.int (dots : Int)), .val (.int ((1 : Nat) : Int)), .non] (tp t2)) := by
    unfold sPar
    have a1 : (eBin dMul (eIx (eB 1) (eC (.int 2))) (eBin dAdd (eC (.int 1)) (eCall 2 m_law_draw (aC (eV 0) (aC (eC (.int 3)) aN))))) [.val (.obj 0), .val (clkD hands looks marks), .non, .non, .non] (tp t1) = some (.int (dots : Int), tp t2) := by
      refine bin_s (d := .int marks) (S' := tp t1) (d2 := .int (1 + (k : Int))) (S2 := tp t2) rfl (bin_s (d := .int 1) (S' := tp t1) (d2 := .int (k : Int)) (S2 := tp t2) rfl e2 rfl) ?_
      rw [mulw (by omega) (by omega), hdots]
    rw [a1]
    rfl
  obtain ⟨s4, e3⟩ := dt_loop (.val (.obj 0)) (.val (clkD hands looks marks)) (.val (.int (dots : Int))) (tp t2) hands 1 .non c.bd Nat.one_pos c.nz hb.2
  have hlc : (hands.map Int.natAbs).foldl Nat.lcm 1 = RY.lcmH hands := rfl
  rw [hlc] at e3
  have f3 : sFor (.nm 4) (iAny (eIx (eB 1) (eC (.int 0)))) dtBody [.val (.obj 0), .val (clkD hands looks marks), .val (.int (dots : Int)), .val (.int ((1 : Nat) : Int)), .non] (tp t2) = some (.nx [.val (.obj 0), .val (clkD hands looks marks), .val (.int (dots : Int)), .val (.int (RY.lcmH hands : Int)), s4] (tp t2)) := for_s (ds := hands.map .int) (S' := tp t2) (iany_s (d := .tup (hands.map .int)) (S' := tp t2) rfl rfl) e3
  have hbt : (RY.lcmH hands : Int) * (dots : Int) = (RY.btm hands dots : Int) := by rw [← Int.natCast_mul]; rfl
  have ht : (cV (eBin dGt (eBin dMul (eB 3) (eB 2)) (eC (.int 400)))) [.val (.obj 0), .val (clkD hands looks marks), .val (.int (dots : Int)), .val (.int (RY.lcmH hands : Int)), s4] (tp t2) = some (decide (400 < RY.btm hands dots), tp t2) := by
    refine cV_s (bin_s (d := .int (RY.btm hands dots : Int)) (S' := tp t2) (d2 := .int 400) (S2 := tp t2) (bin_s (d := .int (RY.lcmH hands : Int)) (S' := tp t2) (d2 := .int (dots : Int)) (S2 := tp t2) rfl rfl (by rw [mulw (by omega) (by omega), hbt])) rfl ?_)
    rw [dv_gt]
    congr 2
    exact decide_eq_decide.mpr (by omega)
  by_cases z : 400 < RY.btm hands dots
  · rw [decide_eq_true z] at ht
    obtain ⟨r', t3, q0, q1, e4⟩ := drawE_ex t2 (ρ := [.val (.obj 0), .val (clkD hands looks marks), .val (.int (dots : Int)), .val (.int (RY.lcmH hands : Int)), s4]) (i := 0) (k := eC (.int 9)) rfl rfl (by decide) (wide_sm (by decide))
    obtain ⟨k', rfl⟩ : ∃ k' : Nat, r' = (k' : Int) := ⟨r'.toNat, by omega⟩
    have hl3 : RY.lcmH [1, 3] = 3 := by decide +kernel
    have hb3 : RY.btm [1, 3] (1 + k') = 3 * (1 + k') := by unfold RY.btm; rw [hl3]
    refine ⟨[1, 3], "aa", 1, 1 + k', 1 + k', t3, ⟨dt_own (by omega) (by omega), by omega, by rw [hb3]; omega, .inr ⟨rfl, rfl, rfl⟩⟩, ?_⟩
    unfold m_law_dotted
    rw [head sNil]
    refine run_rt (ρ := [.val (.obj 0), .non, .non, .non, .non]) rfl ?_
    refine (seq_nx f1).trans ((seq_nx f2).trans ((seq_nx f3).trans ?_))
    have f4 : dtElse [.val (.obj 0), .val (clkD hands looks marks), .val (.int (dots : Int)), .val (.int (RY.lcmH hands : Int)), s4] (tp t2) = some (.nx [.val (.obj 0), .val (clkD [1, 3] "aa" ((1 : Nat) : Int)), .val (.int ((1 + k' : Nat) : Int)), .val (.int 3), s4] (tp t3)) := by
      unfold dtElse sPar3
      have a1 : (eTup (aC (eTup (aC (eC (.int 1)) (aC (eC (.int 3)) aN))) (aC (eC (.str "aa")) (aC (eC (.int 1)) aN)))) [.val (.obj 0), .val (clkD hands looks marks), .val (.int (dots : Int)), .val (.int (RY.lcmH hands : Int)), s4] (tp t2) = some (clkD [1, 3] "aa" ((1 : Nat) : Int), tp t2) := rfl
      have a2 : (eBin dAdd (eC (.int 1)) (eCall 2 m_law_draw (aC (eV 0) (aC (eC (.int 9)) aN)))) [.val (.obj 0), .val (clkD hands looks marks), .val (.int (dots : Int)), .val (.int (RY.lcmH hands : Int)), s4] (tp t2) = some (.int ((1 + k' : Nat) : Int), tp t3) := by
        refine bin_s (d := .int 1) (S' := tp t2) (d2 := .int (k' : Int)) (S2 := tp t3) rfl e4 ?_
        have : ((1 + k' : Nat) : Int) = 1 + (k' : Int) := by omega
        rw [this]
        rfl
      rw [a1, Option.bind_some, a2]
      rfl
    refine (seq_nx ((if_t ht).trans f4)).trans ?_
    unfold dtRet
    refine ret_s (tup_s (aC_s (S' := tp t3) rfl (aC_s (S' := tp t3) rfl (aC_s (S' := tp t3) (bin_s (d := .int 3) (S' := tp t3) (d2 := .int ((1 + k' : Nat) : Int)) (S2 := tp t3) rfl rfl ?_) rfl))) (by show 3 ≤ 16777216; decide))
    rw [mulw (by omega) (by omega), hb3, Int.natCast_mul]
    rfl
  · rw [decide_eq_false z] at ht
    refine ⟨hands, looks, m, 1 + k, dots, t2, ⟨c, by omega, by omega, .inl ⟨marks, g, hmm, by omega⟩⟩, ?_⟩
    unfold m_law_dotted
    rw [head sNil]
    refine run_rt (ρ := [.val (.obj 0), .non, .non, .non, .non]) rfl ?_
    refine (seq_nx f1).trans ((seq_nx f2).trans ((seq_nx f3).trans ?_))
    refine (seq_nx ((if_f ht).trans rfl)).trans ?_
    unfold dtRet
    rw [hmk]
    refine ret_s (tup_s (aC_s (S' := tp t2) rfl (aC_s (S' := tp t2) rfl (aC_s (S' := tp t2) (bin_s (d := .int (RY.lcmH hands : Int)) (S' := tp t2) (d2 := .int (dots : Int)) (S2 := tp t2) rfl rfl ?_) rfl))) (by show 3 ≤ 16777216; decide))
    rw [mulw (by omega) (by omega), hbt]
end K
namespace K
open PySem PySem.Spec PyProof.Rows L2 DL
def g_view_at2 : Sv :=
  (sSeq (sAsg (.tup [(.nm 4), (.nm 5), (.nm 6)]) (eV 0)) (sSeq (sSet 7 (eComp (.nm 10) (iAny (eV 4)) cYes (eBin dMod (eBin dDiv (eBin dMul (eBin dMul (eB 10) (eB 2)) (eB 1)) (eB 3)) (eB 1)) [10])) (sSeq (sSetO 8 (eLst aN)) (sSeq (sFor (.nm 9) (iRange1 (aC (eV 6) aN)) (sApp 8 (eUnF sortD2 (eComp (.tup [(.nm 11), (.nm 12)]) (iZip (aC (eV 5) (aC (eV 7) aN))) cYes (eTup (aC (eV 11) (aC (eBin dMod (eBin dAdd (eB 12) (eBin dDiv (eBin dMul (eB 9) (eB 1)) (eB 6))) (eB 1)) aN))) [11, 12])))) (sRet (eUn dMinD (eB 8)))))))
def m_view_at2 : List D → List D → Option (D × List D) := runB false 13 g_view_at2
theorem view_at_2 : m_view_at = m_view_at2 := by
  unfold m_view_at m_view_at2 g_view_at g_view_at2
  rw [sortD_2]
def g_cells2 : Sv :=
  (sSeq (sSet 2 (eCall 2 m_common_bottom (aC (eV 0) (aC (eV 1) aN)))) (sSeq (sSetO 3 eKd0) (sSeq (sFor (.nm 4) (iAny (eIx (eB 0) (eC (.int 0)))) (sFor (.nm 5) (iRange1 (aC (eBin dAdd (eBin dMul (eB 1) (eUn dAbs (eB 4))) (eC (.int 1))) aN)) (sKPut 3 (eC (.bl true)) (eBin dDiv (eBin dMul (eB 5) (eB 2)) (eBin dMul (eB 1) (eUn dAbs (eB 4))))))) (sSeq (sSet 6 (eUnF sortKI2 (eB 3))) (sRet (eComp (.tup [(.nm 7), (.nm 8)]) (iZip (aC (eV 6) (aC (eSl (eB 6) (oE (eC (.int 1))) oN) aN))) cYes (eTup (aC (eV 7) (aC (eV 8) (aC (eCall 4 m_view_at2 (aC (eV 0) (aC (eV 1) (aC (eBin dAdd (eB 7) (eB 8)) (aC (eBin dMul (eC (.int 2)) (eB 2)) aN))))) aN)))) [7, 8]))))))
def m_cells2 : List D → List D → Option (D × List D) := runB false 9 g_cells2
theorem cells_2 : m_cells = m_cells2 := by
  unfold m_cells m_cells2 g_cells g_cells2
  rw [view_at_2, sortKI_2]
def g_stretches2 : Sv :=
  (sSeq (sSetO 2 (eLst aN)) (sSeq (sFor (.tup [(.nm 3), (.nm 4), (.nm 5)]) (iAny (eCall 2 m_cells2 (aC (eV 0) (aC (eV 1) aN)))) (sIf (cAnd (cV (eBin dNe (eB 2) (eLst aN))) (cV (eBin dEq (eIx (eIx (eB 2) (eUn dNeg (eC (.int 1)))) (eC (.int 2))) (eB 5)))) (sIxO 2 (eTup (aC (eIx (eIx (eB 2) (eUn dNeg (eC (.int 1)))) (eC (.int 0))) (aC (eBin dSub (eBin dAdd (eIx (eIx (eB 2) (eUn dNeg (eC (.int 1)))) (eC (.int 1))) (eB 4)) (eB 3)) (aC (eV 5) aN)))) (eUn dNeg (eC (.int 1)))) (sApp 2 (eTup (aC (eV 3) (aC (eBin dSub (eB 4) (eB 3)) (aC (eV 5) aN))))))) (sSeq (sIf (cAnd (cV (eBin dGt (eUn dLen (eB 2)) (eC (.int 1)))) (cV (eBin dEq (eIx (eIx (eB 2) (eC (.int 0))) (eC (.int 2))) (eIx (eIx (eB 2) (eUn dNeg (eC (.int 1)))) (eC (.int 2)))))) (sRet (eLst (aS (eSl (eB 2) (oE (eC (.int 1))) (oE (eUn dNeg (eC (.int 1))))) (aC (eTup (aC (eIx (eIx (eB 2) (eUn dNeg (eC (.int 1)))) (eC (.int 0))) (aC (eBin dAdd (eIx (eIx (eB 2) (eUn dNeg (eC (.int 1)))) (eC (.int 1))) (eIx (eIx (eB 2) (eC (.int 0))) (eC (.int 1)))) (aC (eIx (eIx (eB 2) (eC (.int 0))) (eC (.int 2))) aN)))) aN)))) sNil) (sRetO 2))))
def m_stretches2 : List D → List D → Option (D × List D) := runB false 6 g_stretches2
theorem stretches_2 : m_stretches = m_stretches2 := by
  unfold m_stretches m_stretches2 g_stretches g_stretches2
  rw [cells_2]
def g_count_stretches2 : Sv :=
  (sRet (eUn dLen (eCall 2 m_stretches2 (aC (eV 0) (aC (eV 1) aN)))))
def m_count_stretches2 : List D → List D → Option (D × List D) := runB false 2 g_count_stretches2
theorem count_stretches_2 : m_count_stretches = m_count_stretches2 := by
  unfold m_count_stretches m_count_stretches2 g_count_stretches g_count_stretches2
  rw [stretches_2]
def g_views_of2 : Sv :=
  (sSeq (sSetO 2 eDct0) (sSeq (sFor (.tup [(.nm 3), (.nm 4), (.nm 5)]) (iAny (eCall 2 m_stretches2 (aC (eV 0) (aC (eV 1) aN)))) (sDPut 2 (eLst (aS (eDGet (eB 2) (eUn dTup (eB 5)) (eLst aN)) (aC (eTup (aC (eV 3) (aC (eV 4) aN))) aN))) (eUn dTup (eB 5)))) (sRetO 2)))
def m_views_of2 : List D → List D → Option (D × List D) := runB false 6 g_views_of2
theorem views_of_2 : m_views_of = m_views_of2 := by
  unfold m_views_of m_views_of2 g_views_of g_views_of2
  rw [stretches_2]
def g_count_views2 : Sv :=
  (sRet (eUn dLenK (eCall 2 m_views_of2 (aC (eV 0) (aC (eV 1) aN)))))
def m_count_views2 : List D → List D → Option (D × List D) := runB false 2 g_count_views2
theorem count_views_2 : m_count_views = m_count_views2 := by
  unfold m_count_views m_count_views2 g_count_views g_count_views2
  rw [views_of_2]
def g_longest_stretch2 : Sv :=
  (sRet (eCall 2 m_length_of (aC (eUn dMaxS (eComp (.tup [(.nm 2), (.nm 3), (.nm 4)]) (iAny (eCall 2 m_stretches2 (aC (eV 0) (aC (eV 1) aN)))) cYes (eV 3) [2, 3, 4])) (aC (eCall 2 m_common_bottom (aC (eV 0) (aC (eV 1) aN))) aN))))
def m_longest_stretch2 : List D → List D → Option (D × List D) := runB false 5 g_longest_stretch2
theorem longest_stretch_2 : m_longest_stretch = m_longest_stretch2 := by
  unfold m_longest_stretch m_longest_stretch2 g_longest_stretch g_longest_stretch2
  rw [stretches_2]
end K
namespace K
open DL
open L2 (atI ixN)
def lb1f1 : Sv := (sAsg (.tup [(.nm 3), (.nm 4), (.nm 5)]) (eCall 1 m_law_dotted (aC (eV 1) aN)))
def lb1f2 : Sv := (sSet 6 (eCall 3 m_law_stretches (aC (eV 3) (aC (eV 4) (aC (eV 5) aN)))))
def lb1f3 : Sv := (sSet 7 (eUnF sortSetT (eComp (.tup [(.nm 9), (.nm 10), (.nm 11)]) (iAny (eV 6)) cYes (eV 11) [9, 10, 11])))
def lb1f4c : Et := (cNot (cV (eCall 2 (m_law_like 8) (aC (eCall 2 m_count_stretches (aC (eV 3) (aC (eV 4) aN))) (aC (eUn dLen (eB 6)) aN)))))
def lb1f4 : Sv := (sIf lb1f4c (sRet (eC (.bl false))) sNil)
def lb1f5c : Et := (cNot (cV (eCall 2 (m_law_like 8) (aC (eCall 2 m_count_views (aC (eV 3) (aC (eV 4) aN))) (aC (eUn dLen (eB 7)) aN)))))
def lb1f5 : Sv := (sIf lb1f5c (sRet (eC (.bl false))) sNil)
def lb1f6 : Sv := (sSet 8 (eUn dMaxS (eComp (.tup [(.nm 9), (.nm 10), (.nm 11)]) (iAny (eV 6)) cYes (eV 10) [9, 10, 11])))
def lb1f7c : Et := (cNot (cV (eCall 2 (m_law_like 8) (aC (eCall 2 m_longest_stretch (aC (eV 3) (aC (eV 4) aN))) (aC (eIf (cV (eBin dEq (eB 8) (eB 5))) (eTup (aC (eC (.int 1)) (aC (eC (.int 1)) aN))) (eCall 2 m_law_part (aC (eV 8) (aC (eV 5) aN)))) aN)))))
def lb1f7 : Sv := (sIf lb1f7c (sRet (eC (.bl false))) sNil)
def lb1f : Sv := (sSeq lb1f1 (sSeq lb1f2 (sSeq lb1f3 (sSeq lb1f4 (sSeq lb1f5 (sSeq lb1f6 lb1f7))))))
def lb1 : Sv := (sFor (.nm 2) (iRange1 (aC (eC (.int 4)) aN)) lb1f)
def lb2 : Sv := (sRet (eAnd (eBin dEq (eCall 2 m_count_stretches (aC (eTup (aC (eTup (aC (eC (.int 1)) (aC (eC (.int 3)) aN))) (aC (eC (.str "aa")) (aC (eC (.int 1)) aN)))) (aC (eC (.int 2)) aN))) (eC (.int 6))) (eBin dEq (eCall 2 m_count_views (aC (eTup (aC (eTup (aC (eC (.int 1)) (aC (eC (.int 3)) aN))) (aC (eC (.str "aa")) (aC (eC (.int 1)) aN)))) (aC (eC (.int 2)) aN))) (eC (.int 3)))))
def lb : Sv := (sSeq lb1 lb2)
theorem g_law_is : g_law = (sCell 1 (eLst (aC (eUnF lOf (eB 0)) (aC (eC (.int 0)) (aC (eC (.int 0)) aN)))) lb) := rfl
theorem g_law_is2 : g_law = (sCell 1 (eLst (aC (eUnF lOf (eB 0)) (aC (eC (.int 0)) (aC (eC (.int 0)) aN)))) (sSeq (sFor (.nm 2) (iRange1 (aC (eC (.int 4)) aN)) lb1f) lb2)) := rfl
theorem strsD_map2 : ∀ ss : List PySem.Str, strsD (ss.map D.str) = some ss
  | [] => rfl
  | x :: ss => by
    show (strsD (ss.map D.str)).map (x :: ·) = _
    rw [strsD_map2 ss]
    rfl
theorem reps_ddT (W : Nat → PySem.Str) (l : List (Nat × Nat)) : (ddT (l.map fun p => W p.1)).length = (RZ.reps W l).length := by
  have r := RZ.reps_ok W l
  have nd : ((RZ.reps W l).map W).Nodup := by
    rw [List.Nodup, List.pairwise_map]
    exact r.nd
  have p : (ddT (l.map fun p => W p.1)).Perm ((RZ.reps W l).map W) := (List.perm_ext_iff_of_nodup (nodup_ddT _) nd).mpr fun w => by
    rw [mem_ddT, List.mem_map, List.mem_map]
    constructor
    · rintro ⟨p, hp, rfl⟩
      obtain ⟨b, hb, e⟩ := r.cov p hp
      exact ⟨b, hb, e⟩
    · rintro ⟨b, hb, rfl⟩
      obtain ⟨p, hp, e⟩ := r.mem b hb
      exact ⟨p, hp, by rw [e]⟩
  rw [p.length_eq, List.length_map]
theorem lk_lenD (t b : Int) (n : Nat) : lkD (n + 1) (lenD t b) = true := by
  unfold lenD
  split
  · simp [lkD, lkL]
  · unfold dR
    simp [lkD, lkL]
abbrev R32 (ns : List Int) (s2 s3 s4 s5 s6 s7 s8 s9 s10 s11 : Slot) : List Slot := [.val (.scr ns), .val (.obj 0), s2, s3, s4, s5, s6, s7, s8, s9, s10, s11]
theorem body32 (ns : List Int) (j : Int) (t : Tape) (s3 s4 s5 s6 s7 s8 s9 s10 s11 : Slot) :
    ∃ a3 a4 a5 a6 a7 a8 a9 a10 a11 t', lb1f (R32 ns (.val (.int j)) s3 s4 s5 s6 s7 s8 s9 s10 s11) (tp t) = some (.nx (R32 ns (.val (.int j)) a3 a4 a5 a6 a7 a8 a9 a10 a11) (tp t')) := by
  have e60 : (2 : Nat) ^ 60 = 1152921504606846976 := rfl
  obtain ⟨hands, looks, m, k, dots, t1, d, e1⟩ := dotted_ex t
  have c := d.dt
  have b0 := c.b0
  have b4 := d.b400
  have f1 : lb1f1 (R32 ns (.val (.int j)) s3 s4 s5 s6 s7 s8 s9 s10 s11) (tp t) = some (.nx (R32 ns (.val (.int j)) (.val (clkD hands looks (m : Int))) (.val (.int (dots : Int))) (.val (.int (RY.btm hands dots : Int))) s6 s7 s8 s9 s10 s11) (tp t1)) := by
    unfold lb1f1
    exact (asg_s (d := .tup [clkD hands looks (m : Int), .int (dots : Int), .int (RY.btm hands dots : Int)]) (S' := tp t1) (l := [(3, clkD hands looks (m : Int)), (4, .int (dots : Int)), (5, .int (RY.btm hands dots : Int))]) (call_s (ds := [.obj 0]) (S' := tp t) rfl rfl e1) rfl).trans rfl
  have hst := law_stretches_eq c (tp t1) (by omega)
  have hcs := count_stretches_eq c (tp t1)
  have hcv := count_views_eq c (tp t1)
  have hlo := longest_eq c (tp t1)
  have hstr : RZ.strL (RY.vu hands (lt looks) m k dots) (RY.btm hands dots) = RZ.strL (wt hands (lt looks) m k dots) (RY.btm hands dots) := RZ.str_congr fun i j _ _ => (wt_iff c i j).symm
  have hrp : ∀ l, RZ.reps (RY.vu hands (lt looks) m k dots) l = RZ.reps (wt hands (lt looks) m k dots) l := fun l => RZ.reps_congr fun p _ q _ => (wt_iff c p.1 q.1).symm
  rw [hstr] at hcs hlo
  rw [hrp, hstr, ← reps_ddT] at hcv
  have hl : (RZ.strL (wt hands (lt looks) m k dots) (RY.btm hands dots)).length ≤ RY.btm hands dots + 1 := RZ.strL_len
  have hne : RZ.strL (wt hands (lt looks) m k dots) (RY.btm hands dots) ≠ [] := RZ.strL_ne b0
  generalize wt hands (lt looks) m k dots = W at *
  generalize RY.btm hands dots = B at *
  generalize RZ.strL W B = l at *
  have hmx := max_eq hne
  refine ⟨.val (clkD hands looks (m : Int)), .val (.int (dots : Int)), .val (.int (B : Int)), .val (.lst ((RZ.tag W l).map triT)), .val (.lst ((srtT (l.map fun p => W p.1)).map .str)), .val (nD (mxL l)), s9, s10, s11, t1, ?_⟩
  unfold lb1f
  refine (seq_nx f1).trans ?_
  have f2 : lb1f2 (R32 ns (.val (.int j)) (.val (clkD hands looks (m : Int))) (.val (.int (dots : Int))) (.val (.int (B : Int))) s6 s7 s8 s9 s10 s11) (tp t1) = some (.nx (R32 ns (.val (.int j)) (.val (clkD hands looks (m : Int))) (.val (.int (dots : Int))) (.val (.int (B : Int))) (.val (.lst ((RZ.tag W l).map triT))) s7 s8 s9 s10 s11) (tp t1)) := by
    unfold lb1f2
    exact set_s (call_s (ds := [clkD hands looks (m : Int), .int (dots : Int), .int (B : Int)]) (S' := tp t1) rfl rfl hst)
  refine (seq_nx f2).trans ?_
  have ei : iAny (eV 6) (R32 ns (.val (.int j)) (.val (clkD hands looks (m : Int))) (.val (.int (dots : Int))) (.val (.int (B : Int))) (.val (.lst ((RZ.tag W l).map triT))) s7 s8 s9 s10 s11) (tp t1) = some ((RZ.tag W l).map triT, tp t1) := iany_s (d := .lst ((RZ.tag W l).map triT)) (S' := tp t1) rfl rfl
  have hle : ((RZ.tag W l).map triT).length ≤ 16777216 := by unfold RZ.tag; rw [List.length_map, List.length_map]; omega
  have f3 : lb1f3 (R32 ns (.val (.int j)) (.val (clkD hands looks (m : Int))) (.val (.int (dots : Int))) (.val (.int (B : Int))) (.val (.lst ((RZ.tag W l).map triT))) s7 s8 s9 s10 s11) (tp t1) = some (.nx (R32 ns (.val (.int j)) (.val (clkD hands looks (m : Int))) (.val (.int (dots : Int))) (.val (.int (B : Int))) (.val (.lst ((RZ.tag W l).map triT))) (.val (.lst ((srtT (l.map fun p => W p.1)).map .str))) s8 s9 s10 s11) (tp t1)) := by
    unfold lb1f3
    refine set_s (unF_s (d := .lst ((l.map fun p => W p.1).map D.str)) (S' := tp t1) (comp_s (S' := tp t1) ei hle ?_) ?_)
    · unfold RZ.tag
      rw [List.map_map, List.map_map]
      exact compL_map (triT ∘ fun p : Nat × Nat => (p.1, p.2, W p.1)) (fun p : Nat × Nat => D.str (W p.1)) _ fun p _ => ⟨[(9, nD p.1), (10, nD p.2), (11, .str (W p.1))], rfl, rfl⟩
    · show (strsD ((l.map fun p => W p.1).map D.str)).bind _ = _
      rw [strsD_map2, Option.bind_some, if_pos (by rw [List.length_map]; omega)]
  refine (seq_nx f3).trans ?_
  have z (c : Et) {ρ : List Slot} {S : List D} (e : c ρ S = some (false, S)) : (sIf c (sRet (eC (.bl false))) sNil) ρ S = some (.nx ρ S) := (if_f e).trans rfl
  have c4 : lb1f4c (R32 ns (.val (.int j)) (.val (clkD hands looks (m : Int))) (.val (.int (dots : Int))) (.val (.int (B : Int))) (.val (.lst ((RZ.tag W l).map triT))) (.val (.lst ((srtT (l.map fun p => W p.1)).map .str))) s8 s9 s10 s11) (tp t1) = some (false, tp t1) := by
    unfold lb1f4c
    refine cNot_s (k := true) (cV_s (call_s (ds := [nD l.length, nD l.length]) (S' := tp t1) (aC_s (S' := tp t1) (call_s (ds := [clkD hands looks (m : Int), .int (dots : Int)]) (S' := tp t1) rfl rfl hcs) (aC_s (S' := tp t1) (un_s (d := .lst ((RZ.tag W l).map triT)) (S' := tp t1) rfl ?_) rfl)) rfl (like_refl 7 _ _ (by simp [nD, lkD]))))
    show some (D.int (((RZ.tag W l).map triT).length : Int)) = _
    unfold RZ.tag
    rw [List.length_map, List.length_map]
    rfl
  refine (seq_nx (z lb1f4c c4)).trans ?_
  have c5 : lb1f5c (R32 ns (.val (.int j)) (.val (clkD hands looks (m : Int))) (.val (.int (dots : Int))) (.val (.int (B : Int))) (.val (.lst ((RZ.tag W l).map triT))) (.val (.lst ((srtT (l.map fun p => W p.1)).map .str))) s8 s9 s10 s11) (tp t1) = some (false, tp t1) := by
    unfold lb1f5c
    refine cNot_s (k := true) (cV_s (call_s (ds := [nD (ddT (l.map fun p => W p.1)).length, nD (ddT (l.map fun p => W p.1)).length]) (S' := tp t1) (aC_s (S' := tp t1) (call_s (ds := [clkD hands looks (m : Int), .int (dots : Int)]) (S' := tp t1) rfl rfl hcv) (aC_s (S' := tp t1) (un_s (d := .lst ((srtT (l.map fun p => W p.1)).map .str)) (S' := tp t1) rfl ?_) rfl)) rfl (like_refl 7 _ _ (by simp [nD, lkD]))))
    show some (D.int (((srtT (l.map fun p => W p.1)).map D.str).length : Int)) = _
    rw [List.length_map, srtT_len]
    rfl
  refine (seq_nx (z lb1f5c c5)).trans ?_
  have ei2 : iAny (eV 6) (R32 ns (.val (.int j)) (.val (clkD hands looks (m : Int))) (.val (.int (dots : Int))) (.val (.int (B : Int))) (.val (.lst ((RZ.tag W l).map triT))) (.val (.lst ((srtT (l.map fun p => W p.1)).map .str))) s8 s9 s10 s11) (tp t1) = some ((RZ.tag W l).map triT, tp t1) := iany_s (d := .lst ((RZ.tag W l).map triT)) (S' := tp t1) rfl rfl
  have f6 : lb1f6 (R32 ns (.val (.int j)) (.val (clkD hands looks (m : Int))) (.val (.int (dots : Int))) (.val (.int (B : Int))) (.val (.lst ((RZ.tag W l).map triT))) (.val (.lst ((srtT (l.map fun p => W p.1)).map .str))) s8 s9 s10 s11) (tp t1) = some (.nx (R32 ns (.val (.int j)) (.val (clkD hands looks (m : Int))) (.val (.int (dots : Int))) (.val (.int (B : Int))) (.val (.lst ((RZ.tag W l).map triT))) (.val (.lst ((srtT (l.map fun p => W p.1)).map .str))) (.val (nD (mxL l))) s9 s10 s11) (tp t1)) := by
    unfold lb1f6
    refine set_s (un_s (S' := tp t1) (comp_s (S' := tp t1) ei2 hle ?_) hmx)
    unfold RZ.tag
    rw [List.map_map]
    exact compL_map (triT ∘ fun p : Nat × Nat => (p.1, p.2, W p.1)) (fun p : Nat × Nat => nD p.2) _ fun p _ => ⟨[(9, nD p.1), (10, nD p.2), (11, .str (W p.1))], rfl, rfl⟩
  refine (seq_nx f6).trans ?_
  refine z lb1f7c ?_
  unfold lb1f7c
  have hc : cV (eBin dEq (eB 8) (eB 5)) (R32 ns (.val (.int j)) (.val (clkD hands looks (m : Int))) (.val (.int (dots : Int))) (.val (.int (B : Int))) (.val (.lst ((RZ.tag W l).map triT))) (.val (.lst ((srtT (l.map fun p => W p.1)).map .str))) (.val (nD (mxL l))) s9 s10 s11) (tp t1) = some (decide ((mxL l : Int) = (B : Int)), tp t1) := cV_s (bin_s (d := nD (mxL l)) (S' := tp t1) (d2 := .int (B : Int)) (S2 := tp t1) rfl rfl (dv_eqI _ _))
  have hl2 : (eIf (cV (eBin dEq (eB 8) (eB 5))) (eTup (aC (eC (.int 1)) (aC (eC (.int 1)) aN))) (eCall 2 m_law_part (aC (eV 8) (aC (eV 5) aN)))) (R32 ns (.val (.int j)) (.val (clkD hands looks (m : Int))) (.val (.int (dots : Int))) (.val (.int (B : Int))) (.val (.lst ((RZ.tag W l).map triT))) (.val (.lst ((srtT (l.map fun p => W p.1)).map .str))) (.val (nD (mxL l))) s9 s10 s11) (tp t1) = some (lenD (mxL l : Nat) (B : Nat), tp t1) := by
    unfold lenD
    by_cases y : (mxL l : Int) = (B : Int)
    · rw [decide_eq_true y] at hc
      rw [if_pos y]
      exact (eif_t hc).trans rfl
    · rw [decide_eq_false y] at hc
      rw [if_neg y]
      exact (eif_f hc).trans (call_s (ds := [nD (mxL l), .int (B : Int)]) (S' := tp t1) rfl rfl (m_law_part_eq _ _ (tp t1) (by omega) (wd (by omega))))
  exact cNot_s (k := true) (cV_s (call_s (ds := [lenD (mxL l : Nat) (B : Nat), lenD (mxL l : Nat) (B : Nat)]) (S' := tp t1) (aC_s (S' := tp t1) (call_s (ds := [clkD hands looks (m : Int), .int (dots : Int)]) (S' := tp t1) rfl rfl hlo) (aC_s (S' := tp t1) hl2 rfl)) rfl (like_refl 7 _ _ (lk_lenD _ _ 6))))
theorem last32 (ns : List Int) (x : Slot) (S : List D) (s3 s4 s5 s6 s7 s8 s9 s10 s11 : Slot) : lb2 (R32 ns x s3 s4 s5 s6 s7 s8 s9 s10 s11) S = some (.rt (.bl true) S) := by
  unfold lb2
  rw [count_stretches_2, count_views_2]
  kernel_rfl
theorem THE (ns : List Int) (_ : ns.length ≤ 63) : m_law [.scr ns] [] = some (.bl true, []) := by
  unfold m_law
  rw [g_law_is2]
  refine law_run2 (N := 9) (by decide) ns (fun j t ρ hj hρ => ?_) (fun x t ρ hρ => ?_)
  · match ρ, hρ with
    | [s3, s4, s5, s6, s7, s8, s9, s10, s11], _ =>
      obtain ⟨a3, a4, a5, a6, a7, a8, a9, a10, a11, t', e⟩ := body32 ns j t s3 s4 s5 s6 s7 s8 s9 s10 s11
      exact ⟨_, _, t', rfl, e⟩
  · match ρ, hρ with
    | [s3, s4, s5, s6, s7, s8, s9, s10, s11], _ => exact last32 ns x (tp t) s3 s4 s5 s6 s7 s8 s9 s10 s11
end K
open PySem PySem.W PySem.Calls PyProof.Rows in
set_option maxRecDepth 100000 in
set_option maxHeartbeats 0 in
theorem PySem.Challenge.cw_unclearhands_k32_whole_stretches_and_vie_holds : PySem.Challenge.rw_unclearhands_k32_whole_stretches_and_vie.Holds := by
  w_on; o_law
  refine HandSHeadRun.head_any (r := OpenLaw.row PySem.Challenge.rw_unclearhands_k32_whole_stretches_and_vie) (q := view (OpenLaw.row PySem.Challenge.rw_unclearhands_k32_whole_stretches_and_vie).prog [23]) (H := K.hkT) (ob := K.obT) (M := 4000) (loose := K.looseT) (d := HandSHeadRun.topDef (OpenLaw.row PySem.Challenge.rw_unclearhands_k32_whole_stretches_and_vie).prog 23) (kwd := []) K.ob_eq
    (by kernel_rfl) (fun s => by kernel_rfl) K.runT (by kernel_rfl) (by kernel_rfl) (by kernel_rfl) (by rfl) (by first | assumption | decide +kernel) (by decide +kernel) ⟨rfl, rfl, rfl, rfl, rfl, by decide +kernel⟩ ?hw ?hc
  case hw => w_witness2
  case hc =>
    refine DL.walk_ofG (l := PySem.Challenge.rw_unclearhands_k32_whole_stretches_and_vie) (n := 63) (k := 9) (x := "_law_script") rfl (by decide) (by kernel_rfl) ⟨⟨rfl, by decide, by decide⟩, rfl⟩ ?F
    intro w mg fa h Y G hmg0
    obtain ⟨KW, KX, c, ct⟩ := Y
    have hmg : mg ("law" : PySem.Str) = some (.ref fa) := by
      have e : (HandSHeadRun.topDef (OpenLaw.row PySem.Challenge.rw_unclearhands_k32_whole_stretches_and_vie).prog 23).name = ("law" : PySem.Str) := by kernel_rfl
      rw [← e]
      exact hmg0
    obtain ⟨fd, hb, hF⟩ := K.factsT (P := (PySem.Challenge.rw_unclearhands_k32_whole_stretches_and_vie).prog) (w := w) KX G hmg c ct
    exact ⟨KW, fd, DL.spM false ⟨KW, w⟩ 1 K.m_law, KX, hb, fun H a ns hl _ hS => DL.law_end (K := ⟨KW, w⟩) hS (K.THE ns hl), hF⟩
