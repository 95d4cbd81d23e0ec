import PyProof.Rows.All
import Wide.All
import OpenK.AllK
import Wide.FinOn
import HandS.ForMost
import HandS.ForExc
import HandS.IsInst
import HandS.Lambda
import HandS.TupAny
import HandS.TupMul
import HandS.Wide
import HandS.Deep
import KE.DataEq
import HandS.Text
import HandS.Walk
import HandS.Conv
import HandS.Strs
import HandS.SortInts
import HandS.ExcIs
import HandS.ExcInit
import HandS.OwnEq
import HandS.ExcField
import KE.KExcSuper
import HandS.HeadWalk
import PyProof.InstEq
import PyProof.ReprRoads
import HandS.Style
import HandS.HeadHook4
import HandS.HeadNt
import HandS.MakeKw
import HandS.MakeKwOnly
import HandS.EndTab
import HandS.ExcOwn
import KE.KRevSl
import KE.DatumOrd
import HandS.ExcValue
import HandS.RaiseMore
import HandS.Remove
import HandS.Small
import KE.SortData
import PyProof.ReprLen
import KE.GoesMore
import PyProof.EnumMake
import HandS.Head2
import PySem.Challenge.RW_tautrounds_k02_whole_rims_and_genus
set_option Elab.async false
set_option linter.all false
set_option maxRecDepth 100000
/-! Tree programs: the base. -/
namespace TP
open PySem L2 PyProof.Rows PySem.Spec


/-- what a value tells, without addresses -/
inductive D where
  | non | bl (b : Bool) | int (i : Int) | str (s : Str)
  | tup (xs : List D) | lst (xs : List D) | pr (xs : List D)
  | dic (kvs : List (Key × D))
  | dit (kvs : List (List Key × D))
  | obj (c : Str) (fs : List (Str × D))
  | exc (c : Str) (fs : List (Str × D))
  | scr (ns : List Int)
  | fn (x : Str)

/-- a tuple that is known whole (no dict of its own), or one of the written part -/
def SqG (K : PySem.W.Frag) (Φ : Hp) (a : Addr) (vs : List V) : Prop :=
  (∃ o, Φ a = some (.frz o (.tup vs)) ∧ o.dict = none) ∨
    ∃ (o : Obj) (its : Array Value) (n : Nat), K.lookup a = some o ∧ o.cls = .type "tuple" ∧ o.dict = none ∧ o.data = .seq its n ∧ its.size ≤ sizeLine ∧ Vals vs its.toList
theorem SqG.t {K : PySem.W.Frag} {Φ : Hp} {a : Addr} {vs : List V} (h : SqG K Φ a vs) : SqT K Φ a vs := by
  rcases h with ⟨o, h, _⟩ | ⟨o, its, n, h1, h2, _, h4, h5, h6⟩
  · exact .inl (.inr ⟨o, h⟩)
  · exact .inr ⟨o, its, n, h1, h2, h4, h5, h6⟩
/-- an exception object of the class cls with the dict d, known by what it is -/
def XcO (cls : Value) (d : Option Addr) (a : Addr) : HO := .ext fun h => ∃ (oe : Obj) (vs : Array Value), h.get? a = some oe ∧ Zc cls d oe ∧ oe.data = .fields vs

mutual
inductive See (K : PySem.W.Frag) (mg : Str → Option Value) (Φ : Hp) : V → D → Prop
  | non : See K mg Φ .non .non
  | bl (b : Bool) : See K mg Φ (.bl b) (.bl b)
  | int (i : Int) : See K mg Φ (.int i) (.int i)
  | str (s : Str) : See K mg Φ (.str s) (.str s)
  | tup {a : Addr} {vs : List V} {ds : List D} (h : SqG K Φ a vs) (r : SeeAll K mg Φ vs ds) : See K mg Φ (.ref a) (.tup ds)
  | pr {a : Addr} {vs : List V} {ds : List D} (h : Φ a = some (.tup vs)) (r : SeeAll K mg Φ vs ds) : See K mg Φ (.ref a) (.pr ds)
  | lst {a : Addr} {vs : List V} {ds : List D} (h : Φ a = some (.lst vs)) (r : SeeAll K mg Φ vs ds) : See K mg Φ (.ref a) (.lst ds)
  | dic {a : Addr} {kvs : List (Key × V)} {gs : List (Key × D)} (h : Φ a = some (.dK kvs)) (r : SeeK K mg Φ kvs gs) : See K mg Φ (.ref a) (.dic gs)
  | dit {a : Addr} {kvs : List (List Key × V)} {gs : List (List Key × D)} (h : Φ a = some (.dT kvs)) (r : SeeT K mg Φ kvs gs) : See K mg Φ (.ref a) (.dit gs)
  | obj {c : Str} {C a dx : Addr} {fs : List (Str × V)} {gs : List (Str × D)} (g : mg c = some (.ref C)) (h : Φ a = some (.ins C dx fs)) (r : SeeF K mg Φ fs gs) : See K mg Φ (.ref a) (.obj c gs)
  | exc0 {c : Str} {C a : Addr} (g : mg c = some (.ref C)) (h : Φ a = some (XcO (.ref C) none a)) : See K mg Φ (.ref a) (.exc c [])
  | exc1 {c : Str} {C a d : Addr} {fs : List (Str × V)} {gs : List (Str × D)} (g : mg c = some (.ref C)) (h : Φ a = some (XcO (.ref C) (some d) a)) (hd : Φ d = some (.xd fs)) (r : SeeF K mg Φ fs gs) : See K mg Φ (.ref a) (.exc c gs)
  | scr {a : Addr} {ns : List Int} (h : SqL K Φ a (ns.map V.int)) : See K mg Φ (.ref a) (.scr ns)
  | fn {x : Str} {f : Addr} (g : mg x = some (.ref f)) : See K mg Φ (.ref f) (.fn x)
inductive SeeAll (K : PySem.W.Frag) (mg : Str → Option Value) (Φ : Hp) : List V → List D → Prop
  | nil : SeeAll K mg Φ [] []
  | cons {v : V} {d : D} {vs : List V} {ds : List D} (h : See K mg Φ v d) (t : SeeAll K mg Φ vs ds) : SeeAll K mg Φ (v :: vs) (d :: ds)
inductive SeeK (K : PySem.W.Frag) (mg : Str → Option Value) (Φ : Hp) : List (Key × V) → List (Key × D) → Prop
  | nil : SeeK K mg Φ [] []
  | cons {k : Key} {v : V} {d : D} {vs : List (Key × V)} {ds : List (Key × D)} (h : See K mg Φ v d) (t : SeeK K mg Φ vs ds) : SeeK K mg Φ ((k, v) :: vs) ((k, d) :: ds)
inductive SeeT (K : PySem.W.Frag) (mg : Str → Option Value) (Φ : Hp) : List (List Key × V) → List (List Key × D) → Prop
  | nil : SeeT K mg Φ [] []
  | cons {k : List Key} {v : V} {d : D} {vs : List (List Key × V)} {ds : List (List Key × D)} (h : See K mg Φ v d) (t : SeeT K mg Φ vs ds) : SeeT K mg Φ ((k, v) :: vs) ((k, d) :: ds)
inductive SeeF (K : PySem.W.Frag) (mg : Str → Option Value) (Φ : Hp) : List (Str × V) → List (Str × D) → Prop
  | nil : SeeF K mg Φ [] []
  | cons {k : Str} {v : V} {d : D} {vs : List (Str × V)} {ds : List (Str × D)} (h : See K mg Φ v d) (t : SeeF K mg Φ vs ds) : SeeF K mg Φ ((k, v) :: vs) ((k, d) :: ds)
end

abbrev Ex (H H' : Hp) : Prop := ∀ a o, H a = some o → H' a = some o
theorem Ex.refl (H : Hp)
        : Ex H H := fun _ _ h => h
theorem Ex.trans {H H1 H2 : Hp} (a : Ex H H1) (b :
        Ex H1 H2) : Ex H H2 := fun x o h => b x o (a x o h)
theorem Ex.new {H : Hp} {p : Addr} {o : HO} (h :
        H p = none) : Ex H (upd H p o) := fun a u e => by
  rw [upd_ne (ne_of_none e h)]
  exact e
theorem ex_rd {H H' : Hp} {a : Addr} {u : HO}
        (e : Ex H H') (h : Rd H a u) : Rd H' a u := by
  rcases h with h | ⟨o, h⟩
  · exact Or.inl (e a _ h)
  · exact Or.inr ⟨o, e a _ h⟩
theorem ex_l {K : PySem.W.Frag} {H H' : Hp} {a : Addr} {xs :
        List V} (e : Ex H H') (h : SqL K H a xs) : SqL K H' a xs := by
  rcases h with h | h
  · exact Or.inl (ex_rd e h)
  · exact Or.inr h
theorem ex_t {K : PySem.W.Frag} {H H' : Hp} {a : Addr} {xs :
        List V} (e : Ex H H') (h : SqT K H a xs) : SqT K H' a xs := by
  rcases h with h | h
  · exact Or.inl (ex_rd e h)
  · exact Or.inr h

theorem ex_g {K : PySem.W.Frag} {H H' : Hp} {a : Addr} {xs : List V} (e : Ex H H') (h : SqG K H a xs) : SqG K H' a xs := by
  rcases h with ⟨o, h, d⟩ | h
  · exact .inl ⟨o, e _ _ h, d⟩
  · exact .inr h
section
variable {K : PySem.W.Frag} {mg : Str → Option Value} {Φ Φ' : Hp}
mutual
theorem See.mono (e : Ex Φ Φ') : ∀ {v : V} {d : D}, See K mg Φ v d → See K mg Φ' v d
  | _, _, .non => .non
  | _, _, .bl b => .bl b
  | _, _, .int i => .int i
  | _, _, .str s => .str s
  | _, _, .tup h r => .tup (ex_g e h) (SeeAll.mono e r)
  | _, _, .pr h r => .pr (e _ _ h) (SeeAll.mono e r)
  | _, _, .lst h r => .lst (e _ _ h) (SeeAll.mono e r)
  | _, _, .scr h => .scr (ex_l e h)
  | _, _, .fn g => .fn g
  | _, _, .dic h r => .dic (e _ _ h) (SeeK.mono e r)
  | _, _, .dit h r => .dit (e _ _ h) (SeeT.mono e r)
  | _, _, .obj g h r => .obj g (e _ _ h) (SeeF.mono e r)
  | _, _, .exc0 g h => .exc0 g (e _ _ h)
  | _, _, .exc1 g h hd r => .exc1 g (e _ _ h) (e _ _ hd) (SeeF.mono e r)
theorem SeeAll.mono (e : Ex Φ Φ') : ∀ {v : List V} {d : List D}, SeeAll K mg Φ v d → SeeAll K mg Φ' v d
  | _, _, .nil => .nil
  | _, _, .cons h t => .cons (See.mono e h) (SeeAll.mono e t)
theorem SeeK.mono (e : Ex Φ Φ') : ∀ {v : List (Key × V)} {d : List (Key × D)}, SeeK K mg Φ v d → SeeK K mg Φ' v d
  | _, _, .nil => .nil
  | _, _, .cons h t => .cons (See.mono e h) (SeeK.mono e t)
theorem SeeT.mono (e : Ex Φ Φ') : ∀ {v : List (List Key × V)} {d : List (List Key × D)}, SeeT K mg Φ v d → SeeT K mg Φ' v d
  | _, _, .nil => .nil
  | _, _, .cons h t => .cons (See.mono e h) (SeeT.mono e t)
theorem SeeF.mono (e : Ex Φ Φ') : ∀ {v : List (Str × V)} {d : List (Str × D)}, SeeF K mg Φ v d → SeeF K mg Φ' v d
  | _, _, .nil => .nil
  | _, _, .cons h t => .cons (See.mono e h) (SeeF.mono e t)
end
end
/-! ### tuples are laid known whole -/
section
variable {X : Cx} {es : List Expr} {pos : Pos} {t : TA}
/-- a new tuple -/
def NewT (H : Hp) (xs : List V) (Q : VK) : Prop := ∀ p o, H p = none → o.dict = none → Q (.ref p) (upd H p (.frz o (.tup xs)))
theorem new_tup {pins : List (Addr × Obj)} {σ : L2.St} {H : Hp} {s : Shared} {xs : List V} {us : List Value} {Q : VK} {h' : Heap} {tk : Nat} (I : Inv X pins σ H s) (k : ∀ b o, s.heap.get? b = some o → h'.get? b = some o) (hz : xs.length ≤ sizeLine) (r : Vals xs us)
    (q : NewT H xs Q) : EP X pins σ Q (.ref h'.objs.size) { s with heap := h'.push { cls := .type "tuple", data := .seq us.toArray }, toks := tk } := by
  have I1 : Inv X pins σ H { s with heap := h', toks := tk } := I.kept (t' := tk) k
  have hf : H h'.objs.size = none := I1.hok.fresh (Nat.le_refl _)
  refine ⟨.ref h'.objs.size, upd H h'.objs.size (.frz { cls := .type "tuple", data := .seq us.toArray } (.tup xs)), I1.laid (t' := tk) (fun b u e => Heap.get?_push_of_some _ e) (Nat.le_refl _) ?_, rfl, q _ _ hf rfl⟩
  exact ⟨Heap.get?_push_size _ rfl, hz, us, r, ⟨_, Heap.get?_push_size _ rfl, rfl, _, rfl⟩⟩
def tTupF (t : TA) : TE := fun σ H Q => t σ H fun xs H1 => xs.length ≤ sizeLine ∧ NewT H1 xs Q
theorem pe_tupF {x1} (h : PA X es t) : PE X (.Tuple es x1 pos) (tTupF t) := ⟨fun pins s σ H Q I hq =>
  wpAny_Tuple_spliced (thn (h.run pos pins s σ H _ I hq) fun us s1 ⟨xs, H1, I1, r, z, q⟩ => ⟨by rw [← r.length]; exact z, new_tup (s := s1) (h' := s1.heap) (tk := s1.toks) I1 (fun _ _ e => e) z r q⟩)⟩
/-- tuple(a list), tuple(a tuple) -/
def rTupF (K : PySem.W.Frag) : List V → Hp → VK → Prop := fun xs H Q => ∃ p ys, xs = [.ref p] ∧ ((SqL K H p ys ∧ NewT H ys Q) ∨ (SqT K H p ys ∧ Q (.ref p) H))
theorem cr_tupF : CallR X (.type "tuple") (rTupF X.K) := by
  intro pins s₀ σ H xs us Q I r h
  obtain ⟨p, ys, rfl, h⟩ := h
  obtain ⟨u₀, rfl, rx⟩ := vals1 r
  cases rx
  rcases h with ⟨hq, q₀⟩ | ⟨hq, q₀⟩
  · obtain ⟨its, rv, pl, hz⟩ := I.list hq
    have hl := rv.length
    exact call_tuple_list pl.isList (fun h' kp => new_tup (tk := s₀.toks) I kp hz rv q₀) (by simp only [List.size_toArray] <;> omega)
  · obtain ⟨its, rv, pl, hz⟩ := I.tuple hq
    exact call_tuple_same pl ⟨.ref p, H, I, rfl, q₀⟩
/-- t + u -/
def rCatF (K : PySem.W.Frag) : R2 := fun x y H Q => ∃ a b xs ys, x = .ref a ∧ y = .ref b ∧ SqT K H a xs ∧ SqT K H b ys ∧ xs.length + ys.length ≤ sizeLine ∧
  (xs = [] → Q (.ref b) H) ∧ (xs ≠ [] → ys = [] → Q (.ref a) H) ∧ (xs ≠ [] → ys ≠ [] → NewT H (xs ++ ys) Q)
theorem op_catF : OpR X (binaryOp .Add) (rCatF X.K) := by
  intro pins s σ H x₀ y v u Q I₀ rx ry h
  obtain ⟨a, b₀, xs, ys, rfl, rfl, ha, hb, hz, q0, q1, q2⟩ := h
  by_cases hx : xs = []
  · exact op_catA pins s σ H _ _ v u Q I₀ rx ry ⟨a, b₀, xs, ys, rfl, rfl, ha, hb, hz, q0, fun w => absurd hx w, fun w => absurd hx w⟩
  · by_cases hy : ys = []
    · exact op_catA pins s σ H _ _ v u Q I₀ rx ry ⟨a, b₀, xs, ys, rfl, rfl, ha, hb, hz, q0, q1, fun _ w => absurd hy w⟩
    · cases rx
      cases ry
      obtain ⟨its, r1, p1, _⟩ := I₀.tuple ha
      obtain ⟨js, r2, p2, _⟩ := I₀.tuple hb
      exact HT.cat_tup p1 p2 (fun w => hx (r1.nil_iff.mp w)) (fun w => absurd (r2.nil_iff.mp w) hy) (fun _ => new_tup (h' := s.heap) (tk := s.toks) I₀ (fun _ _ e => e) (by rw [List.length_append]; exact hz) (r1.append r2) (q2 hx hy)) (by rw [← r1.length, ← r2.length]; exact hz)
/-- t[lo:hi] -/
def rSlF (K : PySem.W.Frag) : V → Option Int → Option Int → Hp → VK → Prop := fun x lo hi H Q => ∃ a xs, x = .ref a ∧ SqT K H a xs ∧
  (HT.sIx xs.length 0 lo = 0 ∧ HT.sIx xs.length xs.length hi = xs.length → Q (.ref a) H) ∧ (¬ (HT.sIx xs.length 0 lo = 0 ∧ HT.sIx xs.length xs.length hi = xs.length) → NewT H (cutV xs lo hi) Q)
theorem sl_tupF : SlR X (rSlF X.K) := by
  intro pins s σ H x₀ v vl vu lo hi₀ sl Q I₀ rx hs pl pu h
  obtain ⟨a₀, xs, rfl, hx, q1, q2⟩ := h
  by_cases hw : HT.sIx xs.length 0 lo = 0 ∧ HT.sIx xs.length xs.length hi₀ = xs.length
  · exact sl_tupA pins s σ H _ v vl vu lo hi₀ sl Q I₀ rx hs pl pu ⟨a₀, xs, rfl, hx, q1, fun w => absurd hw w⟩
  · cases rx
    obtain ⟨its, r₀, ht₀, hz⟩ := I₀.tuple hx
    have hlen : its.toArray.size = xs.length := by rw [List.size_toArray]; exact r₀.length.symm
    have hl2 : its.length = xs.length := r₀.length.symm
    refine ⟨"tuple", _, PyProof.Rows.slot_tuple_getitem.lookup, ht₀.typeIs, ?_⟩
    refine HT.getItem_tuple_cut ht₀ hs pl pu (by rw [hlen]; exact hw) ?_ (by rw [hlen]; exact hz)
    refine new_tup (h' := s.heap) (tk := s.toks) I₀ (fun _ _ e => e) (Nat.le_trans (cutV_length xs lo hi₀) hz) ?_ (q2 hw)
    unfold cutV
    rw [hlen]
    exact (r₀.drop _).take _
end
end TP
set_option Elab.async false
set_option linter.all false
set_option maxRecDepth 100000
/-! Tree programs: states, judgements. -/
namespace TP
open PySem L2 PyProof.Rows PySem.Spec

structure Exn where
  c : Str
  fs : List (Str × D)
inductive R (α : Type) where
  | ok (a : α) | raise (x : Exn) | stuck
@[inline] def R.bind {α β : Type} (r : R α) (f : α → R β) : R β := match r with
  | .ok a => f a
  | .raise x => .raise x
  | .stuck => .stuck
@[inline] def R.map {α β : Type} (f : α → β) (r : R α) : R β := match r with
  | .ok a => .ok (f a)
  | .raise x => .raise x
  | .stuck => .stuck
def R.ofOpt {α : Type} : Option α → R α
  | some a => .ok a
  | none => .stuck
/-- the state of the draws -/
structure Dr where
  large : List Int
  rest : Int
  cells : List Int
  turn : Int
/-- what a slot holds: a value that stays, a list or dict of one's own, the draws -/
inductive Sl where
  | fz (d : D) | ml (ds : List D) | md (kvs : List (Key × D)) | mt (kvs : List (List Key × D)) | dr (s : Dr) | mi (c : Str) (fs : List (Str × D))
/-- what stands at places that are known from the entry on -/
def Sl.fx (dp dq : Addr) : Sl → Option (List Addr)
  | .dr _ => some [dp, dq]
  | .mi _ _ => some [dp]
  | _ => none
abbrev S := List (Option Sl)

abbrev kLarge : Key := .inr "large"
abbrev kRest : Key := .inr "rest"
abbrev kCells : Key := .inr "cells"
abbrev kTurn : Key := .inr "turn"
/-- the draws lie at p, their great numbers at q -/
structure DrAt (K : PySem.W.Frag) (Φ H : Hp) (p q : Addr) (s : Dr) : Prop where
  dict : ∃ c, H p = some (.dK [(kLarge, .ref q), (kRest, .int s.rest), (kCells, .ref c), (kTurn, .int s.turn)]) ∧ Φ c = some (.lst (s.cells.map V.int))
  great : H q = some (.lst (s.large.map V.int))
  ne : p ≠ q

inductive SlOk (K : PySem.W.Frag) (mg : Str → Option Value) (Φ H : Hp) : V → Sl → List Addr → Prop
  | fz {v : V} {d : D} (h : See K mg Φ v d) : SlOk K mg Φ H v (.fz d) []
  | ml {p : Addr} {vs : List V} {ds : List D} (h : H p = some (.lst vs)) (r : SeeAll K mg Φ vs ds) : SlOk K mg Φ H (.ref p) (.ml ds) [p]
  | md {p : Addr} {vs : List (Key × V)} {ds : List (Key × D)} (h : H p = some (.dK vs)) (r : SeeK K mg Φ vs ds) : SlOk K mg Φ H (.ref p) (.md ds) [p]
  | mt {p : Addr} {vs : List (List Key × V)} {ds : List (List Key × D)} (h : H p = some (.dT vs)) (r : SeeT K mg Φ vs ds) : SlOk K mg Φ H (.ref p) (.mt ds) [p]
  | dr {p q : Addr} {s : Dr} (h : DrAt K Φ H p q s) : SlOk K mg Φ H (.ref p) (.dr s) [p, q]
  | mi {c : Str} {C p dx : Addr} {vs : List (Str × V)} {ds : List (Str × D)} (g : mg c = some (.ref C)) (h : H p = some (.ins C dx vs)) (r : SeeF K mg Φ vs ds) : SlOk K mg Φ H (.ref p) (.mi c ds) [p]

/-- the entry: what stays, the heap, what may change of it -/
structure Bs where
  Φ0 : Hp
  H0 : Hp
  M : List Addr
  Dn : List Addr
  dp : Addr := 0
  dq : Addr := 0

structure BOk (T : List (Addr × Str)) (B : Bs) (Φ H : Hp) : Prop where
  ex : Ex Φ H
  b1 : Ex B.Φ0 Φ
  b2 : ∀ a o, B.H0 a = some o → a ∉ B.M → H a = some o
  b3 : ∀ a, B.H0 a ≠ none → B.Φ0 a = none → Φ a = none
  b4 : ∀ a, B.H0 a ≠ none → H a ≠ none
  b5 : ∀ a ∈ B.Dn, H a ≠ none
  tb : LamX.Tabs T H
  tn : ∀ p ∈ T, Φ p.1 = none
  tM : ∀ p ∈ T, p.1 ∈ B.M

structure NdOk (K : PySem.W.Frag) (mg : Str → Option Value) (B : Bs) (Φ H : Hp) (σ : L2.St) (ρ : S) (nd : Nat → List Addr) : Prop where
  at_ : ∀ i s, ρ[i]? = some (some s) → ∃ v, σ[i]? = some (some v) ∧ SlOk K mg Φ H v s (nd i)
  own : ∀ i a, a ∈ nd i → Φ a = none ∧ H a ≠ none ∧ (B.H0 a = none ∨ a ∈ B.M)
  inj : ∀ i j a, a ∈ nd i → a ∈ nd j → i = j
  emp : ∀ i, (∀ s, ρ[i]? ≠ some (some s)) → nd i = []
  own2 : ∀ i a ds, a ∈ nd i → ρ[i]? = some (some (.ml ds)) → a ∉ B.Dn
  dr0 : ∀ i s l, ρ[i]? = some (some s) → s.fx B.dp B.dq = some l → nd i = l

structure SOk (K : PySem.W.Frag) (mg : Str → Option Value) (T : List (Addr × Str)) (B : Bs) (Φ H : Hp) (σ : L2.St) (ρ : S) : Prop extends BOk T B Φ H where
  len : ρ.length = σ.length
  nds : ∃ nd, NdOk K mg B Φ H σ ρ nd

/-- what stays grows, nothing that was known changes -/
structure Gr (Φ H Φ' H' : Hp) : Prop where
  p : Ex Φ Φ'
  h : Ex H H'
  ex : Ex Φ' H'
  nm : ∀ a, Φ a = none → H a ≠ none → Φ' a = none
section
variable {K : PySem.W.Frag} {mg : Str → Option Value} {T : List (Addr × Str)} {Φ Φ' Φ2 H H' H2 : Hp} {B : Bs} {σ : L2.St} {ρ : S}
theorem not_none {H : Hp} {a : Addr} {o : HO} (h : H a = some o) : H a ≠ none := fun z => by rw [h] at z; cases z
theorem of_not_none {H : Hp} {a : Addr} (h : H a ≠ none) : ∃ o, H a = some o := by
  cases e : H a with
  | none => exact absurd e h
  | some o => exact ⟨o, rfl⟩
theorem Ex.nn (e : Ex H H') {a : Addr} (h : H a ≠ none) : H' a ≠ none := by
  obtain ⟨o, q⟩ := of_not_none h
  exact not_none (e a o q)
theorem Gr.refl (h : Ex Φ H) : Gr Φ H Φ H := ⟨Ex.refl _, Ex.refl _, h, fun _ z _ => z⟩
theorem Gr.trans (a : Gr Φ H Φ' H') (b : Gr Φ' H' Φ2 H2) : Gr Φ H Φ2 H2 :=
  ⟨a.p.trans b.p, a.h.trans b.h, b.ex, fun x n q => b.nm x (a.nm x n q) (a.h.nn q)⟩
theorem Ex.none {e : Ex Φ H} {a : Addr} (h : H a = Option.none) : Φ a = Option.none := by
  cases q : Φ a with
  | none => rfl
  | some o => rw [e a o q] at h; cases h
theorem tab_nn (t : LamX.Tabs T H) {p : Addr × Str} (hp : p ∈ T) : H p.1 ≠ none := by
  obtain ⟨ps, e, _⟩ := t p hp
  exact not_none e
/-- a list or dict is written: no table -/
def Plain (H : Hp) (p : Addr) : Prop := (∃ vs, H p = some (.lst vs)) ∨ (∃ vs, H p = some (.dK vs)) ∨ (∃ vs, H p = some (.dT vs)) ∨ ∃ C dx vs, H p = some (.ins C dx vs)
theorem Plain.tbl {p : Addr} (h : Plain H p) (ps : Array Value) : H p ≠ some (.tbl ps) := fun z => by
  rcases h with ⟨_, e⟩ | ⟨_, e⟩ | ⟨_, e⟩ | ⟨_, _, _, e⟩ <;> (rw [e] at z; cases z)
theorem Plain.code {p : Addr} (h : Plain H p) (c : Addr) (q : Str) : H p ≠ some (LamX.CodeO c q) := fun z => by
  rcases h with ⟨_, e⟩ | ⟨_, e⟩ | ⟨_, e⟩ | ⟨_, _, _, e⟩ <;> (rw [e] at z; unfold LamX.CodeO at z; cases z)
theorem tabs_upd {p : Addr} {o : HO} (t : LamX.Tabs T H) (h : Plain H p) : LamX.Tabs T (L2.upd H p o) := fun x hx => by
  obtain ⟨ps, e1, e2, e3⟩ := t x hx
  refine ⟨ps, ?_, e2, fun pos cv hc => ?_⟩
  · rw [upd_ne (fun z => h.tbl ps (by rw [← z]; exact e1))]; exact e1
  · obtain ⟨c, f1, f2⟩ := e3 pos cv hc
    refine ⟨c, f1, ?_⟩
    rw [upd_ne (fun z => h.code c _ (by rw [← z]; exact f2))]; exact f2
/-- a new object that stays -/
theorem Gr.new (ex : Ex Φ H) {p : Addr} {o : HO} (n : H p = none) : Gr Φ H (upd Φ p o) (upd H p o) where
  p := Ex.new (Ex.none (e := ex) n)
  h := Ex.new n
  ex := fun a u e => by
    by_cases z : a = p
    · subst z; rw [upd_same] at e ⊢; exact e
    · rw [upd_ne z] at e ⊢; exact ex a u e
  nm := fun a z q => by
    have : a ≠ p := fun w => q (w ▸ n)
    rw [upd_ne this]; exact z
/-- a new object of one's own -/
theorem Gr.newM (ex : Ex Φ H) {p : Addr} {o : HO} (n : H p = none) : Gr Φ H Φ (upd H p o) where
  p := Ex.refl _
  h := Ex.new n
  ex := ex.trans (Ex.new n)
  nm := fun a z _ => z
theorem SlOk.mono {v : V} {s : Sl} {A : List Addr} (p : Ex Φ Φ') (h : ∀ a ∈ A, ∀ o, H a = some o → H' a = some o) (x : SlOk K mg Φ H v s A) : SlOk K mg Φ' H' v s A := by
  cases x with
  | fz r => exact .fz (See.mono p r)
  | ml e r => exact .ml (h _ (by simp) _ e) (SeeAll.mono p r)
  | md e r => exact .md (h _ (by simp) _ e) (SeeK.mono p r)
  | mt e r => exact .mt (h _ (by simp) _ e) (SeeT.mono p r)
  | dr r =>
    obtain ⟨⟨c, e1, e2⟩, e3, ne⟩ := r
    exact .dr ⟨⟨c, h _ (by simp) _ e1, p _ _ e2⟩, h _ (by simp) _ e3, ne⟩
  | mi g e r => exact .mi g (h _ (by simp) _ e) (SeeF.mono p r)
theorem NdOk.mono {nd : Nat → List Addr} (x : NdOk K mg B Φ H σ ρ nd) (p : Ex Φ Φ') (h : ∀ i, ∀ a ∈ nd i, ∀ o, H a = some o → H' a = some o) (nm : ∀ i, ∀ a ∈ nd i, Φ' a = none) : NdOk K mg B Φ' H' σ ρ nd where
  at_ := fun i s e => by
    obtain ⟨v, e1, e2⟩ := x.at_ i s e
    exact ⟨v, e1, e2.mono p (h i)⟩
  own := fun i a m => by
    obtain ⟨e1, e2, e3⟩ := x.own i a m
    obtain ⟨o, q⟩ := of_not_none e2
    exact ⟨nm i a m, not_none (h i a m o q), e3⟩
  inj := x.inj
  emp := x.emp
  own2 := x.own2
  dr0 := x.dr0
theorem BOk.grow (b : BOk T B Φ H) (g : Gr Φ H Φ' H') : BOk T B Φ' H' where
  ex := g.ex
  b1 := b.b1.trans g.p
  b2 := fun a o e m => g.h a o (b.b2 a o e m)
  b3 := fun a e n => g.nm a (b.b3 a e n) (b.b4 a e)
  b4 := fun a e => g.h.nn (b.b4 a e)
  b5 := fun a e => g.h.nn (b.b5 a e)
  tb := b.tb.ext g.h
  tn := fun p hp => g.nm _ (b.tn p hp) (tab_nn b.tb hp)
  tM := b.tM
theorem SOk.grow (s : SOk K mg T B Φ H σ ρ) (g : Gr Φ H Φ' H') : SOk K mg T B Φ' H' σ ρ := by
  obtain ⟨b, len, nd, x⟩ := s
  exact ⟨b.grow g, len, nd, x.mono g.p (fun _ a _ o e => g.h a o e) fun i a m => g.nm a (x.own i a m).1 (x.own i a m).2.1⟩
/-- a slot is given a value that stays -/
theorem SOk.set (s : SOk K mg T B Φ H σ ρ) (i : Nat) {v : V} {d : D} (h : See K mg Φ v d) : SOk K mg T B Φ H (σ.set i (some v)) (ρ.set i (some (.fz d))) := by
  obtain ⟨b, len, nd, x⟩ := s
  refine ⟨b, by simpa using len, fun j => if j = i then [] else nd j, ⟨fun j s e => ?_, fun j a m => ?_, fun j k a m1 m2 => ?_, fun j n => ?_, fun j a ds m e => ?_, fun j s' l e hl => ?_⟩⟩
  · by_cases z : j = i
    · subst z
      by_cases lt : j < ρ.length
      · rw [List.getElem?_set_self lt] at e
        cases e
        refine ⟨v, List.getElem?_set_self (by rw [← len]; exact lt), ?_⟩
        rw [if_pos rfl]
        exact .fz h
      · rw [List.getElem?_eq_none (by simpa using lt)] at e; cases e
    · rw [List.getElem?_set_ne (Ne.symm z)] at e
      obtain ⟨w, e1, e2⟩ := x.at_ j s e
      refine ⟨w, by rw [List.getElem?_set_ne (Ne.symm z)]; exact e1, ?_⟩
      rw [if_neg z]
      exact e2
  · by_cases z : j = i
    · rw [if_pos z] at m; cases m
    · rw [if_neg z] at m; exact x.own j a m
  · by_cases z : j = i
    · rw [if_pos z] at m1; cases m1
    · by_cases z2 : k = i
      · rw [if_pos z2] at m2; cases m2
      · rw [if_neg z] at m1; rw [if_neg z2] at m2; exact x.inj j k a m1 m2
  · by_cases z : j = i
    · show (if j = i then [] else nd j) = []
      rw [if_pos z]
    · show (if j = i then [] else nd j) = []
      rw [if_neg z]
      exact x.emp j fun s e => n s (by rw [List.getElem?_set_ne (Ne.symm z)]; exact e)
  · by_cases z : j = i
    · rw [if_pos z] at m; cases m
    · rw [if_neg z] at m; rw [List.getElem?_set_ne (Ne.symm z)] at e; exact x.own2 j a ds m e
  · by_cases z : j = i
    · subst z
      by_cases lt : j < ρ.length
      · rw [List.getElem?_set_self lt] at e; cases e; cases hl
      · rw [List.getElem?_eq_none (by simpa using lt)] at e; cases e
    · show (if j = i then [] else nd j) = _
      rw [if_neg z]; rw [List.getElem?_set_ne (Ne.symm z)] at e; exact x.dr0 j s' l e hl
/-- a slot is given a thing of its own -/
theorem SOk.setO (s : SOk K mg T B Φ H σ ρ) (i : Nat) {v : V} {sl : Sl} {A : List Addr} (hi : i < ρ.length) (hn : ∀ nd, NdOk K mg B Φ H σ ρ nd → ∀ j, j ≠ i → ∀ a ∈ A, a ∉ nd j) (h0 : ∀ a ∈ A, B.H0 a = none ∧ Φ a = none ∧ H a ≠ none ∧ a ∉ B.Dn) (h : SlOk K mg Φ H v sl A) (hdr : ∀ l, sl.fx B.dp B.dq = some l → A = l) :
    SOk K mg T B Φ H (σ.set i (some v)) (ρ.set i (some sl)) := by
  obtain ⟨b, len, nd, x⟩ := s
  have hn := hn nd x
  refine ⟨b, by simpa using len, fun j => if j = i then A else nd j, ⟨fun j s e => ?_, fun j a m => ?_, fun j k a m1 m2 => ?_, fun j n => ?_, fun j a ds m e => ?_, fun j s' l e hl => ?_⟩⟩
  · by_cases z : j = i
    · subst z
      by_cases lt : j < ρ.length
      · rw [List.getElem?_set_self lt] at e
        cases e
        refine ⟨_, List.getElem?_set_self (by rw [← len]; exact lt), ?_⟩
        rw [if_pos rfl]
        exact h
      · rw [List.getElem?_eq_none (by simpa using lt)] at e; cases e
    · rw [List.getElem?_set_ne (Ne.symm z)] at e
      obtain ⟨w, e1, e2⟩ := x.at_ j s e
      refine ⟨w, by rw [List.getElem?_set_ne (Ne.symm z)]; exact e1, ?_⟩
      rw [if_neg z]
      exact e2
  · by_cases z : j = i
    · rw [if_pos z] at m
      exact ⟨(h0 a m).2.1, (h0 a m).2.2.1, .inl (h0 a m).1⟩
    · rw [if_neg z] at m; exact x.own j a m
  · by_cases z : j = i
    · rw [if_pos z] at m1
      by_cases z2 : k = i
      · rw [z, z2]
      · rw [if_neg z2] at m2; exact absurd m2 (hn k z2 a m1)
    · by_cases z2 : k = i
      · rw [if_pos z2] at m2
        rw [if_neg z] at m1; exact absurd m1 (hn j z a m2)
      · rw [if_neg z] at m1; rw [if_neg z2] at m2; exact x.inj j k a m1 m2
  · by_cases z : j = i
    · exact absurd (by rw [z]; exact List.getElem?_set_self hi) (n sl)
    · show (if j = i then A else nd j) = []
      rw [if_neg z]
      exact x.emp j fun s e => n s (by rw [List.getElem?_set_ne (Ne.symm z)]; exact e)
  · by_cases z : j = i
    · rw [if_pos z] at m; exact (h0 a m).2.2.2
    · rw [if_neg z] at m; rw [List.getElem?_set_ne (Ne.symm z)] at e; exact x.own2 j a ds m e
  · show (if j = i then A else nd j) = _
    by_cases z : j = i
    · subst z
      rw [List.getElem?_set_self hi] at e
      rw [if_pos rfl]
      rw [← Option.some.inj (Option.some.inj e)] at hl
      exact hdr l hl
    · rw [if_neg z]; rw [List.getElem?_set_ne (Ne.symm z)] at e; exact x.dr0 j s' l e hl
theorem SlOk.plain {v : V} {s : Sl} {A : List Addr} (x : SlOk K mg Φ H v s A) : ∀ a ∈ A, Plain H a := fun a m => by
  cases x with
  | fz r => cases m
  | ml e r => rw [List.mem_singleton.mp m]; exact .inl ⟨_, e⟩
  | md e r => rw [List.mem_singleton.mp m]; exact .inr (.inl ⟨_, e⟩)
  | mt e r => rw [List.mem_singleton.mp m]; exact .inr (.inr (.inl ⟨_, e⟩))
  | mi g e r => rw [List.mem_singleton.mp m]; exact .inr (.inr (.inr ⟨_, _, _, e⟩))
  | dr r =>
    obtain ⟨⟨c, e1, e2⟩, e3, ne⟩ := r
    rcases List.mem_cons.mp m with z | z
    · rw [z]; exact .inr (.inl ⟨_, e1⟩)
    · rw [List.mem_singleton.mp z]; exact .inl ⟨_, e3⟩
/-- what a slot holds is changed -/
theorem SOk.upd (s : SOk K mg T B Φ H σ ρ) (i : Nat) {p : Addr} {sl : Sl} {o : HO} {v : V} (hi : σ[i]? = some (some v)) (hp : ∀ nd, NdOk K mg B Φ H σ ρ nd → p ∈ nd i)
    (h : ∀ A, (∃ s0, ρ[i]? = some (some s0) ∧ SlOk K mg Φ H v s0 A) → SlOk K mg Φ (upd H p o) v sl A) (hs : ∃ s0, ρ[i]? = some (some s0)) (hd : ∀ ds, sl = .ml ds → ∃ es, ρ[i]? = some (some (.ml es)))
    (hdr : ∀ l, sl.fx B.dp B.dq = some l → ∃ s', ρ[i]? = some (some s') ∧ s'.fx B.dp B.dq = some l) : SOk K mg T B Φ (upd H p o) σ (ρ.set i (some sl)) := by
  obtain ⟨b, len, nd, x⟩ := s
  have hp := hp nd x
  obtain ⟨o1, o2, o3⟩ := x.own i p hp
  have nb : ∀ a o', B.H0 a = some o' → a ∉ B.M → a ≠ p := fun a o' e m z => by
    subst z
    rcases o3 with q | q
    · rw [q] at e; cases e
    · exact m q
  have nn : ∀ a, H a ≠ none → L2.upd H p o a ≠ none := fun a e => by
    by_cases z : a = p
    · subst z; rw [upd_same]; exact fun w => by cases w
    · rw [upd_ne z]; exact e
  have pl : Plain H p := by
    obtain ⟨s0, e0⟩ := hs
    obtain ⟨w, e1, e2⟩ := x.at_ i s0 e0
    exact e2.plain p hp
  refine ⟨⟨fun a u e => ?_, b.b1, fun a u e m => ?_, b.b3, fun a e => nn a (b.b4 a e), fun a e => nn a (b.b5 a e), tabs_upd b.tb pl, b.tn, b.tM⟩, by simpa using len, nd, ⟨fun j s e => ?_, fun j a m => ?_, x.inj, fun j n => x.emp j fun s e => ?_, fun j a ds m e => ?_, fun j s' l e hl => ?_⟩⟩
  · rw [upd_ne (fun z => by subst z; rw [o1] at e; cases e)]
    exact b.ex a u e
  · rw [upd_ne (nb a u e m)]
    exact b.b2 a u e m
  · by_cases z : j = i
    · subst z
      have lt : j < ρ.length := by
        obtain ⟨s0, e0⟩ := hs
        exact (List.getElem?_eq_some_iff.mp e0).1
      rw [List.getElem?_set_self lt] at e
      cases e
      obtain ⟨s0, e0⟩ := hs
      obtain ⟨w, e1, e2⟩ := x.at_ j s0 e0
      rw [hi] at e1
      cases e1
      exact ⟨v, hi, h (nd j) ⟨s0, e0, e2⟩⟩
    · rw [List.getElem?_set_ne (Ne.symm z)] at e
      obtain ⟨w, e1, e2⟩ := x.at_ j s e
      refine ⟨w, e1, e2.mono (Ex.refl _) fun a m o' e' => ?_⟩
      have ne : a ≠ p := fun w => z (x.inj j i p (by rw [← w]; exact m) hp)
      rw [upd_ne ne]
      exact e'
  · obtain ⟨e1, e2, e3⟩ := x.own j a m
    exact ⟨e1, nn a e2, e3⟩
  · by_cases z : j = i
    · exact n sl (by rw [z]; exact List.getElem?_set_self (List.getElem?_eq_some_iff.mp (z ▸ e)).1)
    · exact n s (by rw [List.getElem?_set_ne (Ne.symm z)]; exact e)
  · by_cases z : j = i
    · subst z
      have lt : j < ρ.length := by
        obtain ⟨s0, e0⟩ := hs
        exact (List.getElem?_eq_some_iff.mp e0).1
      rw [List.getElem?_set_self lt] at e
      obtain ⟨es, q⟩ := hd ds (Option.some.inj (Option.some.inj e))
      exact x.own2 j a es m q
    · rw [List.getElem?_set_ne (Ne.symm z)] at e
      exact x.own2 j a ds m e
  · by_cases z : j = i
    · subst z
      have lt : j < ρ.length := by
        obtain ⟨s0, e0⟩ := hs
        exact (List.getElem?_eq_some_iff.mp e0).1
      rw [List.getElem?_set_self lt] at e
      rw [← Option.some.inj (Option.some.inj e)] at hl
      obtain ⟨es, q, q2⟩ := hdr l hl
      exact x.dr0 j es l q q2
    · rw [List.getElem?_set_ne (Ne.symm z)] at e
      exact x.dr0 j s' l e hl
theorem SlOk.nodes {v : V} {s : Sl} {A A' : List Addr} (x : SlOk K mg Φ H v s A) (y : SlOk K mg Φ' H v s A') : A = A' := by
  cases x with
  | fz _ => cases y; rfl
  | ml _ _ => cases y; rfl
  | md _ _ => cases y; rfl
  | mt _ _ => cases y; rfl
  | dr r =>
    cases y with
    | dr r' =>
      obtain ⟨⟨c, e, _⟩, _, _⟩ := r
      obtain ⟨⟨c', e', _⟩, _, _⟩ := r'
      rw [e] at e'
      cases e'
      rfl
  | mi _ _ _ => cases y; rfl
theorem NdOk.uniq {nd nd' : Nat → List Addr} (x : NdOk K mg B Φ H σ ρ nd) (y : NdOk K mg B Φ' H σ ρ nd') : nd = nd' := by
  funext i
  by_cases z : ∃ s, ρ[i]? = some (some s)
  · obtain ⟨s, e⟩ := z
    obtain ⟨v, e1, e2⟩ := x.at_ i s e
    obtain ⟨w, f1, f2⟩ := y.at_ i s e
    rw [e1] at f1
    cases f1
    exact e2.nodes f2
  · rw [x.emp i fun s e => z ⟨s, e⟩, y.emp i fun s e => z ⟨s, e⟩]
/-- what nobody owns is changed -/
theorem SOk.updX {D : Addr} {o : HO} (s : SOk K mg T B Φ H σ ρ) (hn : ∀ nd, NdOk K mg B Φ H σ ρ nd → ∀ j, D ∉ nd j) (hΦ : Φ D = none) (h0 : B.H0 D = none) (pl : Plain H D) : SOk K mg T B Φ (L2.upd H D o) σ ρ ∧ ∀ nd, NdOk K mg B Φ (L2.upd H D o) σ ρ nd → ∀ j, D ∉ nd j := by
  obtain ⟨b, len, nd, x⟩ := s
  have ne : ∀ j a, a ∈ nd j → a ≠ D := fun j a m z => hn nd x j (z ▸ m)
  have nn : ∀ a, H a ≠ none → L2.upd H D o a ≠ none := fun a e => by
    by_cases z : a = D
    · subst z; rw [upd_same]; exact fun w => by cases w
    · rw [upd_ne z]; exact e
  have x2 : NdOk K mg B Φ (L2.upd H D o) σ ρ nd := by
    refine ⟨fun i s e => ?_, fun i a m => ⟨(x.own i a m).1, nn a (x.own i a m).2.1, (x.own i a m).2.2⟩, x.inj, x.emp, x.own2, x.dr0⟩
    obtain ⟨v, e1, e2⟩ := x.at_ i s e
    exact ⟨v, e1, e2.mono (Ex.refl _) fun a m o' e' => by rw [upd_ne (ne i a m)]; exact e'⟩
  refine ⟨⟨⟨fun a u e => ?_, b.b1, fun a u e m => ?_, b.b3, fun a e => nn a (b.b4 a e), fun a e => nn a (b.b5 a e), tabs_upd b.tb pl, b.tn, b.tM⟩, len, nd, x2⟩, fun nd' y j => ?_⟩
  · rw [upd_ne (fun z => by subst z; rw [hΦ] at e; cases e)]
    exact b.ex a u e
  · rw [upd_ne (fun z => by subst z; rw [h0] at e; cases e)]
    exact b.b2 a u e m
  · rw [y.uniq x2]; exact hn nd x j
/-- another ground: what is owned now may change, all else stays -/
theorem SOk.rebase (s : SOk K mg T B Φ H σ ρ) : ∃ M, (∀ a, (∀ nd, NdOk K mg B Φ H σ ρ nd → ∀ j, a ∉ nd j) → (∀ ps, H a ≠ some (.tbl ps)) → a ∉ M) ∧ SOk K mg T ⟨Φ, H, M, B.Dn, B.dp, B.dq⟩ Φ H σ ρ ∧
    ∀ Φ' H' σ' ρ', SOk K mg T ⟨Φ, H, M, B.Dn, B.dp, B.dq⟩ Φ' H' σ' ρ' → SOk K mg T B Φ' H' σ' ρ' := by
  obtain ⟨b, len, nd, x⟩ := id s
  have mem : ∀ i a, a ∈ nd i → a ∈ (List.range ρ.length).flatMap nd := fun i a m => by
    by_cases lt : i < ρ.length
    · exact List.mem_flatMap.mpr ⟨i, List.mem_range.mpr lt, m⟩
    · have z : nd i = [] := x.emp i fun s e => by rw [List.getElem?_eq_none (Nat.le_of_not_lt lt)] at e; cases e
      rw [z] at m; cases m
  have back : ∀ a, a ∈ (List.range ρ.length).flatMap nd ++ T.map (·.1) → B.H0 a = none ∨ a ∈ B.M := fun a m => by
    rcases List.mem_append.mp m with m | m
    · obtain ⟨i, _, m⟩ := List.mem_flatMap.mp m
      exact (x.own i a m).2.2
    · obtain ⟨p, hp, e⟩ := List.mem_map.mp m
      rw [← e]; exact .inr (b.tM p hp)
  refine ⟨(List.range ρ.length).flatMap nd ++ T.map (·.1), fun a h ht m => ?_, ⟨⟨b.ex, Ex.refl _, fun a o e _ => e, fun a _ e => e, fun a e => e, b.b5, b.tb, b.tn, fun p hp => List.mem_append_right _ (List.mem_map.mpr ⟨p, hp, rfl⟩)⟩,
    len, nd, ⟨x.at_, fun i a m => ⟨(x.own i a m).1, (x.own i a m).2.1, .inr (List.mem_append_left _ (mem i a m))⟩, x.inj, x.emp, x.own2, x.dr0⟩⟩, fun Φ' H' σ' ρ' s' => ?_⟩
  · rcases List.mem_append.mp m with m | m
    · obtain ⟨i, _, m⟩ := List.mem_flatMap.mp m; exact h nd x i m
    · obtain ⟨p, hp, e⟩ := List.mem_map.mp m
      obtain ⟨ps, e1, _⟩ := b.tb p hp
      rw [e] at e1
      exact ht ps e1
  obtain ⟨b', len', nd', x'⟩ := s'
  refine ⟨⟨b'.ex, b.b1.trans b'.b1, fun a o e m => b'.b2 a o (b.b2 a o e m) fun w => ?_, fun a e n => b'.b3 a (b.b4 a e) (b.b3 a e n), fun a e => b'.b4 a (b.b4 a e), b'.b5, b'.tb, b'.tn, b.tM⟩, len', nd', ⟨x'.at_, fun i a m => ?_, x'.inj, x'.emp, x'.own2, x'.dr0⟩⟩
  · rcases back a w with q | q
    · rw [q] at e; cases e
    · exact m q
  · obtain ⟨e1, e2, e3⟩ := x'.own i a m
    refine ⟨e1, e2, ?_⟩
    rcases e3 with q | q
    · refine .inl ?_
      cases w : B.H0 a with
      | none => rfl
      | some o => exact absurd q (b.b4 a (not_none w))
    · exact back a q
end
end TP
set_option Elab.async false
set_option linter.all false
set_option maxRecDepth 100000
/-! Tree programs: judgements, expressions. -/
namespace TP
open PySem L2 PyProof.Rows PySem.Spec

/-- readable: a value that stays, or a list or dict of one's own -/
inductive SeeB (K : PySem.W.Frag) (mg : Str → Option Value) (Φ H : Hp) : V → D → Prop
  | fz {v : V} {d : D} (h : See K mg Φ v d) : SeeB K mg Φ H v d
  | ml {p : Addr} {vs : List V} {ds : List D} (h : H p = some (.lst vs)) (r : SeeAll K mg Φ vs ds) : SeeB K mg Φ H (.ref p) (.lst ds)
  | md {p : Addr} {vs : List (Key × V)} {ds : List (Key × D)} (h : H p = some (.dK vs)) (r : SeeK K mg Φ vs ds) : SeeB K mg Φ H (.ref p) (.dic ds)
  | mt {p : Addr} {vs : List (List Key × V)} {ds : List (List Key × D)} (h : H p = some (.dT vs)) (r : SeeT K mg Φ vs ds) : SeeB K mg Φ H (.ref p) (.dit ds)
/-- an exception as it is raised -/
def XOk (K : PySem.W.Frag) (mg : Str → Option Value) (Φ : Hp) (x : Exn) (c : Value) (dd : Option Addr) : Prop :=
  ∃ C, mg x.c = some (.ref C) ∧ c = .ref C ∧ ((x.fs = [] ∧ dd = none) ∨ ∃ d fs, dd = some d ∧ Φ d = some (.xd fs) ∧ SeeF K mg Φ fs x.fs)

section
variable (K : PySem.W.Frag) (mg : Str → Option Value) (E : XK) (Φ H : Hp)
/-- the raising way -/
def PostX (x : Exn) : Prop := ∀ Φ' H' c dd, Gr Φ H Φ' H' → XOk K mg Φ' x c dd → E c dd H'
def PostE (r : R D) (Q : VK) : Prop := match r with
  | .ok d => ∀ v Φ' H', Gr Φ H Φ' H' → See K mg Φ' v d → Q v H'
  | .raise x => PostX K mg E Φ H x
  | .stuck => False
def PostB (r : R D) (Q : VK) : Prop := match r with
  | .ok d => ∀ v Φ' H', Gr Φ H Φ' H' → SeeB K mg Φ' H' v d → Q v H'
  | .raise x => PostX K mg E Φ H x
  | .stuck => False
def PostN (r : R (List D)) (Q : VK) : Prop := match r with
  | .ok ds => ∀ p vs Φ' H', Gr Φ H Φ' H' → H p = none → Φ' p = none → H' p = some (.lst vs) → SeeAll K mg Φ' vs ds → Q (.ref p) H'
  | .raise x => PostX K mg E Φ H x
  | .stuck => False
def PostT (r : R Bool) (Q : Bool → Hp → Prop) : Prop := match r with
  | .ok b => ∀ Φ' H', Gr Φ H Φ' H' → Q b H'
  | .raise x => PostX K mg E Φ H x
  | .stuck => False
def PostA (r : R (List D)) (Q : List V → Hp → Prop) : Prop := match r with
  | .ok ds => ∀ vs Φ' H', Gr Φ H Φ' H' → SeeAll K mg Φ' vs ds → Q vs H'
  | .raise x => PostX K mg E Φ H x
  | .stuck => False
end
section
variable (K : PySem.W.Frag) (mg : Str → Option Value) (E : XK) (T : List (Addr × Str))
def ImpE (t : TE) (f : S → R D) : Prop := ∀ B Φ H σ ρ, SOk K mg T B Φ H σ ρ → ∀ Q, PostE K mg E Φ H (f ρ) Q → t σ H Q
def ImpB (t : TE) (f : S → R D) : Prop := ∀ B Φ H σ ρ, SOk K mg T B Φ H σ ρ → ∀ Q, PostB K mg E Φ H (f ρ) Q → t σ H Q
def ImpN (t : TE) (f : S → R (List D)) : Prop := ∀ B Φ H σ ρ, SOk K mg T B Φ H σ ρ → ∀ Q, PostN K mg E Φ H (f ρ) Q → t σ H Q
def ImpT (t : TT) (f : S → R Bool) : Prop := ∀ B Φ H σ ρ, SOk K mg T B Φ H σ ρ → ∀ Q, PostT K mg E Φ H (f ρ) Q → t σ H Q
def ImpA (t : TA) (f : S → R (List D)) : Prop := ∀ B Φ H σ ρ, SOk K mg T B Φ H σ ρ → ∀ Q, PostA K mg E Φ H (f ρ) Q → t σ H Q
/-- an expression whose value stays; one that may be read; a new list; a test; arguments -/
structure DE (X : Cx) (e : Expr) (t : TE) (f : S → R D) : Prop where
  k : X.K = K
  m : X.mg = mg
  pe : PE X e t
  imp : ImpE K mg E T t f
structure DB (X : Cx) (e : Expr) (t : TE) (f : S → R D) : Prop where
  k : X.K = K
  m : X.mg = mg
  pe : PE X e t
  imp : ImpB K mg E T t f
structure DN (X : Cx) (e : Expr) (t : TE) (f : S → R (List D)) : Prop where
  k : X.K = K
  m : X.mg = mg
  pe : PE X e t
  imp : ImpN K mg E T t f
structure DT (X : Cx) (e : Expr) (t : TT) (f : S → R Bool) : Prop where
  k : X.K = K
  m : X.mg = mg
  pe : PT X e t
  imp : ImpT K mg E T t f
structure DW (X : Cx) (e : Expr) (t : TT) (f : S → R Bool) : Prop where
  k : X.K = K
  m : X.mg = mg
  pe : PW X e t
  imp : ImpT K mg E T t f
structure DA (X : Cx) (es : List Expr) (t : TA) (f : S → R (List D)) : Prop where
  k : X.K = K
  m : X.mg = mg
  pe : PA X es t
  imp : ImpA K mg E T t f
end

section
variable {K : PySem.W.Frag} {mg : Str → Option Value} {T : List (Addr × Str)} {E : XK} {Φ Φ' H H' : Hp} {Q Q' : VK} {r : R D}
theorem SeeB.grow {v : V} {d : D} (g : Gr Φ H Φ' H') (x : SeeB K mg Φ H v d) : SeeB K mg Φ' H' v d := by
  cases x with
  | fz h => exact .fz (See.mono g.p h)
  | ml h r => exact .ml (g.h _ _ h) (SeeAll.mono g.p r)
  | md h r => exact .md (g.h _ _ h) (SeeK.mono g.p r)
  | mt h r => exact .mt (g.h _ _ h) (SeeT.mono g.p r)
theorem PostX.grow {x : Exn} (g : Gr Φ H Φ' H') (h : PostX K mg E Φ H x) : PostX K mg E Φ' H' x := fun Φ2 H2 c dd g2 xo => h Φ2 H2 c dd (g.trans g2) xo
theorem PostX.none {x : Exn} (g : Ex Φ H) (h : PostX K mg (fun _ _ _ => False) Φ H x) (c : ∃ C, mg x.c = some (.ref C)) (n : x.fs = []) : False := by
  obtain ⟨C, e⟩ := c
  exact h Φ H _ _ (Gr.refl g) ⟨C, e, rfl, .inl ⟨n, rfl⟩⟩
/-- sequencing -/
theorem PostB.bind {f : R D} {g : D → R D} (h : PostE K mg E Φ H (f.bind g) Q) (k : ∀ d, f = .ok d → ∀ v Φ' H', Gr Φ H Φ' H' → SeeB K mg Φ' H' v d → PostE K mg E Φ' H' (g d) Q → Q' v H')  : PostB K mg E Φ H f Q' := by
  cases f with
  | ok d =>
    intro v Φ' H' gr sb
    refine k d rfl v Φ' H' gr sb ?_
    have h : PostE K mg E Φ H (g d) Q := h
    cases e : g d with
    | ok d2 => rw [e] at h; exact fun v2 Φ2 H2 g2 s2 => h v2 Φ2 H2 (gr.trans g2) s2
    | raise x => rw [e] at h; exact PostX.grow gr h
    | stuck => rw [e] at h; exact h
  | raise x => exact h
  | stuck => exact h
theorem PostE.grow (g : Gr Φ H Φ' H') (h : PostE K mg E Φ H r Q) : PostE K mg E Φ' H' r Q := by
  cases r with
  | ok d => exact fun v2 Φ2 H2 g2 s2 => h v2 Φ2 H2 (g.trans g2) s2
  | raise x => exact PostX.grow g h
  | stuck => exact h
theorem PostB.grow (g : Gr Φ H Φ' H') (h : PostB K mg E Φ H r Q) : PostB K mg E Φ' H' r Q := by
  cases r with
  | ok d => exact fun v2 Φ2 H2 g2 s2 => h v2 Φ2 H2 (g.trans g2) s2
  | raise x => exact PostX.grow g h
  | stuck => exact h
theorem PostT.grow {r : R Bool} {Q : Bool → Hp → Prop} (g : Gr Φ H Φ' H') (h : PostT K mg E Φ H r Q) : PostT K mg E Φ' H' r Q := by
  cases r with
  | ok d => exact fun Φ2 H2 g2 => h Φ2 H2 (g.trans g2)
  | raise x => exact PostX.grow g h
  | stuck => exact h
theorem PostA.grow {r : R (List D)} {Q : List V → Hp → Prop} (g : Gr Φ H Φ' H') (h : PostA K mg E Φ H r Q) : PostA K mg E Φ' H' r Q := by
  cases r with
  | ok d => exact fun vs Φ2 H2 g2 s => h vs Φ2 H2 (g.trans g2) s
  | raise x => exact PostX.grow g h
  | stuck => exact h
theorem PostE.ok {v : V} {d : D} (ex : Ex Φ H) (h : PostE K mg E Φ H (.ok d) Q) (s : See K mg Φ v d) : Q v H := h v Φ H (Gr.refl ex) s
/-- a value that stays may be read -/
theorem PostE.ofB (h : PostB K mg E Φ H r Q) : PostE K mg E Φ H r Q := by
  cases r with
  | ok d => exact fun v Φ' H' g s => h v Φ' H' g (.fz s)
  | raise x => exact h
  | stuck => exact h
/-- a new list stays from now on -/
theorem PostN.ofE {r : R (List D)} (h : PostE K mg E Φ H (r.map D.lst) Q) : PostN K mg E Φ H r Q := by
  cases r with
  | ok ds =>
    intro p vs Φ' H' g hn hp hl hs
    have g2 : Gr Φ H (upd Φ' p (.lst vs)) H' := by
      refine ⟨g.p.trans (Ex.new hp), g.h, fun a o e => ?_, fun a n e => ?_⟩
      · by_cases z : a = p
        · subst z; rw [upd_same] at e; cases e; exact hl
        · rw [upd_ne z] at e; exact g.ex a o e
      · have z : a ≠ p := fun w => e (w ▸ hn)
        rw [upd_ne z]; exact g.nm a n e
    exact h _ _ _ g2 (.lst upd_same (SeeAll.mono (Ex.new hp) hs))
  | raise x => exact h
  | stuck => exact h
end

section
variable {K : PySem.W.Frag} {mg : Str → Option Value} {T : List (Addr × Str)} {E : XK} {X : Cx} {a b c e : Expr} {es : List Expr} {ta tb te tc : TE} {tt tu : TT} {f g h : S → R D} {pos : Pos}
theorem DE.toB (x : DE K mg E T X e te f) : DB K mg E T X e te f := ⟨x.k, x.m, x.pe, fun B Φ H σ ρ s Q h => x.imp B Φ H σ ρ s Q (PostE.ofB h)⟩
theorem DN.toE {f : S → R (List D)} (x : DN K mg E T X e te f) : DE K mg E T X e te (fun ρ => (f ρ).map D.lst) := ⟨x.k, x.m, x.pe, fun B Φ H σ ρ s Q h => x.imp B Φ H σ ρ s Q (PostN.ofE h)⟩

/-! ### names, constants -/
def dVar (i : Nat) : S → R D := fun ρ => match ρ[i]? with
  | some (some (.fz d)) => .ok d
  | _ => .stuck
def dVarB (i : Nat) : S → R D := fun ρ => match ρ[i]? with
  | some (some (.fz d)) => .ok d
  | some (some (.ml ds)) => .ok (.lst ds)
  | some (some (.md ds)) => .ok (.dic ds)
  | some (some (.mt ds)) => .ok (.dit ds)
  | _ => .stuck
theorem de_var (i : Nat) {x : Str} (hN : X.N[i]? = some x := by rfl) (hv : Vis X.env.scope x := by first | exact Or.inl rfl | exact Or.inr (Or.inl rfl) | exact Or.inr (Or.inr rfl)) (hk : X.K = K := by rfl) (hm : X.mg = mg := by rfl)
    (hd : (x == ("__debug__" : Str)) = false := by decide) (hcd : (x == ("__classdict__" : Str)) = false := by decide) : DE K mg E T X (.Name x pos) (tVar i) (dVar i) := by
  refine ⟨hk, hm, pe_var hN hv hd hcd, fun B Φ H σ ρ s Q h => ?_⟩
  unfold dVar at h
  split at h
  · rename_i d e
    obtain ⟨nd, n⟩ := s.nds
    obtain ⟨v, e1, e2⟩ := n.at_ i _ e
    generalize nd i = A at e2
    cases e2 with
    | fz r => exact ⟨v, e1, h v Φ H (Gr.refl s.ex) r⟩
  · exact h.elim
theorem db_var (i : Nat) {x : Str} (hN : X.N[i]? = some x := by rfl) (hv : Vis X.env.scope x := by first | exact Or.inl rfl | exact Or.inr (Or.inl rfl) | exact Or.inr (Or.inr rfl)) (hk : X.K = K := by rfl) (hm : X.mg = mg := by rfl)
    (hd : (x == ("__debug__" : Str)) = false := by decide) (hcd : (x == ("__classdict__" : Str)) = false := by decide) : DB K mg E T X (.Name x pos) (tVar i) (dVarB i) := by
  refine ⟨hk, hm, pe_var hN hv hd hcd, fun B Φ H σ ρ s Q h => ?_⟩
  obtain ⟨nd, n⟩ := s.nds
  unfold dVarB at h
  split at h
  · rename_i d e
    obtain ⟨v, e1, e2⟩ := n.at_ i _ e
    generalize nd i = A at e2
    cases e2 with
    | fz r => exact ⟨v, e1, h v Φ H (Gr.refl s.ex) (.fz r)⟩
  · rename_i d e
    obtain ⟨v, e1, e2⟩ := n.at_ i _ e
    generalize nd i = A at e2
    cases e2 with
    | ml q r => exact ⟨_, e1, h _ Φ H (Gr.refl s.ex) (.ml q r)⟩
  · rename_i d e
    obtain ⟨v, e1, e2⟩ := n.at_ i _ e
    generalize nd i = A at e2
    cases e2 with
    | md q r => exact ⟨_, e1, h _ Φ H (Gr.refl s.ex) (.md q r)⟩
  · rename_i d e
    obtain ⟨v, e1, e2⟩ := n.at_ i _ e
    generalize nd i = A at e2
    cases e2 with
    | mt q r => exact ⟨_, e1, h _ Φ H (Gr.refl s.ex) (.mt q r)⟩
  · exact h.elim
def dC (d : D) : S → R D := fun _ => .ok d
theorem imp_c {v : V} {d : D} (h : ∀ Φ, See K mg Φ v d) : ImpE K mg E T (tC v) (dC d) := fun B Φ H σ ρ s Q q => q v Φ H (Gr.refl s.ex) (h Φ)
theorem de_int {i : Int} {j : Nat} (hk : X.K = K := by rfl) (hm : X.mg = mg := by rfl) : DE K mg E T X (.Constant (.int i) j pos) (tC (.int i)) (dC (.int i)) := ⟨hk, hm, pe_int, imp_c fun _ => .int i⟩
theorem de_bl {i : Bool} {j : Nat} (hk : X.K = K := by rfl) (hm : X.mg = mg := by rfl) : DE K mg E T X (.Constant (.bool i) j pos) (tC (.bl i)) (dC (.bl i)) := ⟨hk, hm, pe_bl, imp_c fun _ => .bl i⟩
theorem de_str {i : Str} {j : Nat} (hk : X.K = K := by rfl) (hm : X.mg = mg := by rfl) : DE K mg E T X (.Constant (.str i) j pos) (tC (.str i)) (dC (.str i)) := ⟨hk, hm, pe_str, imp_c fun _ => .str i⟩
theorem de_non {j : Nat} (hk : X.K = K := by rfl) (hm : X.mg = mg := by rfl) : DE K mg E T X (.Constant .none j pos) (tC .non) (dC .non) := ⟨hk, hm, pe_non, imp_c fun _ => .non⟩
/-- a constant of the module, a number -/
theorem de_globI {x : Str} {i : Int} (h : ∃ t, mg x = some (.int i t)) (hg : Gl X x := by rfl) (hk : X.K = K := by rfl) (hm : X.mg = mg := by rfl) (hd : (x == ("__debug__" : Str)) = false := by decide) : DE K mg E T X (.Name x pos) (tC (.int i)) (dC (.int i)) := by
  obtain ⟨t, e⟩ := h
  exact ⟨hk, hm, pe_glob hg (by rw [hm]; exact e) ⟨t, rfl⟩ hd, imp_c fun _ => .int i⟩
theorem de_globS {x z : Str} (h : ∃ t, mg x = some (.str z t)) (hg : Gl X x := by rfl) (hk : X.K = K := by rfl) (hm : X.mg = mg := by rfl) (hd : (x == ("__debug__" : Str)) = false := by decide) : DE K mg E T X (.Name x pos) (tC (.str z)) (dC (.str z)) := by
  obtain ⟨t, e⟩ := h
  exact ⟨hk, hm, pe_glob hg (by rw [hm]; exact e) ⟨t, rfl⟩ hd, imp_c fun _ => .str z⟩

/-! ### two-place operations -/
/-- what an operation does on trees -/
def Op2 (K : PySem.W.Frag) (mg : Str → Option Value) (r : R2) (g : D → D → R D) : Prop :=
  ∀ (Φ H : Hp) (x y : V) (dx dy : D) (Q : VK), Ex Φ H → SeeB K mg Φ H x dx → SeeB K mg Φ H y dy → PostE K mg (fun _ _ _ => False) Φ H (g dx dy) Q → r x y H Q
/-- it raises nothing -/
def NoX {α : Type} (r : R α) : Prop := ∀ x, r ≠ .raise x
def d2 (g : D → D → R D) (f h : S → R D) : S → R D := fun ρ => (f ρ).bind fun x => (h ρ).bind fun y => g x y
theorem PostE.noX {r : R D} (n : NoX r) (h : PostE K mg E Φ H r Q) : PostE K mg (fun _ _ _ => False) Φ H r Q := by
  cases r with
  | ok d => exact h
  | raise x => exact absurd rfl (n x)
  | stuck => exact h
theorem PostB.bindE {Q : VK} {r : R D} {k : D → R D} {Q' : VK} {Φ H : Hp} (h : PostE K mg E Φ H (r.bind k) Q)
    (q : ∀ d v Φ' H', Gr Φ H Φ' H' → SeeB K mg Φ' H' v d → PostE K mg E Φ' H' (k d) Q → Q' v H') : PostB K mg E Φ H r Q' := by
  cases r with
  | ok d => exact fun v Φ' H' g s => q d v Φ' H' g s (PostE.grow g h)
  | raise x => exact h
  | stuck => exact h
theorem imp_d2 {r : R2} {k : D → D → R D} (hr : Op2 K mg r k) (hn : ∀ x y, NoX (k x y)) (ha : ImpB K mg E T ta f) (hb : ImpB K mg E T tb g) : ImpE K mg E T (tOp r ta tb) (d2 k f g) := by
  intro B Φ H σ ρ s Q q
  refine ha B Φ H σ ρ s _ (PostB.bindE q fun dx x Φ1 H1 g1 s1 q1 => ?_)
  refine hb B Φ1 H1 σ ρ (s.grow g1) _ (PostB.bindE q1 fun dy y Φ2 H2 g2 s2 q2 => ?_)
  exact hr Φ2 H2 x y dx dy Q g2.ex (s1.grow g2) s2 (PostE.noX (hn _ _) q2)
theorem de_op {op : Operator} {r : R2} {k : D → D → R D} (ho : OpR X (binaryOp op) r) (hr : Op2 K mg r k) (hn : ∀ x y, NoX (k x y)) (ha : DB K mg E T X a ta f) (hb : DB K mg E T X b tb g) :
    DE K mg E T X (.BinOp a op b pos) (tOp r ta tb) (d2 k f g) := ⟨ha.k, ha.m, pe_op ho ha.pe hb.pe, imp_d2 hr hn ha.imp hb.imp⟩
theorem de_cmp {op : CmpOp} {r : R2} {k : D → D → R D} (ho : OpR X (compareOp op) r) (hr : Op2 K mg r k) (hn : ∀ x y, NoX (k x y)) (ha : DB K mg E T X a ta f) (hb : DB K mg E T X b tb g) (hm : behindInMarks op b = false) :
    DE K mg E T X (.Compare a [op] [b] pos) (tOp r ta tb) (d2 k f g) := ⟨ha.k, ha.m, pe_cmpR ho ha.pe hb.pe hm, imp_d2 hr hn ha.imp hb.imp⟩
def asB : D → R Bool
  | .bl b => .ok b
  | _ => .stuck
def dT (f : S → R D) : S → R Bool := fun ρ => (f ρ).bind asB
theorem asB_noX : ∀ d, NoX (asB d) := fun d x => by cases d <;> exact fun z => by cases z
theorem PostT.bindE {r : R D} {Q : Bool → Hp → Prop} {Φ H : Hp} (h : PostT K mg E Φ H (r.bind asB) Q) : PostE K mg E Φ H r (fun x H' => ∃ k, x = .bl k ∧ Q k H') := by
  cases r with
  | ok d =>
    intro v Φ' H' g s
    cases d with
    | bl b => cases s; exact ⟨b, rfl, h Φ' H' g⟩
    | _ => exact False.elim h
  | raise x => exact h
  | stuck => exact h
theorem imp_test (ha : ImpE K mg E T te f) : ImpT K mg E T (tTest te) (dT f) := fun B Φ H σ ρ s Q q => ha B Φ H σ ρ s _ (PostT.bindE q)
theorem dt_cmp {op : CmpOp} {r : R2} {k : D → D → R D} (ho : OpR X (compareOp op) r) (hr : Op2 K mg r k) (hn : ∀ x y, NoX (k x y)) (ha : DB K mg E T X a ta f) (hb : DB K mg E T X b tb g) (hm : behindInMarks op b = false) :
    DT K mg E T X (.Compare a [op] [b] pos) (tTest (tOp r ta tb)) (dT (d2 k f g)) := ⟨ha.k, ha.m, pt_cmpR ho ha.pe hb.pe hm, imp_test (imp_d2 hr hn ha.imp hb.imp)⟩
/-- an expression that is True or False, as a test -/
theorem dt_val (h : DE K mg E T X e te f) (he : ∀ whole, isTrue e X.env whole = (do let v ← whole; standAt e.pos; holding [v] (truthy v)) := by intro _; rfl) : DT K mg E T X e (tB te) (dT f) :=
  ⟨h.k, h.m, pt_val h.pe he, fun B Φ H σ ρ s Q q => h.imp B Φ H σ ρ s _ (PostT.bindE q)⟩
/-! ### and, or, not, if -/
def dAnd (f g : S → R Bool) : S → R Bool := fun ρ => (f ρ).bind fun x => if x then g ρ else .ok false
def dOr (f g : S → R Bool) : S → R Bool := fun ρ => (f ρ).bind fun x => if x then .ok true else g ρ
def dNot (f : S → R Bool) : S → R Bool := fun ρ => (f ρ).map (!·)
variable {p q : S → R Bool} {rest : List Expr}
theorem imp_and (ha : ImpT K mg E T tt p) (hb : ImpT K mg E T tu q) : ImpT K mg E T (tAnd tt tu) (dAnd p q) := by
  intro B Φ H σ ρ s Q z
  refine ha B Φ H σ ρ s _ ?_
  have z : PostT K mg E Φ H ((p ρ).bind fun x => if x then q ρ else .ok false) Q := z
  cases e : p ρ with
  | ok b =>
    rw [e] at z
    intro Φ' H' g
    cases b with
    | true => exact hb B Φ' H' σ ρ (s.grow g) Q (PostT.grow g z)
    | false => exact z Φ' H' g
  | raise x => rw [e] at z; exact z
  | stuck => rw [e] at z; exact z
theorem imp_or (ha : ImpT K mg E T tt p) (hb : ImpT K mg E T tu q) : ImpT K mg E T (tOr tt tu) (dOr p q) := by
  intro B Φ H σ ρ s Q z
  refine ha B Φ H σ ρ s _ ?_
  have z : PostT K mg E Φ H ((p ρ).bind fun x => if x then .ok true else q ρ) Q := z
  cases e : p ρ with
  | ok b =>
    rw [e] at z
    intro Φ' H' g
    cases b with
    | false => exact hb B Φ' H' σ ρ (s.grow g) Q (PostT.grow g z)
    | true => exact z Φ' H' g
  | raise x => rw [e] at z; exact z
  | stuck => rw [e] at z; exact z
theorem dt_not (ha : DT K mg E T X a tt p) : DT K mg E T X (.UnaryOp .Not a pos) (tNot tt) (dNot p) := by
  refine ⟨ha.k, ha.m, pt_not ha.pe, fun B Φ H σ ρ s Q z => ha.imp B Φ H σ ρ s _ ?_⟩
  have z : PostT K mg E Φ H ((p ρ).map (!·)) Q := z
  cases e : p ρ with
  | ok b => rw [e] at z; exact z
  | raise x => rw [e] at z; exact z
  | stuck => rw [e] at z; exact z
theorem dw_and1 (ha : DT K mg E T X a tt p) : DW K mg E T X (.BoolOp .And [a] pos) tt p := ⟨ha.k, ha.m, pw_and1 ha.pe, ha.imp⟩
theorem dw_or1 (ha : DT K mg E T X a tt p) : DW K mg E T X (.BoolOp .Or [a] pos) tt p := ⟨ha.k, ha.m, pw_or1 ha.pe, ha.imp⟩
theorem dw_and (ha : DT K mg E T X a tt p) (hb : DW K mg E T X (.BoolOp .And (b :: rest) pos) tu q) : DW K mg E T X (.BoolOp .And (a :: b :: rest) pos) (tAnd tt tu) (dAnd p q) := ⟨ha.k, ha.m, pw_and ha.pe hb.pe, imp_and ha.imp hb.imp⟩
theorem dw_or (ha : DT K mg E T X a tt p) (hb : DW K mg E T X (.BoolOp .Or (b :: rest) pos) tu q) : DW K mg E T X (.BoolOp .Or (a :: b :: rest) pos) (tOr tt tu) (dOr p q) := ⟨ha.k, ha.m, pw_or ha.pe hb.pe, imp_or ha.imp hb.imp⟩
theorem DW.t (h : DW K mg E T X a tt p) : DT K mg E T X a tt p := ⟨h.k, h.m, h.pe.pt, h.imp⟩
/-- the same as values (truths) -/
def dAndV (f g : S → R D) : S → R D := fun ρ => (f ρ).bind fun x => (asB x).bind fun b => if b then g ρ else .ok (.bl false)
def dOrV (f g : S → R D) : S → R D := fun ρ => (f ρ).bind fun x => (asB x).bind fun b => if b then .ok (.bl true) else g ρ
def dNotV (f : S → R D) : S → R D := fun ρ => (f ρ).bind fun x => (asB x).map fun b => .bl (!b)
theorem de_one {op} (ha : DE K mg E T X a ta f) : DE K mg E T X (.BoolOp op [a] pos) ta f := ⟨ha.k, ha.m, pe_one ha.pe, ha.imp⟩
theorem de_and (ha : DE K mg E T X a ta f) (hb : DE K mg E T X (.BoolOp .And (b :: rest) pos) tb g) : DE K mg E T X (.BoolOp .And (a :: b :: rest) pos) (tAndV ta tb) (dAndV f g) := by
  refine ⟨ha.k, ha.m, pe_and ha.pe hb.pe, fun B Φ H σ ρ s Q z => ha.imp B Φ H σ ρ s _ ?_⟩
  have z : PostE K mg E Φ H ((f ρ).bind fun x => (asB x).bind fun b => if b then g ρ else .ok (.bl false)) Q := z
  cases e : f ρ with
  | ok d =>
    rw [e] at z
    intro v Φ' H' gr sv
    cases d with
    | bl b =>
      cases sv
      refine ⟨b, rfl, ?_⟩
      cases b with
      | true => exact hb.imp B Φ' H' σ ρ (s.grow gr) Q (PostE.grow gr z)
      | false => exact z _ Φ' H' gr (.bl _)
    | _ => exact False.elim z
  | raise x => rw [e] at z; exact z
  | stuck => rw [e] at z; exact z
theorem de_or (ha : DE K mg E T X a ta f) (hb : DE K mg E T X (.BoolOp .Or (b :: rest) pos) tb g) : DE K mg E T X (.BoolOp .Or (a :: b :: rest) pos) (tOrV ta tb) (dOrV f g) := by
  refine ⟨ha.k, ha.m, pe_or ha.pe hb.pe, fun B Φ H σ ρ s Q z => ha.imp B Φ H σ ρ s _ ?_⟩
  have z : PostE K mg E Φ H ((f ρ).bind fun x => (asB x).bind fun b => if b then .ok (.bl true) else g ρ) Q := z
  cases e : f ρ with
  | ok d =>
    rw [e] at z
    intro v Φ' H' gr sv
    cases d with
    | bl b =>
      cases sv
      refine ⟨b, rfl, ?_⟩
      cases b with
      | false => exact hb.imp B Φ' H' σ ρ (s.grow gr) Q (PostE.grow gr z)
      | true => exact z _ Φ' H' gr (.bl _)
    | _ => exact False.elim z
  | raise x => rw [e] at z; exact z
  | stuck => rw [e] at z; exact z
theorem de_not (ha : DE K mg E T X a ta f) : DE K mg E T X (.UnaryOp .Not a pos) (tNotV ta) (dNotV f) := by
  refine ⟨ha.k, ha.m, pe_not ha.pe, fun B Φ H σ ρ s Q z => ha.imp B Φ H σ ρ s _ ?_⟩
  have z : PostE K mg E Φ H ((f ρ).bind fun x => (asB x).map fun b => .bl (!b)) Q := z
  cases e : f ρ with
  | ok d =>
    rw [e] at z
    intro v Φ' H' gr sv
    cases d with
    | bl b =>
      cases sv
      exact ⟨b, rfl, z _ Φ' H' gr (.bl _)⟩
    | _ => exact False.elim z
  | raise x => rw [e] at z; exact z
  | stuck => rw [e] at z; exact z
def dIf (p : S → R Bool) (f g : S → R D) : S → R D := fun ρ => (p ρ).bind fun b => if b then f ρ else g ρ
theorem de_if (hc : DT K mg E T X c tt p) (ha : DE K mg E T X a ta f) (hb : DE K mg E T X b tb g) : DE K mg E T X (.IfExp c a b pos) (tIf tt ta tb) (dIf p f g) := by
  refine ⟨ha.k, ha.m, pe_ifExp hc.pe ha.pe hb.pe, fun B Φ H σ ρ s Q z => hc.imp B Φ H σ ρ s _ ?_⟩
  have z : PostE K mg E Φ H ((p ρ).bind fun b => if b then f ρ else g ρ) Q := z
  cases e : p ρ with
  | ok b =>
    rw [e] at z
    intro Φ' H' gr
    cases b with
    | true => exact ha.imp B Φ' H' σ ρ (s.grow gr) Q (PostE.grow gr z)
    | false => exact hb.imp B Φ' H' σ ρ (s.grow gr) Q (PostE.grow gr z)
  | raise x => rw [e] at z; exact z
  | stuck => rw [e] at z; exact z
/-! ### arguments -/
def dNil : S → R (List D) := fun _ => .ok []
def dCons (f : S → R D) (g : S → R (List D)) : S → R (List D) := fun ρ => (f ρ).bind fun x => (g ρ).map fun xs => x :: xs
theorem da_nil (hk : X.K = K := by rfl) (hm : X.mg = mg := by rfl) : DA K mg E T X [] tNil dNil := ⟨hk, hm, pa_nil, fun B Φ H σ ρ s Q z => z [] Φ H (Gr.refl s.ex) .nil⟩
theorem da_cons {ts : TA} {gs : S → R (List D)} (ha : DE K mg E T X e te f) (hr : DA K mg E T X es ts gs) (hs : starEach (e :: es) X.env = (false, eval e X.env) :: starEach es X.env := by rfl) : DA K mg E T X (e :: es) (tCons te ts) (dCons f gs) := by
  refine ⟨ha.k, ha.m, pa_cons ha.pe hr.pe hs, fun B Φ H σ ρ s Q z => ha.imp B Φ H σ ρ s _ ?_⟩
  have z : PostA K mg E Φ H ((f ρ).bind fun x => (gs ρ).map fun xs => x :: xs) Q := z
  cases e : f ρ with
  | ok d =>
    rw [e] at z
    intro v Φ' H' gr sv
    refine hr.imp B Φ' H' σ ρ (s.grow gr) _ ?_
    have z : PostA K mg E Φ H ((gs ρ).map fun xs => d :: xs) Q := z
    cases e2 : gs ρ with
    | ok ds =>
      rw [e2] at z
      exact fun vs Φ2 H2 g2 s2 => z _ Φ2 H2 (gr.trans g2) (.cons (See.mono g2.p sv) s2)
    | raise x => rw [e2] at z; exact PostX.grow gr z
    | stuck => rw [e2] at z; exact z
  | raise x => rw [e] at z; exact z
  | stuck => rw [e] at z; exact z
theorem SeeAll.length {Φ : Hp} : ∀ {vs : List V} {ds : List D}, SeeAll K mg Φ vs ds → vs.length = ds.length
  | _, _, .nil => rfl
  | _, _, .cons _ t => by simp [SeeAll.length t]
/-! ### displays -/
def dTup (g : S → R (List D)) : S → R D := fun ρ => (g ρ).bind fun ds => if ds.length ≤ sizeLine then .ok (.tup ds) else .stuck
def dLst (g : S → R (List D)) : S → R (List D) := fun ρ => (g ρ).bind fun ds => if ds.length ≤ sizeLine then .ok ds else .stuck
theorem de_tup {ts : TA} {gs : S → R (List D)} {x1} (ha : DA K mg E T X es ts gs) : DE K mg E T X (.Tuple es x1 pos) (tTupF ts) (dTup gs) := by
  refine ⟨ha.k, ha.m, pe_tupF ha.pe, fun B Φ H σ ρ s Q z => ha.imp B Φ H σ ρ s _ ?_⟩
  have z : PostE K mg E Φ H ((gs ρ).bind fun ds => if ds.length ≤ sizeLine then .ok (.tup ds) else .stuck) Q := z
  cases e : gs ρ with
  | ok ds =>
    rw [e] at z
    intro vs Φ' H' gr sv
    have z : PostE K mg E Φ H (if ds.length ≤ sizeLine then .ok (.tup ds) else .stuck) Q := z
    split at z
    · rename_i hl
      refine ⟨by rw [SeeAll.length sv]; exact hl, fun p o np nd => ?_⟩
      exact z _ _ _ (gr.trans (Gr.new gr.ex np)) (.tup (.inl ⟨o, upd_same, nd⟩) (SeeAll.mono (Ex.new (Ex.none (e := gr.ex) np)) sv))
    · exact z.elim
  | raise x => rw [e] at z; exact z
  | stuck => rw [e] at z; exact z
theorem dn_lst {ts : TA} {gs : S → R (List D)} (ha : DA K mg E T X es ts gs) : DN K mg E T X (.List es pos) (tLst ts) (dLst gs) := by
  refine ⟨ha.k, ha.m, pe_lst ha.pe, fun B Φ H σ ρ s Q z => ha.imp B Φ H σ ρ s _ ?_⟩
  have z : PostN K mg E Φ H ((gs ρ).bind fun ds => if ds.length ≤ sizeLine then .ok ds else .stuck) Q := z
  cases e : gs ρ with
  | ok ds =>
    rw [e] at z
    intro vs Φ' H' gr sv
    have z : PostN K mg E Φ H (if ds.length ≤ sizeLine then .ok ds else .stuck) Q := z
    split at z
    · rename_i hl
      refine ⟨by rw [SeeAll.length sv]; exact hl, fun p np => ?_⟩
      have n0 : H p = none := by
        cases q : H p with
        | none => rfl
        | some o => rw [gr.h _ _ q] at np; cases np
      exact z p vs Φ' _ (gr.trans (Gr.newM gr.ex np)) n0 (Ex.none (e := gr.ex) np) upd_same sv
    · exact z.elim
  | raise x => rw [e] at z; exact z
  | stuck => rw [e] at z; exact z
end
end TP
set_option Elab.async false
set_option linter.all false
set_option maxRecDepth 100000
/-! Tree programs: operators on trees. -/
namespace TP
open PySem L2 PyProof.Rows PySem.Spec

/-! ### trees as plain data -/
mutual
def D.py : D → Option PyData
  | .non => some .none
  | .bl b => some (.bool b)
  | .int i => some (.int i)
  | .str s => some (.str s)
  | .tup xs => (pyAll xs).map .tuple
  | .pr xs => (pyAll xs).map .tuple
  | .lst xs => (pyAll xs).map .list
  | .dic _ => none
  | .dit _ => none
  | .obj _ _ => none
  | .exc _ _ => none
  | .scr _ => none
  | .fn _ => none
def pyAll : List D → Option (List PyData)
  | [] => some []
  | x :: xs => (D.py x).bind fun y => (pyAll xs).map fun ys => y :: ys
end
section
variable {K : PySem.W.Frag} {mg : Str → Option Value} {T : List (Addr × Str)} {E : XK} {Φ Φ' H H' : Hp} {Q : VK}
mutual
theorem See.dp : ∀ {v : V} {d : D} {e : PyData}, See K mg Φ v d → d.py = some e → Dp K Φ v e
  | _, _, _, .non, h => by cases h; exact .non
  | _, _, _, .bl b, h => by cases h; exact .bl b
  | _, _, _, .int i, h => by cases h; exact .int i
  | _, _, _, .str s, h => by cases h; exact .str s
  | _, _, _, .tup (ds := ds) a r, h => by
    have h : (pyAll ds).map PyData.tuple = some _ := h
    cases q : pyAll ds with
    | none => rw [q] at h; cases h
    | some es => rw [q] at h; cases h; exact .tup a.t (SeeAll.dp r q)
  | _, _, _, .pr (ds := ds) a r, h => by
    have h : (pyAll ds).map PyData.tuple = some _ := h
    cases q : pyAll ds with
    | none => rw [q] at h; cases h
    | some es => rw [q] at h; cases h; exact .tup (.inl (.inl a)) (SeeAll.dp r q)
  | _, _, _, .lst (ds := ds) a r, h => by
    have h : (pyAll ds).map PyData.list = some _ := h
    cases q : pyAll ds with
    | none => rw [q] at h; cases h
    | some es => rw [q] at h; cases h; exact .lst (.inl (.inl a)) (SeeAll.dp r q)
  | _, _, _, .dic _ _, h => by cases h
  | _, _, _, .dit _ _, h => by cases h
  | _, _, _, .obj _ _ _, h => by cases h
  | _, _, _, .exc0 _ _, h => by cases h
  | _, _, _, .exc1 _ _ _ _, h => by cases h
  | _, _, _, .scr _, h => by cases h
  | _, _, _, .fn _, h => by cases h
theorem SeeAll.dp : ∀ {vs : List V} {ds : List D} {es : List PyData}, SeeAll K mg Φ vs ds → pyAll ds = some es → DpAll K Φ vs es
  | _, _, _, .nil, h =>
          by cases h; exact .nil
  | _, _, _, .cons (d := d) (ds := ds) r t, h => by
    have h : (D.py d).bind (fun y => (pyAll ds).map fun ys => y :: ys) = some _ := h
    cases q : d.py with
    | none => rw [q] at h; cases h
    | some y =>
      rw [q] at h
      have h : (pyAll ds).map (fun ys => y :: ys) = some _ := h
      cases q2 : pyAll ds with
      | none => rw [q2] at h; cases h
      | some ys => rw [q2] at h; cases h; exact .cons (See.dp r q) (SeeAll.dp t q2)
end
mutual
theorem dp_mono {H H' : Hp} (e : Ex H H') : ∀ {v : V} {d : PyData}, Dp K H v d → Dp K H' v d
  | _, _, .non => .non
  | _, _, .bl b => .bl b
  | _, _, .int i => .int i
  | _, _, .str s => .str s
  | _, _, .lst h r => .lst (ex_l e h) (dpAll_mono e r)
  | _, _, .tup h r => .tup (ex_t e h) (dpAll_mono e r)
theorem dpAll_mono {H H' : Hp} (e : Ex H H') : ∀ {v : List V} {d : List PyData}, DpAll K H v d → DpAll K H' v d
  | _, _, .nil => .nil
  | _, _, .cons r t => .cons (dp_mono e r) (dpAll_mono e t)
end
theorem SeeB.dp {v : V} {d : D} {e : PyData} (x : Ex Φ H) (h : SeeB K mg Φ H v d) (q : d.py = some e) : Dp K H v e := by
  cases h with
  | fz h => exact dp_mono x (See.dp h q)
  | ml a r =>
    rename_i p vs ds
    have h : (pyAll ds).map PyData.list = some _ := q
    cases q2 : pyAll ds with
    | none => rw [q2] at h; cases h
    | some es => rw [q2] at h; cases h; exact .lst (.inl (.inl a)) (dpAll_mono x (SeeAll.dp r q2))
  | md a r => cases q
  | mt a r => cases q
theorem SeeB.lst {v : V} {ds : List D} (x : Ex Φ H) (h : SeeB K mg Φ H v (.lst ds)) : ∃ p vs, v = .ref p ∧ H p = some (.lst vs) ∧ SeeAll K mg Φ vs ds := by
  cases h with
  | fz h => cases h with | lst a r => exact ⟨_, _, rfl, x _ _ a, r⟩
  | ml a r => exact ⟨_, _, rfl, a, r⟩
theorem SeeB.tup {v : V} {ds : List D} (x : Ex Φ H) (h : SeeB K mg Φ H v (.tup ds)) : ∃ p vs, v = .ref p ∧ SqT K H p vs ∧ SqG K Φ p vs ∧ SeeAll K mg Φ vs ds := by
  cases h with
  | fz h => cases h with | tup a r => exact ⟨_, _, rfl, ex_t x a.t, a, r⟩
theorem SeeB.int {v : V} {i : Int} (h : SeeB K mg Φ H v (.int i)) : v = .int i := by
  cases h with
  | fz h => cases h; rfl
theorem SeeB.str {v : V} {i : Str} (h : SeeB K mg Φ H v (.str i)) : v = .str i := by
  cases h with
  | fz h => cases h; rfl
theorem SeeB.bl {v : V} {i : Bool} (h : SeeB K mg Φ H v (.bl i)) : v = .bl i := by
  cases h with
  | fz h => cases h; rfl
theorem SeeAll.append : ∀ {vs ws : List V} {ds es : List D}, SeeAll K mg Φ vs ds → SeeAll K mg Φ ws es → SeeAll K mg Φ (vs ++ ws) (ds ++ es)
  | _, _, _, _, .nil, s => s
  | _, _, _, _, .cons r t, s => .cons r (SeeAll.append t s)
theorem SeeAll.take : ∀ (n : Nat) {vs : List V} {ds : List D}, SeeAll K mg Φ vs ds → SeeAll K mg Φ (vs.take n) (ds.take n)
  | 0, _, _, _ => by simpa using SeeAll.nil
  | _ + 1, _, _, .nil => .nil
  | n + 1, _, _, .cons r t => .cons r (SeeAll.take n t)
theorem SeeAll.drop : ∀ (n : Nat) {vs : List V} {ds : List D}, SeeAll K mg Φ vs ds → SeeAll K mg Φ (vs.drop n) (ds.drop n)
  | 0, _, _, h => by simpa using h
  | _ + 1, _, _, .nil => .nil
  | n + 1, _, _, .cons _ t => SeeAll.drop n t
theorem SeeAll.get : ∀ {vs : List V} {ds : List D} {i : Nat} {d : D}, SeeAll K mg Φ vs ds → ds[i]? = some d → ∃ v, vs[i]? = some v ∧ See K mg Φ v d
  | _, _, _, _, .nil, e0 => by simp at e0
  | _, _, 0, _, .cons r0 _, e0 => by simp at e0; subst e0; exact ⟨_, rfl, r0⟩
  | _, _, i + 1, _, .cons _ t, e => by
    obtain ⟨v, h1, h2⟩ := SeeAll.get (i := i) t (by simpa using e)
    exact ⟨v, by simpa using h1, h2⟩
theorem SeeAll.set {v : V} {d : D} (h : See K mg Φ v d) : ∀ (i : Nat) {vs : List V} {ds : List D}, SeeAll K mg Φ vs ds → SeeAll K mg Φ (vs.set i v) (ds.set i d)
  | _, _, _, .nil => .nil
  | 0, _, _, .cons _ t => .cons h t
  | i + 1, _, _, .cons r t => .cons r (SeeAll.set h i t)
theorem SeeAll.eraseIdx : ∀ (i : Nat) {vs : List V} {ds : List D}, SeeAll K mg Φ vs ds → SeeAll K mg Φ (vs.eraseIdx i) (ds.eraseIdx i)
  | _, _, _, .nil => .nil
  | 0, _, _, .cons _ t => t
  | i + 1, _, _, .cons r t => .cons r (SeeAll.eraseIdx i t)
theorem SeeAll.reverse : ∀ {vs : List V} {ds : List D}, SeeAll K mg Φ vs ds → SeeAll K mg Φ vs.reverse ds.reverse
  | _, _, .nil => .nil
  | _, _, .cons r t => by simpa using SeeAll.append (SeeAll.reverse t) (.cons r .nil)
theorem SeeAll.ints : ∀ {vs : List V} {ns : List Int}, SeeAll K mg Φ vs (ns.map D.int) → vs = ns.map V.int
  | [], [], _ => rfl
  | _ :: _, _ :: _, .cons r t => by cases r; rw [SeeAll.ints t]; rfl
theorem SeeAll.ofInts : ∀ (ns : List Int), SeeAll K mg Φ (ns.map V.int) (ns.map D.int)
  | [] => .nil
  | n :: ns => .cons (.int n) (SeeAll.ofInts ns)
/-! ### answers that are plain -/
theorem PostE.flat {v : V} {d : D} {r : R D} (ex : Ex Φ H) (h : PostE K mg E Φ H r Q) (e : r = .ok d) (s : See K mg Φ v d) : Q v H := by subst e; exact h v Φ H (Gr.refl ex) s
theorem PostE.newT {ds : List D} {vs : List V} (ex : Ex Φ H) (h : PostE K mg E Φ H (.ok (.tup ds)) Q) (s : SeeAll K mg Φ vs ds) : NewT H vs Q := fun p o np nd =>
  h _ _ _ (Gr.new ex np) (.tup (.inl ⟨o, upd_same, nd⟩) (SeeAll.mono (Ex.new (Ex.none (e := ex) np)) s))
theorem PostE.newL {ds : List D} {vs : List V} (ex : Ex Φ H) (h : PostE K mg E Φ H (.ok (.lst ds)) Q) (s : SeeAll K mg Φ vs ds) : ∀ p, H p = none → Q (.ref p) (upd H p (.lst vs)) := fun p np =>
  h _ _ _ (Gr.new ex np) (.lst upd_same (SeeAll.mono (Ex.new (Ex.none (e := ex) np)) s))
end

/-! ### + -/
def opAdd : D → D → R D
  | .int i, .int j => .ok (.int (i + j))
  | .str a, .str b => if a.length + b.length ≤ sizeLine then .ok (.str (a ++ b)) else .stuck
  | .tup a, .tup b => if a.length + b.length ≤ sizeLine then .ok (.tup (a ++ b)) else .stuck
  | .lst a, .lst b => if a.length + b.length ≤ sizeLine then .ok (.lst (a ++ b)) else .stuck
  | _, _ => .stuck
abbrev rAdd4 (K : PySem.W.Frag) : R2 := fun x y H Q => rI0 (fun i j => .int (i + j)) x y H Q ∨ (∃ i j, x = .str i ∧ y = .str j ∧ i.length + j.length ≤ sizeLine ∧ Q (.str (i ++ j)) H) ∨ rCatF K x y H Q ∨ rCat x y H Q
section
variable {K : PySem.W.Frag} {mg : Str → Option Value} {T : List (Addr × Str)} {X : Cx}
theorem or_add : OpR X (binaryOp .Add) (rAdd4 X.K) := op_add.or (op_add_str.or (op_catF.or op_cat))
theorem sem_add : Op2 K mg (rAdd4 K) opAdd := by
  intro Φ H x y dx dy Q ex hx hy h
  unfold opAdd at h
  split at h
  · cases hx.int; cases hy.int
    exact .inl ⟨_, _, rfl, rfl, h.flat ex rfl (.int _)⟩
  · split at h
    · rename_i hl
      cases hx.str; cases hy.str
      exact .inr (.inl ⟨_, _, rfl, rfl, hl, h.flat ex rfl (.str _)⟩)
    · exact h.elim
  · split at h
    · rename_i a b hl
      obtain ⟨p, vs, rfl, e1, f1, s1⟩ := hx.tup ex
      obtain ⟨q, ws, rfl, e2, f2, s2⟩ := hy.tup ex
      refine .inr (.inr (.inl ⟨p, q, vs, ws, rfl, rfl, e1, e2, by rw [SeeAll.length s1, SeeAll.length s2]; exact hl, fun z => ?_, fun _ z => ?_, fun _ _ => PostE.newT ex h (s1.append s2)⟩))
      · subst z; cases s1; exact h.flat ex rfl (.tup f2 s2)
      · subst z
        cases s2
        exact h.flat ex (by rw [List.append_nil]) (.tup f1 s1)
    · exact h.elim
  · split at h
    · rename_i a b hl
      obtain ⟨p, vs, rfl, e1, s1⟩ := hx.lst ex
      obtain ⟨q, ws, rfl, e2, s2⟩ := hy.lst ex
      exact .inr (.inr (.inr ⟨p, q, vs, ws, rfl, rfl, e1, e2, by rw [SeeAll.length s1, SeeAll.length s2]; exact hl, PostE.newL ex h (s1.append s2)⟩))
    · exact h.elim
  · exact h.elim
theorem add_noX : ∀ x y, NoX (opAdd x y) := fun x y z => by
  unfold opAdd
  repeat' split
  all_goals exact fun w => by cases w
/-! ### numbers alone -/
def opI (C : Int → Int → Bool) (g : Int → Int → D) : D → D → R D
  | .int i, .int j => if C i j then .ok (g i j) else .stuck
  | _, _ => .stuck
theorem opI_noX {C : Int → Int → Bool} {g : Int → Int → D} : ∀ x y, NoX (opI C g x y) := fun x y z => by
  unfold opI
  repeat' split
  all_goals exact fun w => by cases w
theorem sem_I {C : Int → Int → Bool} {C' : Int → Int → Prop} {g : Int → Int → Int} (hc : ∀ i j, C i j = true → C' i j) : Op2 K mg (rI C' fun i j => .int (g i j)) (opI C fun i j => .int (g i j)) := by
  intro Φ H x y dx dy Q ex hx hy h
  unfold opI at h
  split at h
  · split at h
    · rename_i c
      cases hx.int; cases hy.int
      exact ⟨_, _, rfl, rfl, hc _ _ c, h.flat ex rfl (.int _)⟩
    · exact h.elim
  · exact h.elim
theorem sem_I0 {g : Int → Int → Int} : Op2 K mg (rI0 fun i j => .int (g i j)) (opI (fun _ _ => true) fun i j => .int (g i j)) := by
  intro Φ H x y dx dy Q ex hx hy h
  unfold opI at h
  split at h
  · rw [if_pos rfl] at h
    cases hx.int; cases hy.int
    exact ⟨_, _, rfl, rfl, h.flat ex rfl (.int _)⟩
  · exact h.elim
theorem sem_B0 {g : Int → Int → Bool} : Op2 K mg (rI0 fun i j => .bl (g i j)) (opI (fun _ _ => true) fun i j => .bl (g i j)) := by
  intro Φ H x y dx dy Q ex hx hy h
  unfold opI at h
  split at h
  · rw [if_pos rfl] at h
    cases hx.int; cases hy.int
    exact ⟨_, _, rfl, rfl, h.flat ex rfl (.bl _)⟩
  · exact h.elim
abbrev opSub : D → D → R D := opI (fun _ _ => true) fun i j => .int (i - j)
abbrev opXor : D → D → R D := opI (fun _ _ => true) fun i j => .int (Builtin.bitXor i j)
abbrev opMod : D → D → R D := opI (fun _ j => decide (0 < j)) fun i j => .int (i % j)
abbrev opDiv : D → D → R D := opI (fun _ j => decide (0 < j ∧ j.natAbs.log2 < 9000)) fun i j => .int (i / j)
abbrev opMul : D → D → R D := opI (fun i j => decide (i.natAbs < 2 ^ 64 ∨ j.natAbs < 2 ^ 64 ∨ i.natAbs.log2 + j.natAbs.log2 < 1000000)) fun i j => .int (i * j)
def CMul3 (i j : Int) : Prop := (-(2 ^ 64) < i ∧ i < 2 ^ 64) ∨ (-(2 ^ 64) < j ∧ j < 2 ^ 64) ∨ i.natAbs.log2 + j.natAbs.log2 < 1000000
theorem op_mul3 : OpR X (binaryOp .Mult) (rI CMul3 fun i j => .int (i * j)) := fun pins s σ H x y v u Q I rx ry ⟨i, j, e1, e2, c, q⟩ => by
  rcases c with c | c | c
  · exact op_mul pins s σ H x y v u Q I rx ry ⟨i, j, e1, e2, .inl c, q⟩
  · exact op_mul pins s σ H x y v u Q I rx ry ⟨i, j, e1, e2, .inr c, q⟩
  · exact op_mulW pins s σ H x y v u Q I rx ry ⟨i, j, e1, e2, c, q⟩
abbrev opPow : D → D → R D := opI (fun i j => decide (0 ≤ j ∧ j ≤ 1000000 ∧ i.natAbs < 2 ^ 64)) fun i j => .int (i ^ j.toNat)
theorem sem_sub : Op2 K mg (rI0 fun i j => .int (i - j)) opSub := sem_I0
theorem sem_xor : Op2 K mg (rI0 fun i j => .int (Builtin.bitXor i j)) opXor := sem_I0
theorem sem_mod : Op2 K mg (rI (fun _ j => 0 < j) fun i j => .int (i % j)) opMod := sem_I fun _ _ h => of_decide_eq_true h
theorem sem_div : Op2 K mg (rI CDivW fun i j => .int (i / j)) opDiv := sem_I fun i j h => (of_decide_eq_true h : 0 < j ∧ j.natAbs.log2 < 9000)
theorem sem_mul : Op2 K mg (rI CMul3 fun i j => .int (i * j)) opMul := sem_I fun i j h => (by
  rcases (of_decide_eq_true h : i.natAbs < 2 ^ 64 ∨ j.natAbs < 2 ^ 64 ∨ i.natAbs.log2 + j.natAbs.log2 < 1000000) with h | h | h
  · exact .inl (by omega)
  · exact .inr (.inl (by omega))
  · exact .inr (.inr h))
theorem sem_pow : Op2 K mg (rI CPow fun i j => .int (i ^ j.toNat)) opPow := sem_I fun i j h => (of_decide_eq_true h : 0 ≤ j ∧ j ≤ 1000000 ∧ i.natAbs < 2 ^ 64)
/-! ### order -/
abbrev opLtI : D → D → R D := opI (fun _ _ => true) fun i j => .bl (decide (i < j))
abbrev opLe : D → D → R D := opI (fun _ _ => true) fun i j => .bl (decide (i ≤ j))
abbrev opGt : D → D → R D := opI (fun _ _ => true) fun i j => .bl (decide (j < i))
abbrev opGe : D → D → R D := opI (fun _ _ => true) fun i j => .bl (decide (j ≤ i))
def D.ints : List D → Option (List Int)
  | [] => some []
  | .int i :: ds => (D.ints ds).map (i :: ·)
  | _ :: _ => none
theorem ints_some : ∀ {ds : List D} {ns : List Int}, D.ints ds = some ns → ds = ns.map D.int
  | [], _, h => by cases h; rfl
  | .int i :: ds, _, h => by
    have h : (D.ints ds).map (i :: ·) = some _ := h
    cases q : D.ints ds with
    | none => rw [q] at h; cases h
    | some ms => rw [q] at h; cases h; rw [ints_some q]; rfl
  | .non :: _, _, h => by cases h
  | .bl _ :: _, _, h => by cases h
  | .str _ :: _, _, h => by cases h
  | .tup _ :: _, _, h => by cases h
  | .lst _ :: _, _, h => by cases h
  | .pr _ :: _, _, h => by cases h
  | .dic _ :: _, _, h => by cases h
  | .dit _ :: _, _, h => by cases h
  | .obj _ _ :: _, _, h => by cases h
  | .exc _ _ :: _, _, h => by cases h
  | .scr _ :: _, _, h => by cases h
  | .fn _ :: _, _, h => by cases h
theorem ints_map : ∀ (ns : List Int), D.ints (ns.map D.int) = some ns
  | [] => rfl
  | n :: ns => by
    show (D.ints (ns.map D.int)).map (n :: ·) = _
    rw [ints_map ns]; rfl
def opLt : D → D → R D
  | .int i, .int j => .ok (.bl (decide (i < j)))
  | .str i, .str j => .ok (.bl (decide (i.cps.toList < j.cps.toList)))
  | .tup a, .tup b => match D.ints a, D.ints b with
    | some ns, some ms => .ok (.bl (HT.lexLt ns ms))
    | _, _ => .stuck
  | _, _ => .stuck
abbrev rLt3 (K : PySem.W.Frag) : R2 := fun x y H Q => rI0 (fun i j => .bl (decide (i < j))) x y H Q ∨ (∃ i j, x = .str i ∧ y = .str j ∧ Q (.bl (decide (i.cps.toList < j.cps.toList))) H) ∨ rLtT K x y H Q
theorem or_lt (hu : X.A.units < cLine) : OpR X (compareOp .Lt) (rLt3 X.K) := op_lt.or (op_lt_str.or (op_ltT hu))
theorem sem_lt : Op2 K mg (rLt3 K) opLt := by
  intro Φ H x y dx dy Q ex hx hy h
  unfold opLt at h
  split at h
  · cases hx.int; cases hy.int
    exact .inl ⟨_, _, rfl, rfl, h.flat ex rfl (.bl _)⟩
  · cases hx.str; cases hy.str
    exact .inr (.inl ⟨_, _, rfl, rfl, h.flat ex rfl (.bl _)⟩)
  · split at h
    · rename_i ns ms e1 e2
      obtain ⟨p, vs, rfl, a1, _, s1⟩ := hx.tup ex
      obtain ⟨q, ws, rfl, a2, _, s2⟩ := hy.tup ex
      rw [ints_some e1] at s1
      rw [ints_some e2] at s2
      rw [SeeAll.ints s1] at a1
      rw [SeeAll.ints s2] at a2
      exact .inr (.inr ⟨p, q, ns, ms, rfl, rfl, a1, a2, h.flat ex rfl (.bl _)⟩)
    · exact h.elim
  · exact h.elim
theorem lt_noX : ∀ x y, NoX (opLt x y) := fun x y z => by
  unfold opLt
  repeat' split
  all_goals exact fun w => by cases w
/-! ### == -/
mutual
theorem py_plain : ∀ {d : D} {e : PyData}, d.py = some e → e.plain = true
  | .non, _, h => by cases h; rfl
  | .bl _, _, h => by cases h; rfl
  | .int _, _, h => by cases h; rfl
  | .str _, _, h => by cases h; rfl
  | .tup ds, _, h => by
    have h : (pyAll ds).map PyData.tuple = some _ := h
    cases q : pyAll ds with
    | none => rw [q] at h; cases h
    | some es => rw [q] at h; cases h; exact pyAll_plain q
  | .pr ds, _, h => by
    have h : (pyAll ds).map PyData.tuple = some _ := h
    cases q : pyAll ds with
    | none => rw [q] at h; cases h
    | some es => rw [q] at h; cases h; exact pyAll_plain q
  | .lst ds, _, h => by
    have h : (pyAll ds).map PyData.list = some _ := h
    cases q : pyAll ds with
    | none => rw [q] at h; cases h
    | some es => rw [q] at h; cases h; exact pyAll_plain q
  | .dic _, _, h => by cases h
  | .dit _, _, h => by cases h
  | .obj _ _, _, h => by cases h
  | .exc _ _, _, h => by cases h
  | .scr _, _, h => by cases h
  | .fn _, _, h => by cases h
theorem pyAll_plain : ∀ {ds : List D} {es : List PyData}, pyAll ds = some es → PyData.plainAll es = true
  | [], _, h => by cases h; rfl
  | d :: ds, _, h => by
    have h : (D.py d).bind (fun y => (pyAll ds).map fun ys => y :: ys) = some _ := h
    cases q : D.py d with
    | none => rw [q] at h; cases h
    | some y =>
      cases r : pyAll ds with
      | none => rw [q, r] at h; cases h
      | some ys => rw [q, r] at h; cases h; exact Bool.and_eq_true_iff.mpr ⟨py_plain q, pyAll_plain r⟩
end
def opEqB (neg : Bool) (a b : D) : R D := match a.py, b.py with
  | some x, some y => if min x.depth y.depth ≤ 60 then .ok (.bl (neg ^^ PyData.eqv x y)) else .stuck
  | _, _ => .stuck
abbrev opEq := opEqB false
abbrev opNe := opEqB true
def rEqP (K : PySem.W.Frag) (neg : Bool) : R2 := fun x y H Q => ∃ d e, Dp K H x d ∧ Dp K H y e ∧ d.plain = true ∧ e.plain = true ∧ min d.depth e.depth ≤ 60 ∧ Q (.bl (neg ^^ PyData.eqv d e)) H
theorem op_eqP (hu : X.A.units + 64 < cLine) : OpR X (compareOp .Eq) (rEqP X.K false) := by
  intro ps s σ H x y v₀ u Q I rx ry h
  obtain ⟨d, e₀, hd, he, pd, pe, hz, q⟩ := h
  obtain ⟨as, r1⟩ := Dp.reads I d x v₀ hd rx
  obtain ⟨bs, r2⟩ := Dp.reads I e₀ y u he ry
  exact SeqAt.eq_plain r1 r2 pd pe (by omega) ⟨.bl _, H, I, rfl, by rw [Bool.false_xor] at q; exact q⟩
theorem op_neP (hu : X.A.units + 64 < cLine) : OpR X (compareOp .NotEq) (rEqP X.K true) := by
  intro ps s σ H x y v₀ u Q I rx ry h
  obtain ⟨d, e₀, hd, he, pd, pe, hz, q⟩ := h
  obtain ⟨as, r1⟩ := Dp.reads I d x v₀ hd rx
  obtain ⟨bs, r2⟩ := Dp.reads I e₀ y u he ry
  exact SeqAt.ne_plain r1 r2 pd pe (by omega) ⟨.bl _, H, I, rfl, by rw [Bool.true_xor] at q; exact q⟩
theorem sem_eqP {neg : Bool} : Op2 K mg (rEqP K neg) (opEqB neg) := by
  intro Φ H x y dx dy Q ex hx hy h
  unfold opEqB at h
  split at h
  · rename_i a b e1 e2
    split at h
    · rename_i hs
      exact ⟨a, b, hx.dp ex e1, hy.dp ex e2, py_plain e1, py_plain e2, hs, h.flat ex rfl (.bl _)⟩
    · exact h.elim
  · exact h.elim
theorem eq_noX {n : Bool} : ∀ x y, NoX (opEqB n x y) := fun x y z => by
  unfold opEqB
  repeat' split
  all_goals exact fun w => by cases w
/-! ### is None -/
def D.isN : D → Bool
  | .non => true
  | _ => false
def opIsN (neg : Bool) (a b : D) : R D := match b with
  | .non => .ok (.bl (neg ^^ a.isN))
  | _ => .stuck
theorem See.isN {Φ : Hp} {v : V} {d : D} (h : See K mg Φ v d) : decide (v = .non) = d.isN := by
  cases h <;> simp [D.isN]
theorem SeeB.isN {Φ H : Hp} {v : V} {d : D} (h : SeeB K mg Φ H v d) : decide (v = .non) = d.isN := by
  cases h with
  | fz h => exact h.isN
  | ml a r => simp [D.isN]
  | md a r => simp [D.isN]
  | mt a r => simp [D.isN]
theorem sem_isN : Op2 K mg (fun x y H Q => y = .non ∧ Q (.bl (decide (x = .non))) H) (opIsN false) := by
  intro Φ H x y dx dy Q ex hx hy h
  unfold opIsN at h
  split at h
  · have e : y = .non := by cases hy with | fz h => cases h; rfl
    exact ⟨e, h.flat ex rfl (by rw [hx.isN, Bool.false_xor]; exact .bl _)⟩
  · exact h.elim
theorem sem_notN : Op2 K mg (fun x y H Q => y = .non ∧ Q (.bl (!decide (x = .non))) H) (opIsN true) := by
  intro Φ H x y dx dy Q ex hx hy h
  unfold opIsN at h
  split at h
  · have e : y = .non := by cases hy with | fz h => cases h; rfl
    exact ⟨e, h.flat ex rfl (by rw [hx.isN, Bool.true_xor]; exact .bl _)⟩
  · exact h.elim
theorem isN_noX {n : Bool} : ∀ x y, NoX (opIsN n x y) := fun x y z => by
  unfold opIsN
  repeat' split
  all_goals exact fun w => by cases w
/-! ### in -/
def D.pyd (d : D) : PyData := d.py.getD .none
def opIn (neg : Bool) (a b : D) : R D := match b with
  | .lst ds => match a.py, pyAll ds with
    | some x, some ys => if min (PyData.depthAll ys) x.depth ≤ 60 then .ok (.bl (neg ^^ ys.any fun z => PyData.eqv z x)) else .stuck
    | _, _ => .stuck
  | .tup ds => match a.py, pyAll ds with
    | some x, some ys => if min (PyData.depthAll ys) x.depth ≤ 60 then .ok (.bl (neg ^^ ys.any fun z => PyData.eqv z x)) else .stuck
    | _, _ => .stuck
  | _ => .stuck
def rInP (K : PySem.W.Frag) (neg : Bool) : R2 := fun x y H Q => ∃ d es, Dp K H x d ∧ (Dp K H y (.list es) ∨ Dp K H y (.tuple es)) ∧ d.plain = true ∧ PyData.plainAll es = true ∧ min (PyData.depthAll es) d.depth ≤ 60 ∧ Q (.bl (neg ^^ es.any fun z => PyData.eqv z d)) H
theorem op_inP (hu : X.A.units + 65 < cLine) : OpR X (compareOp .In) (rInP X.K false) := by
  intro ps s σ H x y v₀ u Q I rx ry h
  obtain ⟨d, es, hd, he, pd, pe, hz, q⟩ := h
  rw [Bool.false_xor] at q
  obtain ⟨as, r1⟩ := Dp.reads I d x v₀ hd rx
  rcases he with he | he
  · obtain ⟨bs, r2⟩ := Dp.reads I _ y u he ry
    exact SeqAt.in_list_data r2 r1 pe pd (by omega) ⟨.bl _, H, I, rfl, q⟩
  · obtain ⟨bs, r2⟩ := Dp.reads I _ y u he ry
    exact SeqAt.in_tuple_data r2 r1 pe pd (by omega) ⟨.bl _, H, I, rfl, q⟩
theorem op_notInP (hu : X.A.units + 65 < cLine) : OpR X (compareOp .NotIn) (rInP X.K true) := by
  intro ps s σ H x y v₀ u Q I rx ry h
  obtain ⟨d, es, hd, he, pd, pe, hz, q⟩ := h
  rw [Bool.true_xor] at q
  obtain ⟨as, r1⟩ := Dp.reads I d x v₀ hd rx
  rcases he with he | he
  · obtain ⟨bs, r2⟩ := Dp.reads I _ y u he ry
    exact SeqAt.notIn_list_data r2 r1 pe pd (by omega) ⟨.bl _, H, I, rfl, q⟩
  · obtain ⟨bs, r2⟩ := Dp.reads I _ y u he ry
    exact SeqAt.notIn_tuple_data r2 r1 pe pd (by omega) ⟨.bl _, H, I, rfl, q⟩
theorem sem_inP {neg : Bool} : Op2 K mg (rInP K neg) (opIn neg) := by
  intro Φ H x y dx dy Q ex hx hy h
  unfold opIn at h
  split at h
  · rename_i ds
    split at h
    · rename_i a b e1 e2
      split at h
      · rename_i hs
        refine ⟨a, b, hx.dp ex e1, .inl (hy.dp (e := .list b) ex ?_), py_plain e1, pyAll_plain e2, hs, h.flat ex rfl (.bl _)⟩
        show (pyAll ds).map PyData.list = _
        rw [e2]; rfl
      · exact h.elim
    · exact h.elim
  · rename_i ds
    split at h
    · rename_i a b e1 e2
      split at h
      · rename_i hs
        refine ⟨a, b, hx.dp ex e1, .inr (hy.dp (e := .tuple b) ex ?_), py_plain e1, pyAll_plain e2, hs, h.flat ex rfl (.bl _)⟩
        show (pyAll ds).map PyData.tuple = _
        rw [e2]; rfl
      · exact h.elim
    · exact h.elim
  · exact h.elim
theorem in_noX {n : Bool} : ∀ x y, NoX (opIn n x y) := fun x y z => by
  unfold opIn
  repeat' split
  all_goals exact fun w => by cases w
end
end TP
set_option Elab.async false
set_option linter.all false
set_option maxRecDepth 100000
/-! Tree programs: expressions that change what one owns; statements. -/
namespace TP
open PySem L2 PyProof.Rows PySem.Spec

inductive M (α : Type) where
  | ok (a : α) (ρ : S) | raise (x : Exn) (ρ : S) | stuck
@[inline] def M.bind {α β : Type} (r : M α) (f : α → S → M β) : M β := match r with
  | .ok a ρ => f a ρ
  | .raise x ρ => .raise x ρ
  | .stuck => .stuck
@[inline] def R.toM {α : Type} (r : R α) (ρ : S) : M α := match r with
  | .ok a => .ok a ρ
  | .raise x => .raise x ρ
  | .stuck => .stuck
@[inline] def M.lift {α β : Type} (r : M α) (f : α → R β) : M β := r.bind fun a ρ => (f a).toM ρ

/-- a value for a slot: one that stays, or a new list or dict of one's own -/
inductive SlNew (K : PySem.W.Frag) (mg : Str → Option Value) (B : Bs) (Φ H : Hp) (σ : L2.St) (ρ : S) : V → Sl → Prop
  | fz {v : V} {d : D} (h : See K mg Φ v d) : SlNew K mg B Φ H σ ρ v (.fz d)
  | own {v : V} {sl : Sl} {A : List Addr} (h : SlOk K mg Φ H v sl A) (hn : ∀ nd, NdOk K mg B Φ H σ ρ nd → ∀ j, ∀ a ∈ A, a ∉ nd j) (h0 : ∀ a ∈ A, B.H0 a = none ∧ Φ a = none ∧ H a ≠ none ∧ a ∉ B.Dn) (hdr : ∀ l, sl.fx B.dp B.dq = some l → A = l) : SlNew K mg B Φ H σ ρ v sl

section
variable (K : PySem.W.Frag) (mg : Str → Option Value) (E : XK) (T : List (Addr × Str)) (B : Bs) (Φ H : Hp) (σ : L2.St)
def PostXM (x : Exn) (ρ : S) : Prop := ∀ Φ' H' c dd, Ex Φ Φ' → SOk K mg T B Φ' H' σ ρ → XOk K mg Φ' x c dd → E c dd H'
def PostM (r : M D) (Q : VK) : Prop := match r with
  | .ok d ρ => ∀ v Φ' H', Ex Φ Φ' → SOk K mg T B Φ' H' σ ρ → See K mg Φ' v d → Q v H'
  | .raise x ρ => PostXM K mg E T B Φ σ x ρ
  | .stuck => False
def PostV (r : M Sl) (Q : VK) : Prop := match r with
  | .ok sl ρ => ∀ v Φ' H', Ex Φ Φ' → SOk K mg T B Φ' H' σ ρ → SlNew K mg B Φ' H' σ ρ v sl → Q v H'
  | .raise x ρ => PostXM K mg E T B Φ σ x ρ
  | .stuck => False
def PostMT (r : M Bool) (Q : Bool → Hp → Prop) : Prop := match r with
  | .ok b ρ => ∀ Φ' H', Ex Φ Φ' → SOk K mg T B Φ' H' σ ρ → Q b H'
  | .raise x ρ => PostXM K mg E T B Φ σ x ρ
  | .stuck => False
def PostMA (r : M (List D)) (Q : List V → Hp → Prop) : Prop := match r with
  | .ok ds ρ => ∀ vs Φ' H', Ex Φ Φ' → SOk K mg T B Φ' H' σ ρ → SeeAll K mg Φ' vs ds → Q vs H'
  | .raise x ρ => PostXM K mg E T B Φ σ x ρ
  | .stuck => False
end
inductive Fl where
  | nx | bk | ct | rt (d : D) | rn (ds : List D)
section
variable (K : PySem.W.Frag) (mg : Str → Option Value) (E : XK) (T : List (Addr × Str))
def PostS (B : Bs) (Φ : Hp) (D : Ends) (r : M Fl) : Prop := match r with
  | .ok .nx ρ => ∀ Φ' H' σ', Ex Φ Φ' → SOk K mg T B Φ' H' σ' ρ → D.nx σ' H'
  | .ok .bk ρ => ∀ Φ' H' σ', Ex Φ Φ' → SOk K mg T B Φ' H' σ' ρ → D.bk σ' H'
  | .ok .ct ρ => ∀ Φ' H' σ', Ex Φ Φ' → SOk K mg T B Φ' H' σ' ρ → D.ct σ' H'
  | .ok (.rt d) ρ => ∀ v Φ' H' σ', Ex Φ Φ' → SOk K mg T B Φ' H' σ' ρ → See K mg Φ' v d → D.rt v H'
  | .ok (.rn ds) ρ => ∀ p vs Φ' H' σ', Ex Φ Φ' → SOk K mg T B Φ' H' σ' ρ → B.H0 p = none → Φ' p = none → H' p = some (.lst vs) → SeeAll K mg Φ' vs ds → D.rt (.ref p) H'
  | .raise x ρ => ∀ Φ' H' σ' c dd, Ex Φ Φ' → SOk K mg T B Φ' H' σ' ρ → XOk K mg Φ' x c dd → E c dd H'
  | .stuck => False
theorem PostS.ext {B : Bs} {Φ Φ' : Hp} {D : Ends} {r : M Fl} (e : Ex Φ Φ') (h : PostS K mg E T B Φ D r) : PostS K mg E T B Φ' D r := by
  cases r with
  | ok fl ρ =>
    cases fl with
    | nx => exact fun Φ2 H2 σ2 e2 => h Φ2 H2 σ2 (e.trans e2)
    | bk => exact fun Φ2 H2 σ2 e2 => h Φ2 H2 σ2 (e.trans e2)
    | ct => exact fun Φ2 H2 σ2 e2 => h Φ2 H2 σ2 (e.trans e2)
    | rt d => exact fun v Φ2 H2 σ2 e2 => h v Φ2 H2 σ2 (e.trans e2)
    | rn ds => exact fun p vs Φ2 H2 σ2 e2 => h p vs Φ2 H2 σ2 (e.trans e2)
  | raise x ρ => exact fun Φ2 H2 σ2 c dd e2 => h Φ2 H2 σ2 c dd (e.trans e2)
  | stuck => exact h
def ImpM (t : TE) (f : S → M D) : Prop := ∀ B Φ H σ ρ, SOk K mg T B Φ H σ ρ → ∀ Q, PostM K mg E T B Φ σ (f ρ) Q → t σ H Q
def ImpV (t : TE) (f : S → M Sl) : Prop := ∀ B Φ H σ ρ, SOk K mg T B Φ H σ ρ → ∀ Q, PostV K mg E T B Φ σ (f ρ) Q → t σ H Q
def ImpMT (t : TT) (f : S → M Bool) : Prop := ∀ B Φ H σ ρ, SOk K mg T B Φ H σ ρ → ∀ Q, PostMT K mg E T B Φ σ (f ρ) Q → t σ H Q
def ImpMA (t : TA) (f : S → M (List D)) : Prop := ∀ B Φ H σ ρ, SOk K mg T B Φ H σ ρ → ∀ Q, PostMA K mg E T B Φ σ (f ρ) Q → t σ H Q
def ImpS (t : TS) (f : S → M Fl) : Prop := ∀ B Φ H σ ρ, B.M = B.Dn → SOk K mg T B Φ H σ ρ → ∀ D, PostS K mg E T B Φ D (f ρ) → t D σ H
structure DM (X : Cx) (e : Expr) (t : TE) (f : S → M D) : Prop where
  k : X.K = K
  m : X.mg = mg
  pe : PE X e t
  imp : ImpM K mg E T t f
structure DV (X : Cx) (e : Expr) (t : TE) (f : S → M Sl) : Prop where
  k : X.K = K
  m : X.mg = mg
  pe : PE X e t
  imp : ImpV K mg E T t f
structure DMT (X : Cx) (e : Expr) (t : TT) (f : S → M Bool) : Prop where
  k : X.K = K
  m : X.mg = mg
  pe : PT X e t
  imp : ImpMT K mg E T t f
structure DMW (X : Cx) (e : Expr) (t : TT) (f : S → M Bool) : Prop where
  k : X.K = K
  m : X.mg = mg
  pe : PW X e t
  imp : ImpMT K mg E T t f
structure DMA (X : Cx) (es : List Expr) (t : TA) (f : S → M (List D)) : Prop where
  k : X.K = K
  m : X.mg = mg
  pe : PA X es t
  imp : ImpMA K mg E T t f
structure DS (X : Cx) (st : Stmt) (t : TS) (f : S → M Fl) : Prop where
  k : X.K = K
  m : X.mg = mg
  ps : PS X st t
  imp : ImpS K mg E T t f
structure DSs (X : Cx) (st : List Stmt) (t : TS) (f : S → M Fl) : Prop where
  k : X.K = K
  m : X.mg = mg
  ps : PSs X st t
  imp : ImpS K mg E T t f
end
section
variable {K : PySem.W.Frag} {mg : Str → Option Value} {T : List (Addr × Str)} {E : XK} {B : Bs} {Φ Φ' H H' : Hp} {σ : L2.St} {ρ : S} {Q Q' : VK}
theorem PostX.toM {x : Exn} (s : SOk K mg T B Φ H σ ρ) (h : PostXM K mg E T B Φ σ x ρ) : PostX K mg E Φ H x := fun Φ' H' c dd g xo => h Φ' H' c dd g.p (s.grow g) xo
theorem PostE.toM {r : R D} (s : SOk K mg T B Φ H σ ρ) (h : PostM K mg E T B Φ σ (r.toM ρ) Q) : PostE K mg E Φ H r Q := by
  cases r with
  | ok d => exact fun v Φ' H' g sv => h v Φ' H' g.p (s.grow g) sv
  | raise x => exact PostX.toM s h
  | stuck => exact h
theorem PostXM.ext {x : Exn} (e : Ex Φ Φ') (h : PostXM K mg E T B Φ σ x ρ) : PostXM K mg E T B Φ' σ x ρ := fun Φ2 H2 c dd e2 s2 xo => h Φ2 H2 c dd (e.trans e2) s2 xo
theorem PostM.ext {r : M D} (e : Ex Φ Φ') (h : PostM K mg E T B Φ σ r Q) : PostM K mg E T B Φ' σ r Q := by
  cases r with
  | ok d ρ => exact fun v Φ2 H2 e2 => h v Φ2 H2 (e.trans e2)
  | raise x ρ => exact PostXM.ext e h
  | stuck => exact h
theorem PostV.ext {r : M Sl} (e : Ex Φ Φ') (h : PostV K mg E T B Φ σ r Q) : PostV K mg E T B Φ' σ r Q := by
  cases r with
  | ok d ρ => exact fun v Φ2 H2 e2 => h v Φ2 H2 (e.trans e2)
  | raise x ρ => exact PostXM.ext e h
  | stuck => exact h
theorem PostMT.ext {r : M Bool} {Q : Bool → Hp → Prop} (e : Ex Φ Φ') (h : PostMT K mg E T B Φ σ r Q) : PostMT K mg E T B Φ' σ r Q := by
  cases r with
  | ok d ρ => exact fun Φ2 H2 e2 => h Φ2 H2 (e.trans e2)
  | raise x ρ => exact PostXM.ext e h
  | stuck => exact h
theorem PostMA.ext {r : M (List D)} {Q : List V → Hp → Prop} (e : Ex Φ Φ') (h : PostMA K mg E T B Φ σ r Q) : PostMA K mg E T B Φ' σ r Q := by
  cases r with
  | ok d ρ => exact fun v Φ2 H2 e2 => h v Φ2 H2 (e.trans e2)
  | raise x ρ => exact PostXM.ext e h
  | stuck => exact h
theorem PostM.bind {r : M D} {k : D → S → M D} (h : PostM K mg E T B Φ σ (r.bind k) Q) (q : ∀ d ρ v Φ' H', Ex Φ Φ' → SOk K mg T B Φ' H' σ ρ → See K mg Φ' v d → PostM K mg E T B Φ' σ (k d ρ) Q → Q' v H') : PostM K mg E T B Φ σ r Q' := by
  cases r with
  | ok d ρ => exact fun v Φ' H' e s sv => q d ρ v Φ' H' e s sv (PostM.ext e h)
  | raise x ρ => exact h
  | stuck => exact h
theorem PostM.ofE {r : R D} (s : SOk K mg T B Φ H σ ρ) (h : PostM K mg E T B Φ σ (r.toM ρ) Q) (n : NoX r) : PostE K mg (fun _ _ _ => False) Φ H r Q := by
  cases r with
  | ok d => exact fun v Φ' H' g sv => h v Φ' H' g.p (s.grow g) sv
  | raise x => exact absurd rfl (n x)
  | stuck => exact h
end
section
variable {K : PySem.W.Frag} {mg : Str → Option Value} {T : List (Addr × Str)} {E : XK} {X : Cx} {a b c e : Expr} {es : List Expr} {ta tb te tc : TE} {tt tu : TT} {f g : S → R D} {fm gm : S → M D} {pos : Pos}
def mE (f : S → R D) : S → M D := fun ρ => (f ρ).toM ρ
theorem DE.toM (x : DE K mg E T X e te f) : DM K mg E T X e te (mE f) := ⟨x.k, x.m, x.pe, fun B Φ H σ ρ s Q h => x.imp B Φ H σ ρ s Q (PostE.toM s h)⟩
def vM (f : S → M D) : S → M Sl := fun ρ => (f ρ).bind fun d ρ => .ok (.fz d) ρ
theorem DM.toV (x : DM K mg E T X e te fm) : DV K mg E T X e te (vM fm) := ⟨x.k, x.m, x.pe, fun B Φ H σ ρ s Q h => x.imp B Φ H σ ρ s Q (by
  have h : PostV K mg E T B Φ σ ((fm ρ).bind fun d ρ => .ok (.fz d) ρ) Q := h
  cases q : fm ρ with
  | ok d ρ' => rw [q] at h; exact fun v Φ' H' e s sv => h v Φ' H' e s (.fz sv)
  | raise x ρ' => rw [q] at h; exact h
  | stuck => rw [q] at h; exact h)⟩
def vE (f : S → R D) : S → M Sl := fun ρ => ((f ρ).map Sl.fz).toM ρ
theorem DE.toV (x : DE K mg E T X e te f) : DV K mg E T X e te (vE f) := ⟨x.k, x.m, x.pe, fun B Φ H σ ρ s Q h => x.imp B Φ H σ ρ s Q (by
  have h : PostV K mg E T B Φ σ (((f ρ).map Sl.fz).toM ρ) Q := h
  cases q : f ρ with
  | ok d => rw [q] at h; exact fun v Φ' H' g sv => h v Φ' H' g.p (s.grow g) (.fz sv)
  | raise x => rw [q] at h; exact PostX.toM s h
  | stuck => rw [q] at h; exact h)⟩
def vN (f : S → R (List D)) : S → M Sl := fun ρ => ((f ρ).map Sl.ml).toM ρ
/-- new at its making: nobody owns it -/
theorem fresh_nd {B : Bs} {Φ Φ' H H' : Hp} {σ : L2.St} {ρ : S} {p : Addr} (s : SOk K mg T B Φ H σ ρ) (g : Gr Φ H Φ' H') (n : H p = none) : (B.H0 p = none ∧ p ∉ B.Dn) ∧ ∀ nd, NdOk K mg B Φ' H' σ ρ nd → ∀ j, p ∉ nd j := by
  refine ⟨⟨?_, fun m => s.b5 p m n⟩, fun nd y j m => ?_⟩
  · cases q : B.H0 p with
    | none => rfl
    | some o => exact absurd n (s.b4 p (not_none q))
  · obtain ⟨nd0, x⟩ := s.nds
    have x2 := x.mono g.p (fun _ a _ o e => g.h a o e) fun i a m => g.nm a (x.own i a m).1 (x.own i a m).2.1
    rw [y.uniq x2] at m
    exact (x.own j p m).2.1 n
theorem DN.toV {f : S → R (List D)} (x : DN K mg E T X e te f) : DV K mg E T X e te (vN f) := ⟨x.k, x.m, x.pe, fun B Φ H σ ρ s Q h => x.imp B Φ H σ ρ s Q (by
  have h : PostV K mg E T B Φ σ (((f ρ).map Sl.ml).toM ρ) Q := h
  cases q : f ρ with
  | ok d =>
    rw [q] at h
    intro p vs Φ' H' g n1 n2 e sv
    obtain ⟨h0, hn⟩ := fresh_nd s g n1
    exact h _ Φ' H' g.p (s.grow g) (.own (.ml e sv) (fun nd x j a m => by rw [List.mem_singleton.mp m]; exact hn nd x j) (fun a m => by rw [List.mem_singleton.mp m]; exact ⟨h0.1, n2, not_none e, h0.2⟩) fun _ z => by cases z)
  | raise x => rw [q] at h; exact PostX.toM s h
  | stuck => rw [q] at h; exact h)⟩
end

/-! ### statements -/
section
variable {K : PySem.W.Frag} {mg : Str → Option Value} {T : List (Addr × Str)} {E : XK} {X : Cx} {a b c e : Expr} {es : List Expr} {ta tb te tc : TE} {tt tu : TT} {f g : S → R D} {fm gm : S → M D} {pos : Pos} {st : Stmt} {sts : List Stmt} {ts us : TS} {p q : S → M Fl}
theorem PostXM.toS {B : Bs} {Φ : Hp} {σ : L2.St} {ρ : S} {x : Exn} (h : ∀ Φ' H' σ' c dd, Ex Φ Φ' → SOk K mg T B Φ' H' σ' ρ → XOk K mg Φ' x c dd → E c dd H') : PostXM K mg E T B Φ σ x ρ := fun Φ' H' c dd e s xo => h Φ' H' σ c dd e s xo
def sNext : S → M Fl := fun ρ => .ok .nx ρ
def sSeq (p q : S → M Fl) : S → M Fl := fun ρ => (p ρ).bind fun f ρ' => match f with
  | .nx => q ρ'
  | .bk => .ok .bk ρ'
  | .ct => .ok .ct ρ'
  | .rt d => .ok (.rt d) ρ'
  | .rn ds => .ok (.rn ds) ρ'
theorem imp_seq (h1 : ImpS K mg E T ts p) (h2 : ImpS K mg E T us q) : ImpS K mg E T (tSeq ts us) (sSeq p q) := by
  intro B Φ H σ ρ hM s D h
  refine h1 B Φ H σ ρ hM s { D with nx := us D } ?_
  have h : PostS K mg E T B Φ D ((p ρ).bind fun f ρ' => match f with
    | .nx => q ρ'
    | .bk => .ok .bk ρ'
    | .ct => .ok .ct ρ'
    | .rt d => .ok (.rt d) ρ'
    | .rn ds => .ok (.rn ds) ρ') := h
  cases e : p ρ with
  | ok fl ρ' =>
    rw [e] at h
    cases fl with
    | nx => exact fun Φ' H' σ' e' s' => h2 B Φ' H' σ' ρ' hM s' D (PostS.ext K mg E T e' h)
    | bk => exact h
    | ct => exact h
    | rt d => exact h
    | rn ds => exact h
  | raise x ρ' => rw [e] at h; exact h
  | stuck => rw [e] at h; exact h
theorem dss_nil (hk : X.K = K := by rfl) (hm : X.mg = mg := by rfl) : DSs K mg E T X [] tNext sNext := ⟨hk, hm, pss_nil, fun B Φ H σ ρ hM s D h => h Φ H σ (Ex.refl _) s⟩
theorem dss_cons (h1 : DS K mg E T X st ts p) (h2 : DSs K mg E T X sts us q) : DSs K mg E T X (st :: sts) (tSeq ts us) (sSeq p q) := ⟨h1.k, h1.m, pss_cons h1.ps h2.ps, imp_seq h1.imp h2.imp⟩
theorem dss_one (h1 : DS K mg E T X st ts p) : DSs K mg E T X [st] ts p := ⟨h1.k, h1.m, pss_one h1.ps, h1.imp⟩
def sPass : S → M Fl := sNext
theorem ds_pass (hk : X.K = K := by rfl) (hm : X.mg = mg := by rfl) : DS K mg E T X (.Pass pos) tNext sNext := ⟨hk, hm, ps_pass, fun B Φ H σ ρ hM s D h => h Φ H σ (Ex.refl _) s⟩
def sBreak : S → M Fl := fun ρ => .ok .bk ρ
theorem ds_break (hk : X.K = K := by rfl) (hm : X.mg = mg := by rfl) : DS K mg E T X (.Break pos) tBreak sBreak := ⟨hk, hm, ps_break, fun B Φ H σ ρ hM s D h => h Φ H σ (Ex.refl _) s⟩
def sCont : S → M Fl := fun ρ => .ok .ct ρ
theorem ds_continue (hk : X.K = K := by rfl) (hm : X.mg = mg := by rfl) : DS K mg E T X (.Continue pos) tCont sCont := ⟨hk, hm, ps_continue, fun B Φ H σ ρ hM s D h => h Φ H σ (Ex.refl _) s⟩
/-- return e -/
def sRet (f : S → M D) : S → M Fl := fun ρ => (f ρ).bind fun d ρ => .ok (.rt d) ρ
theorem ds_ret (h : DM K mg E T X e te fm) : DS K mg E T X (.Return (some e) pos) (tRet te) (sRet fm) := by
  refine ⟨h.k, h.m, ps_ret h.pe, fun B Φ H σ ρ hM s D z => h.imp B Φ H σ ρ s D.rt ?_⟩
  have z : PostS K mg E T B Φ D ((fm ρ).bind fun d ρ => .ok (.rt d) ρ) := z
  cases q : fm ρ with
  | ok d ρ' => rw [q] at z; exact fun v Φ' H' e s' sv => z v Φ' H' σ e s' sv
  | raise x ρ' => rw [q] at z; exact PostXM.toS z
  | stuck => rw [q] at z; exact z
theorem ds_retN (hk : X.K = K := by rfl) (hm : X.mg = mg := by rfl) : DS K mg E T X (.Return none pos) tRetN (fun ρ => .ok (.rt .non) ρ) := ⟨hk, hm, ps_retN, fun B Φ H σ ρ hM s D z => z .non Φ H σ (Ex.refl _) s .non⟩
/-- return of a new list -/
def sRetN (f : S → R (List D)) : S → M Fl := fun ρ => ((f ρ).map Fl.rn).toM ρ
theorem ds_retNew {f : S → R (List D)} (h : DN K mg E T X e te f) : DS K mg E T X (.Return (some e) pos) (tRet te) (sRetN f) := by
  refine ⟨h.k, h.m, ps_ret h.pe, fun B Φ H σ ρ hM s D z => h.imp B Φ H σ ρ s D.rt ?_⟩
  have z : PostS K mg E T B Φ D (((f ρ).map Fl.rn).toM ρ) := z
  cases q : f ρ with
  | ok d =>
    rw [q] at z
    intro p vs Φ' H' g n1 n2 e1 sv
    exact z p vs Φ' H' σ g.p (s.grow g) (fresh_nd s g n1).1.1 n2 e1 sv
  | raise x => rw [q] at z; exact fun Φ' H' c dd g xo => z Φ' H' σ c dd g.p (s.grow g) xo
  | stuck => rw [q] at z; exact z
/-- return of a list of one's own by its name -/
def sRetO (i : Nat) : S → M Fl := fun ρ => match ρ[i]? with
  | some (some (.fz d)) => .ok (.rt d) ρ
  | some (some (.ml ds)) => .ok (.rn ds) (ρ.set i none)
  | _ => .stuck
theorem SOk.drop {B : Bs} {Φ H : Hp} {σ : L2.St} {ρ : S} (s : SOk K mg T B Φ H σ ρ) (i : Nat) : SOk K mg T B Φ H σ (ρ.set i none) := by
  obtain ⟨b, len, nd, x⟩ := s
  refine ⟨b, by simpa using len, fun j => if j = i then [] else nd j, ⟨fun j s e => ?_, fun j a m => ?_, fun j k a m1 m2 => ?_, fun j n => ?_, fun j a ds m e => ?_, fun j s' l e hl => ?_⟩⟩
  · by_cases z : j = i
    · subst z
      by_cases lt : j < ρ.length
      · rw [List.getElem?_set_self lt] at e; cases e
      · rw [List.getElem?_eq_none (by simpa using lt)] at e; cases e
    · rw [List.getElem?_set_ne (Ne.symm z)] at e
      rw [if_neg z]
      exact x.at_ j s e
  · by_cases z : j = i
    · rw [if_pos z] at m; cases m
    · rw [if_neg z] at m; exact x.own j a m
  · by_cases z : j = i
    · rw [if_pos z] at m1; cases m1
    · by_cases z2 : k = i
      · rw [if_pos z2] at m2; cases m2
      · rw [if_neg z] at m1; rw [if_neg z2] at m2; exact x.inj j k a m1 m2
  · by_cases z : j = i
    · show (if j = i then [] else nd j) = []
      rw [if_pos z]
    · show (if j = i then [] else nd j) = []
      rw [if_neg z]
      exact x.emp j fun s e => n s (by rw [List.getElem?_set_ne (Ne.symm z)]; exact e)
  · by_cases z : j = i
    · rw [if_pos z] at m; cases m
    · rw [if_neg z] at m; rw [List.getElem?_set_ne (Ne.symm z)] at e; exact x.own2 j a ds m e
  · by_cases z : j = i
    · subst z
      by_cases lt : j < ρ.length
      · rw [List.getElem?_set_self lt] at e; cases e
      · rw [List.getElem?_eq_none (by simpa using lt)] at e; cases e
    · show (if j = i then [] else nd j) = _
      rw [if_neg z]; rw [List.getElem?_set_ne (Ne.symm z)] at e; exact x.dr0 j s' l e hl
theorem ds_retO (i : Nat) {x : Str} {pos' : Pos} (hN : X.N[i]? = some x := by rfl) (hv : Vis X.env.scope x := by first | exact Or.inl rfl | exact Or.inr (Or.inl rfl) | exact Or.inr (Or.inr rfl)) (hk : X.K = K := by rfl) (hm : X.mg = mg := by rfl)
    (hd : (x == ("__debug__" : Str)) = false := by decide) (hcd : (x == ("__classdict__" : Str)) = false := by decide) : DS K mg E T X (.Return (some (.Name x pos')) pos) (tRet (tVar i)) (sRetO i) := by
  refine ⟨hk, hm, ps_ret (pe_var hN hv hd hcd), fun B Φ H σ ρ hM s D h => ?_⟩
  obtain ⟨nd, n⟩ := id s.nds
  unfold sRetO at h
  split at h
  · rename_i d e
    obtain ⟨v, e1, e2⟩ := n.at_ i _ e
    generalize nd i = A at e2
    cases e2 with
    | fz r => exact ⟨v, e1, h v Φ H σ (Ex.refl _) s r⟩
  · rename_i d e
    obtain ⟨v, e1, e2⟩ := n.at_ i _ e
    have own := n.own i
    have own2 := n.own2 i
    generalize nd i = A at e2 own own2
    cases e2 with
    | ml q r =>
      rename_i p vs
      obtain ⟨o1, o2, o3⟩ := own p (by simp)
      refine ⟨_, e1, h p vs Φ H σ (Ex.refl _) (s.drop i) ?_ o1 q r⟩
      rcases o3 with o3 | z
      · exact o3
      · exact absurd (hM ▸ z) (own2 p _ (by simp) e)
  · exact h.elim
/-- x = e -/
def sSet (i : Nat) (f : S → M Sl) : S → M Fl := fun ρ => (f ρ).bind fun sl ρ => if i < ρ.length then .ok .nx (ρ.set i (some sl)) else .stuck
theorem SOk.setNew {B : Bs} {Φ H : Hp} {σ : L2.St} {ρ : S} {v : V} {sl : Sl} (s : SOk K mg T B Φ H σ ρ) (i : Nat) (hi : i < ρ.length) (h : SlNew K mg B Φ H σ ρ v sl) : SOk K mg T B Φ H (σ.set i (some v)) (ρ.set i (some sl)) := by
  cases h with
  | fz r => exact s.set i r
  | own h hn h0 hdr => exact s.setO i hi (fun nd x j _ => hn nd x j) h0 h hdr
theorem imp_set {i : Nat} {fv : S → M Sl} (h : ImpV K mg E T te fv) : ImpS K mg E T (tAsg te (gName i)) (sSet i fv) := by
  intro B Φ H σ ρ hM s D z
  refine h B Φ H σ ρ s _ ?_
  have z : PostS K mg E T B Φ D ((fv ρ).bind fun sl ρ => if i < ρ.length then .ok .nx (ρ.set i (some sl)) else .stuck) := z
  cases q : fv ρ with
  | ok sl ρ' =>
    rw [q] at z
    have z : PostS K mg E T B Φ D (if i < ρ'.length then .ok .nx (ρ'.set i (some sl)) else .stuck) := z
    split at z
    · rename_i hi
      exact fun v Φ' H' e s' n => z Φ' H' _ e (s'.setNew i hi n)
    · exact z.elim
  | raise x ρ' => rw [q] at z; exact PostXM.toS z
  | stuck => rw [q] at z; exact z
theorem ds_set (i : Nat) {x : Str} {pos' : Pos} {fv : S → M Sl} (hN : X.N.Nodup) (h : DV K mg E T X e te fv) (hi : X.N[i]? = some x := by rfl) (hx : Loc X.env.scope x := by first | exact Or.inl rfl | exact Or.inr rfl)
    (hs : swapsWith e (some (.Name x pos')) pos.line X.env = pure false := by rfl) (hf : X.fn x = true ∨ X.env.scope.names.lookup x = some .local := by first | exact .inl rfl | exact .inr rfl | assumption) :
    DS K mg E T X (.Assign [.Name x pos'] e pos) (tAsg te (gName i)) (sSet i fv) := ⟨h.k, h.m, ps_set hN hi hx h.pe hs hf, imp_set h.imp⟩
/-- e alone -/
def sDrop (f : S → M D) : S → M Fl := fun ρ => (f ρ).bind fun _ ρ => .ok .nx ρ
theorem ds_expr (h : DM K mg E T X e te fm) (hs : swapsWith e none pos.line X.env = pure false := by rfl) : DS K mg E T X (.Expr e pos) (tDrop te) (sDrop fm) := by
  refine ⟨h.k, h.m, ps_expr h.pe hs, fun B Φ H σ ρ hM s D z => h.imp B Φ H σ ρ s _ ?_⟩
  have z : PostS K mg E T B Φ D ((fm ρ).bind fun _ ρ => .ok .nx ρ) := z
  cases q : fm ρ with
  | ok d ρ' => rw [q] at z; exact fun v Φ' H' e s' _ => z Φ' H' σ e s'
  | raise x ρ' => rw [q] at z; exact PostXM.toS z
  | stuck => rw [q] at z; exact z
/-- if -/
def mT (f : S → R Bool) : S → M Bool := fun ρ => (f ρ).toM ρ
theorem DT.toM {f : S → R Bool} (x : DT K mg E T X e tt f) : DMT K mg E T X e tt (mT f) := ⟨x.k, x.m, x.pe, fun B Φ H σ ρ s Q h => x.imp B Φ H σ ρ s Q (by
  have h : PostMT K mg E T B Φ σ ((f ρ).toM ρ) Q := h
  cases q : f ρ with
  | ok d => rw [q] at h; exact fun Φ' H' g => h Φ' H' g.p (s.grow g)
  | raise x => rw [q] at h; exact PostX.toM s h
  | stuck => rw [q] at h; exact h)⟩
def sIf (c : S → M Bool) (p q : S → M Fl) : S → M Fl := fun ρ => (c ρ).bind fun b ρ => if b then p ρ else q ρ
theorem ds_if {cs ds : List Stmt} {fc : S → M Bool} (hc : DMT K mg E T X c tt fc) (ha : DSs K mg E T X cs ts p) (hb : DSs K mg E T X ds us q) : DS K mg E T X (.If c cs ds pos) (tIfS tt ts us) (sIf fc p q) := by
  refine ⟨hc.k, hc.m, ps_if hc.pe ha.ps hb.ps, fun B Φ H σ ρ hM s D z => hc.imp B Φ H σ ρ s _ ?_⟩
  have z : PostS K mg E T B Φ D ((fc ρ).bind fun b ρ => if b then p ρ else q ρ) := z
  cases e : fc ρ with
  | ok b ρ' =>
    rw [e] at z
    intro Φ' H' e' s'
    cases b with
    | true => exact ha.imp B Φ' H' σ ρ' hM s' D (PostS.ext K mg E T e' z)
    | false => exact hb.imp B Φ' H' σ ρ' hM s' D (PostS.ext K mg E T e' z)
  | raise x ρ' => rw [e] at z; exact PostXM.toS z
  | stuck => rw [e] at z; exact z
end
end TP
set_option Elab.async false
set_option linter.all false
set_option maxRecDepth 100000
/-! Tree programs: defs, calls, draws. -/
namespace TP
open PySem L2 PyProof.Rows PySem.Spec

/-! ### what a
        def promises -/
def spF (K : PySem.W.Frag) (mg : Str → Option Value) (F : List D → R D) : Sp := fun vs H Q E => ∃ Φ ds, Ex Φ H ∧ SeeAll K mg Φ vs ds ∧ PostE K mg E Φ H (F ds) Q
def spN (K : PySem.W.Frag) (mg : Str → Option Value) (F : List D → R (List D)) : Sp := fun vs H Q E => ∃ Φ ds, Ex Φ H ∧ SeeAll K mg Φ vs ds ∧ PostN K mg E Φ H (F ds) Q
/-- what a body does, as a function of its arguments: N slots, n of them parameters -/
def run (N n : Nat) (p : S → M Fl) (ds : List D) : R D := if ds.length = n then match p (ds.map (fun d => some (.fz d)) ++ List.replicate (N - n) none) with
  | .ok .nx _ => .ok .non
  | .ok (.rt d) _ => .ok d
  | .ok (.rn ds) _ => .ok (.lst ds)
  | .raise x _ => .raise x
  | _ => .stuck else .stuck
def runN (N n : Nat) (p : S → M Fl) (ds : List D) : R (List D) := if ds.length = n then match p (ds.map (fun d => some (.fz d)) ++ List.replicate (N - n) none) with
  | .ok (.rn ds) _ => .ok ds
  | .raise x _ => .raise x
  | _ => .stuck else .stuck
section
variable {K : PySem.W.Frag} {mg : Str → Option Value} {T : List (Addr × Str)} {E : XK} {Φ H : Hp} {Q : VK} {N : List Str}
theorem start_ok {vs : List V} {ds : List D} (ex : Ex Φ H) (s : SeeAll K mg Φ vs ds) : SOk K mg [] { Φ0 := Φ, H0 := H, M := [], Dn := [] } Φ H (L2.start N vs) (ds.map (fun d => some (.fz d)) ++ List.replicate (N.length - ds.length) none) := by
  have hl := SeeAll.length s
  have dr0 : ∀ (i : Nat) (s : Sl) (l : List Addr), (ds.map (fun d => some (Sl.fz d)) ++ List.replicate (N.length - ds.length) none)[i]? = some (some s) → s.fx 0 0 = some l → False := fun i s l e₀ hl => by
    have m := List.mem_of_getElem? e₀
    rcases List.mem_append.mp m with m | m
    · obtain ⟨d, _, z⟩ := List.mem_map.mp m
      cases z
      cases hl
    · rw [List.mem_replicate] at m
      cases m.2
  refine ⟨⟨ex, Ex.refl _, fun a o e₀ _ => e₀, fun a _ e₀ => e₀, fun a e₀ => e₀, fun a m => (by cases m), fun p m => (by cases m), fun p m => (by cases m), fun p m => (by cases m)⟩, ?_, fun _ => [], ⟨fun i s' e₀ => ?_, fun i a m => (by cases m), fun i j a m => (by cases m), fun i _ => rfl, fun i a ds m => (by cases m), fun i s l e₀ hl => (dr0 i s l e₀ hl).elim⟩⟩
  · unfold L2.start
    simp [hl]
  · by_cases lt : i < ds.length
    · rw [List.getElem?_append_left (by simpa using lt), List.getElem?_map] at e₀
      cases q : ds[i]? with
      | none => rw [q] at e₀; cases e₀
      | some d =>
        rw [q] at e₀
        cases e₀
        obtain ⟨v, e1, e2⟩ := SeeAll.get s q
        refine ⟨v, ?_, .fz e2⟩
        unfold L2.start
        rw [List.getElem?_append_left (by simp [hl, lt]), List.getElem?_map, e1]
        rfl
    · rw [List.getElem?_append_right (by simpa using Nat.le_of_not_lt lt)] at e₀
      have := List.mem_of_getElem? e₀
      rw [List.mem_replicate] at this
      cases this.2
/-- a body that does p keeps the promise of run -/
theorem body_ok {ts : TS} {p : S → M Fl} {vs : List V} {n : Nat} (hp : ImpS K mg E [] ts p) (h : ∃ Φ ds, Ex Φ H ∧ SeeAll K mg Φ vs ds ∧ PostE K mg E Φ H (run N.length n p ds) Q) : ts { nx := fun _ H' => Q .non H', rt := Q } (L2.start N vs) H := by
  obtain ⟨Φ, ds, ex, s, z⟩ := h
  unfold run at z
  split at z
  · rename_i hn
    refine hp { Φ0 := Φ, H0 := H, M := [], Dn := [] } Φ H _ _ rfl (start_ok ex s) _ ?_
    rw [hn]
    have gr : ∀ {Φ' H' σ' ρ'}, SOk K mg [] { Φ0 := Φ, H0 := H, M := [], Dn := [] } Φ' H' σ' ρ' → Gr Φ H Φ' H' := fun s' => ⟨s'.b1, fun a o e => s'.b2 a o e (by simp), s'.ex, fun a n q => s'.b3 a q n⟩
    generalize p _ = r at z
    cases r with
    | ok fl ρ' =>
      cases fl with
      | nx => exact fun Φ' H' σ' _ s' => z .non Φ' H' (gr s') .non
      | bk => exact z.elim
      | ct => exact z.elim
      | rt d => exact fun v Φ' H' σ' _ s' sv => z v Φ' H' (gr s') sv
      | rn es =>
        intro p vs' Φ' H' σ' _ s' h0 hΦ hl sv
        have g := gr s'
        refine z (.ref p) (upd Φ' p (.lst vs')) H' ⟨g.p.trans (Ex.new hΦ), g.h, fun a o e => ?_, fun a n e => ?_⟩ (.lst upd_same (SeeAll.mono (Ex.new hΦ) sv))
        · by_cases w : a = p
          · subst w; rw [upd_same] at e; cases e; exact hl
          · rw [upd_ne w] at e; exact g.ex a o e
        · have w : a ≠ p := fun w => e (by rw [w]; exact h0)
          rw [upd_ne w]
          exact g.nm a n e
    | raise x ρ' =>
      intro Φ' H' σ' c dd _ s' xo
      exact z Φ' H' c dd (gr s') xo
    | stuck => exact z.elim
  · exact z.elim
theorem body_okN {ts : TS} {p : S → M Fl} {vs : List V} {n : Nat} (hp : ImpS K mg E [] ts p) (h : ∃ Φ ds, Ex Φ H ∧ SeeAll K mg Φ vs ds ∧ PostN K mg E Φ H (runN N.length n p ds) Q) : ts { nx := fun _ H' => Q .non H', rt := Q } (L2.start N vs) H := by
  obtain ⟨Φ, ds, ex, s, z⟩ := h
  unfold runN at z
  split at z
  · rename_i hn
    refine hp { Φ0 := Φ, H0 := H, M := [], Dn := [] } Φ H _ _ rfl (start_ok ex s) _ ?_
    rw [hn]
    have gr : ∀ {Φ' H' σ' ρ'}, SOk K mg [] { Φ0 := Φ, H0 := H, M := [], Dn := [] } Φ' H' σ' ρ' → Gr Φ H Φ' H' := fun s' => ⟨s'.b1, fun a o e => s'.b2 a o e (by simp), s'.ex, fun a n q => s'.b3 a q n⟩
    generalize p _ = r at z
    cases r with
    | ok fl ρ' =>
      cases fl with
      | nx => exact z.elim
      | bk => exact z.elim
      | ct => exact z.elim
      | rt d => exact z.elim
      | rn es =>
        intro p vs' Φ' H' σ' _ s' h0 hΦ hl sv
        exact z p vs' Φ' H' (gr s') h0 hΦ hl sv
    | raise x ρ' =>
      intro Φ' H' σ' c dd _ s' xo
      exact z Φ' H' c dd (gr s') xo
    | stuck => exact z.elim
  · exact z.elim
theorem run_len {N n : Nat} {p : S → M Fl} {vs : List V} (h : spF K mg (run N n p) vs H Q E) : vs.length = n := by
  obtain ⟨Φ, ds, ex, s, z⟩ := h
  unfold run at z
  split at z
  · rename_i hn; rw [SeeAll.length s]; exact hn
  · exact z.elim
theorem runN_len {N n : Nat} {p : S → M Fl} {vs : List V} (h : spN K mg (runN N n p) vs H Q E) : vs.length = n := by
  obtain ⟨Φ, ds, ex, s, z⟩ := h
  unfold runN at z
  split at z
  · rename_i hn; rw [SeeAll.length s]; exact hn
  · exact z.elim
end
section
variable {P : Program} {w : World} {K :
        PySem.W.Frag} {mg : Str → Option Value} {base : Heap}
/-- g: it asks that nothing is being shown (A.guards) -/
def Gd (g : Bool) (A : Around) : Prop := g = true → A.guards = some []
theorem Gd.deeper {g : Bool} {A : Around} (h : Gd g A) (env : Env) : Gd g (A.deeper env) := h
theorem Gd.no {A : Around} : Gd false A := fun z => by cases z
/-- a def keeps its promise (g: where nothing is being shown) -/
structure FnG (g : Bool) (P : Program) (w : World) (K : PySem.W.Frag) (mg : Str → Option Value) (base : Heap) (k : Nat) (f : Addr) (fd : FuncData) (ps : List Str) (sp : Sp) : Prop where
  len : ∀ vs H Q E, sp vs H
          Q E → vs.length = ps.length
  run : ∀ (A : Around) (outer : List Env) (s : Shared) (H : Hp) (args : Args) (us : List Value) (vs : List V) (Q : VK) (E : XK), Room k A → Gd g A → Env0 P w K mg base A outer s H → BindsTo s fd args (ps.zip us) → Vals vs us → sp vs H Q E →
    codeAny (model P w) A (.call (.ref f) args) (CR (L2.CX P w) outer P w H s Q E) s
theorem FnG.ok {k : Nat} {f : Addr} {fd : FuncData} {ps : List Str} {sp : Sp} (F : FnG false P w K mg base k f fd ps sp) : FnOk P w K mg base (L2.CX P w) k f fd ps sp :=
  ⟨F.len, fun A outer s H args us vs Q E hr e0 hb r h => F.run A outer s H args us vs Q E hr Gd.no e0 hb r h⟩
theorem Fun.okG {g : Bool} {x qual : Str} {st : Stmt} {f : Addr} {fd : FuncData} {N ps : List Str} {k : Nat} {sp : Sp} (F : Fun K x qual st f fd) (S : FnScope N ps (defScope st)) (len : ∀ vs H Q E, sp vs H Q E → vs.length = ps.length)
    (hbody : ∀ (cdv : Value) (A : Around) (outer : List Env) (s : Shared) (H : Hp) (vs : List V) (Q : VK) (E : XK), Room k (A.deeper (envOfC qual (defScope st) s.heap.objs.size f cdv)) → Gd g A → fd.code = cdv → sp vs H Q E →
      ∃ t, PSs (cxOf (L2.CX P w) P w K mg base N qual (defScope st) f cdv A outer s H E) (defBody st) t ∧ t { nx := fun _ H' => Q .non H', rt := Q } (L2.start N vs) H) : FnG g P w K mg base (k + 1) f fd ps sp := by
  obtain ⟨oc, od, kV, doc, pm, an₀, cdv, ct, osl, rfl, lk, hcd⟩ := F.ex
  refine ⟨len, fun A outer s H args us vs Q E hr hg e0 hb r hsp => ?_⟩
  exact LamX.run_ofS lk hcd S hr e0 hb r (len _ _ _ _ hsp) fun hr' => hbody cdv A outer s H vs Q E hr' hg rfl hsp
/-- the def at f does F -/
abbrev FnF (g : Bool) (P : Program) (w : World) (K : PySem.W.Frag) (mg : Str → Option Value) (base : Heap) (k : Nat) (f : Addr) (fd : FuncData) (ps : List Str) (F : List D → R D) : Prop := FnG g P w K mg base k f fd ps (spF K mg F)
abbrev FnN (g : Bool) (P : Program) (w : World) (K : PySem.W.Frag) (mg : Str → Option Value) (base : Heap) (k : Nat) (f : Addr) (fd : FuncData) (ps : List Str) (F : List D → R (List D)) : Prop := FnG g P w K mg base k f fd ps (spN K mg F)
theorem fn_ok {g : Bool} {x qual : Str} {st : Stmt} {f : Addr} {fd : FuncData} {N ps : List Str} {k n : Nat} {p : S → M Fl} (F : Fun K x qual st f fd) (sc : FnScope N ps (defScope st)) (hn : ps.length = n)
    (hbody : ∀ (cdv : Value) (A : Around) (outer : List Env) (s : Shared) (H : Hp) (E : XK), Room k (A.deeper (envOfC qual (defScope st) s.heap.objs.size f cdv)) → Gd g A → fd.code = cdv →
      ∃ t, DSs K mg E [] (cxOf (L2.CX P w) P w K mg base N qual (defScope st) f cdv A outer s H E) (defBody st) t p) : FnF g P w K mg base (k + 1) f fd ps (run N.length n p) := by
  refine Fun.okG F sc (fun vs H Q E h => (run_len h).trans hn.symm) fun cdv A outer s H vs Q E hr hg hc h => ?_
  obtain ⟨t, d⟩ := hbody cdv A outer s H E hr hg hc
  exact ⟨t, d.ps, body_ok (E := E) d.imp h⟩
theorem fn_okN {g : Bool} {x qual : Str} {st : Stmt} {f : Addr} {fd : FuncData} {N ps : List Str} {k n : Nat} {p : S → M Fl} (F : Fun K x qual st f fd) (sc : FnScope N ps (defScope st)) (hn : ps.length = n)
    (hbody : ∀ (cdv : Value) (A : Around) (outer : List Env) (s : Shared) (H : Hp) (E : XK), Room k (A.deeper (envOfC qual (defScope st) s.heap.objs.size f cdv)) → Gd g A → fd.code = cdv →
      ∃ t, DSs K mg E [] (cxOf (L2.CX P w) P w K mg base N qual (defScope st) f cdv A outer s H E) (defBody st) t p) : FnN g P w K mg base (k + 1) f fd ps (runN N.length n p) := by
  refine Fun.okG F sc (fun vs H Q E h => (runN_len h).trans hn.symm) fun cdv A outer s H vs Q E hr hg hc h => ?_
  obtain ⟨t, d⟩ := hbody cdv A outer s H E hr hg hc
  exact ⟨t, d.ps, body_okN (E := E) d.imp h⟩
end
/-! ### calls -/
section
variable {K : PySem.W.Frag} {mg : Str → Option Value} {T : List (Addr × Str)} {E : XK} {X : Cx} {a b c e : Expr} {es : List Expr} {ta tb te tc : TE} {f g : S → R D} {fm gm : S → M D} {pos p : Pos} {ts : TA} {gs : S → R (List D)} {x : Str} {fA : Addr} {fd : FuncData} {ps : List Str} {k : Nat}
def dCall (F : List D → R D) (gs : S → R (List D)) : S → R D := fun ρ => (gs ρ).bind F
def dCallN (F : List D → R (List D)) (gs : S → R (List D)) : S → R (List D) := fun ρ => (gs ρ).bind F
theorem imp_call {F : List D → R D} (ha : ImpA K mg E T ts gs) : ImpE K mg E T (tCall (spF K mg F) [] E ts) (dCall F gs) := by
  intro B Φ H σ ρ s Q z
  refine ha B Φ H σ ρ s _ ?_
  have z : PostE K mg E Φ H ((gs ρ).bind F) Q := z
  cases q : gs ρ with
  | ok ds =>
    rw [q] at z
    intro vs Φ' H' gr sv
    refine ⟨Φ', ds, gr.ex, by rw [List.append_nil]; exact sv, PostE.grow gr z⟩
  | raise x => rw [q] at z; exact z
  | stuck => rw [q] at z; exact z
theorem PostN.grow {Φ Φ' H H' : Hp} {r : R (List D)} {Q : VK} (g : Gr Φ H Φ' H') (h : PostN K mg E Φ H r Q) : PostN K mg E Φ' H' r Q := by
  cases r with
  | ok d =>
    intro p vs Φ2 H2 g2 n1 n2 e s
    have n0 : H p = none := by
      cases q : H p with
      | none => rfl
      | some o => rw [g.h _ _ q] at n1; cases n1
    exact h p vs Φ2 H2 (g.trans g2) n0 n2 e s
  | raise x => exact PostX.grow g h
  | stuck => exact h
theorem imp_callN {F : List D → R (List D)} (ha : ImpA K mg E T ts gs) : ImpN K mg E T (tCall (spN K mg F) [] E ts) (dCallN F gs) := by
  intro B Φ H σ ρ s Q z
  refine ha B Φ H σ ρ s _ ?_
  have z : PostN K mg E Φ H ((gs ρ).bind F) Q := z
  cases q : gs ρ with
  | ok ds =>
    rw [q] at z
    intro vs Φ' H' gr sv
    refine ⟨Φ', ds, gr.ex, by rw [List.append_nil]; exact sv, PostN.grow gr z⟩
  | raise x => rw [q] at z; exact z
  | stuck => rw [q] at z; exact z
/-- a def's promise where X stands -/
structure FnAt (X : Cx) (f : Addr) (fd : FuncData) (ps : List Str) (sp : Sp) : Prop where
  len : ∀ vs H Q E, sp vs H
          Q E → vs.length = ps.length
  run : ∀ (s : Shared) (H : Hp) (args : Args) (us : List Value) (vs : List V) (Q : VK) (E : XK), Env0 X.prog X.w X.K X.mg X.base X.A X.stack s H → BindsTo s fd args (ps.zip us) → Vals vs us → sp vs H Q E →
    codeAny (model X.prog X.w) X.A (.call (.ref f) args) (CR (L2.CX X.prog X.w) X.stack X.prog X.w H s Q E) s
theorem FnG.at_ {g : Bool} {sp : Sp} (F : FnG g X.prog X.w X.K X.mg X.base k fA fd ps sp) (hr : Room k X.A) (hg : Gd g X.A) : FnAt X fA fd ps sp :=
  ⟨F.len, fun s H args us vs Q E e0 hb r h => F.run X.A X.stack s H args us vs Q E hr hg e0 hb r h⟩
theorem run_at {pins : List (Addr × Obj)} {σ : L2.St} {H : Hp} {s : Shared} {Q : VK} {us : List Value} {vs : List V} {sp : Sp} (F : FnAt X fA fd ps sp) (hb : Binds X.K fd ps []) (hx : Passes (L2.CX X.prog X.w) X E)
    (I : Inv X pins σ H s) (r : Vals vs us) (h : sp (vs ++ []) H Q E) : wpAny (model X.prog X.w) X.A (call (.ref fA) us) (EP X pins σ Q) X.xe s := by
  rw [List.append_nil] at h
  have hl : (us ++ []).length = ps.length := by rw [List.append_nil, ← r.length]; exact F.len _ _ _ _ h
  have hb' := hb s us I.kIn hl
  rw [List.append_nil] at hb'
  refine wpAny_call (codeAny_mono (F.run s H ⟨us, []⟩ us vs Q E I.env0 hb' r h) fun r s'₀ hq => ?_)
  cases r with
  | error e => exact hx pins σ H s e s'₀ I hq
  | ok fl =>
    cases fl with
    | ret u => exact I.after hq
    | next => exact False.elim hq
    | brk => exact False.elim hq
    | cont => exact False.elim hq
/-- what a caller must know of a def -/
structure Callee (X : Cx) (x : Str) (f : Addr) (fd : FuncData) (ps : List Str) (sp : Sp) : Prop where
  ok : FnAt X f fd ps sp
  gl : X.mg x = some (.ref f)
  kp : PySem.W.keepIn X.K (.ref f) = true
  bi : Binds X.K fd ps []
theorem pe_at {sp : Sp} {t : TA} (C : Callee X x fA fd ps sp) (hg : Gl X x) (hx : Passes (L2.CX X.prog X.w) X E)
    (ha : PA X (e :: es) t) (hdb : (x == ("__debug__" : Str)) = false) (he : starEach (e :: es) X.env = (false, eval e X.env) :: starEach es X.env) (hpl : (backTo pos (starEach es X.env)).any (·.1) = false) :
    PE X (.Call (.Name x p) (e :: es) [] pos) (tCall sp [] E t) := by
  refine ⟨fun pins s σ H Q₀ I h => ?_⟩
  refine wpAny_Call_Name_kw (ld_glob I hg C.gl ?_ hdb)
  refine PySem.W.callWith_K (h₀ := X.base) I.ok.mod.kin C.kp (thn (ha.run pos pins s σ H _ I h) fun us s1 ⟨vs, H1, I1, r, q⟩ => ⟨I1.kIn, ?_⟩) he hpl
  exact run_at C.ok C.bi hx I1 r q
theorem de_call {F : List D → R D} (C : Callee X x fA fd ps (spF K mg F)) (hx : Passes (L2.CX X.prog X.w) X E) (ha : DA K mg E T X (e :: es) ts gs) (hg : Gl X x := by rfl)
    (hdb : (x == ("__debug__" : Str)) = false := by decide) (he : starEach (e :: es) X.env = (false, eval e
            X.env) :: starEach es X.env := by rfl) (hpl : (backTo pos (starEach es X.env)).any (·.1) = false := by rfl) :
    DE K mg E T X (.Call (.Name x p) (e :: es) [] pos) (tCall (spF K mg F) [] E ts) (dCall F gs) :=
  ⟨ha.k, ha.m, pe_at C hg hx ha.pe hdb he hpl, imp_call ha.imp⟩
theorem dn_call {F : List D → R (List D)} (C : Callee X x fA fd ps (spN K mg F)) (hx : Passes (L2.CX X.prog X.w) X E) (ha : DA K mg E T X (e :: es) ts gs) (hg : Gl X x := by rfl)
    (hdb : (x == ("__debug__" : Str)) = false := by decide) (he : starEach (e :: es) X.env = (false, eval e
            X.env) :: starEach es X.env := by rfl) (hpl : (backTo pos (starEach es X.env)).any (·.1) = false := by rfl) :
    DN K mg E T X (.Call (.Name x p) (e :: es) [] pos) (tCall (spN K mg F) [] E ts) (dCallN F gs) :=
  ⟨ha.k, ha.m, pe_at C hg hx ha.pe hdb he hpl, imp_callN ha.imp⟩
/-! ### built-ins of one thing that is read -/
def Op1 (K : PySem.W.Frag) (mg : Str → Option Value) (r : List V → Hp → VK → Prop) (g : D → R D) : Prop :=
  ∀ (Φ H : Hp) (x : V) (dx : D) (Q : VK), Ex Φ H → SeeB K mg Φ H x dx → PostE K mg (fun _ _ _ => False) Φ H (g dx) Q → r [x] H Q
def Op1N (K : PySem.W.Frag) (mg : Str → Option Value) (r : List V → Hp → VK → Prop) (g : D → R (List D)) : Prop :=
  ∀ (Φ H : Hp) (x : V) (dx : D) (Q : VK), Ex Φ H → SeeB K mg Φ H x dx → PostN K mg (fun _ _ _ => False) Φ H (g dx) Q → r [x] H Q
def d1 (g : D → R D) (f : S → R D) : S → R D := fun ρ => (f ρ).bind g
def d1N (g : D → R (List D)) (f : S → R D) : S → R (List D) := fun ρ => (f ρ).bind g
theorem imp_d1 {r : List V → Hp → VK → Prop} {g : D → R D} (hr : Op1 K mg r g) (hn : ∀ x, NoX (g x)) (ha : ImpB K mg E T ta f) : ImpE K mg E T (tCB r (tCons ta tNil)) (d1 g f) := by
  intro B Φ H σ ρ s Q q
  refine ha B Φ H σ ρ s _ (PostB.bindE q fun dx x Φ1 H1 g1 s1 q1 => ?_)
  exact hr Φ1 H1 x dx Q g1.ex s1 (PostE.noX (hn _) q1)
theorem PostN.noX {Φ H : Hp} {Q : VK} {r : R (List D)} (n : NoX r) (h : PostN K mg E Φ H r Q) : PostN K mg (fun _ _ _ => False) Φ H r Q := by
  cases r with
  | ok d => exact h
  | raise x => exact absurd rfl (n x)
  | stuck => exact h
theorem PostB.bindN {r : R D} {k : D → R (List D)} {Q Q' : VK} {Φ H : Hp} (h : PostN K mg E Φ H (r.bind k) Q)
    (q : ∀ d v Φ' H', Gr Φ H Φ' H' → SeeB K mg Φ' H' v d → PostN K mg E Φ' H' (k d) Q → Q' v H') : PostB K mg E Φ H r Q' := by
  cases r with
  | ok d => exact fun v Φ' H' g s => q d v Φ' H' g s (PostN.grow g h)
  | raise x => exact h
  | stuck => exact h
theorem imp_d1N {r : List V → Hp → VK → Prop} {g : D → R (List D)} (hr : Op1N K mg r g) (hn : ∀ x, NoX (g x)) (ha : ImpB K mg E T ta f) : ImpN K mg E T (tCB r (tCons ta tNil)) (d1N g f) := by
  intro B Φ H σ ρ s Q q
  refine ha B Φ H σ ρ s _ (PostB.bindN q fun dx x Φ1 H1 g1 s1 q1 => ?_)
  exact hr Φ1 H1 x dx Q g1.ex s1 (PostN.noX (hn _) q1)
theorem de_bi {r : List V → Hp → VK → Prop} {g : D → R D} {id : String} (hc : CallR X (.builtin id) r) (hr : Op1 K mg r g) (hn : ∀ x, NoX (g x)) (hm : mg x = none) (hv : bootBuiltins x = some (.builtin id)) (ha : DB K mg E T X a ta f) (hg : Gl X x := by rfl)
    (hnn : x ≠ "__name__" := by decide) (hdb : (x == ("__debug__" : Str)) = false := by decide) (hs : starEach (a :: []) X.env = (false, eval a X.env) :: starEach [] X.env := by rfl)
    (hpl : (backTo pos (starEach ([] : List Expr) X.env)).any (·.1) = false := by rfl) :
    DE K mg E T X (.Call (.Name x p) [a] [] pos) (tCB r (tCons ta tNil)) (d1 g f) := ⟨ha.k, ha.m, pe_callB hc hg (by rw [ha.m]; exact hm) hv (pa_cons ha.pe pa_nil hs) hnn hdb hs hpl, imp_d1 hr hn ha.imp⟩
theorem dn_bi {r : List V → Hp → VK → Prop} {g : D → R (List D)} {id : String} (hc : CallR X (.builtin id) r) (hr : Op1N K mg r g) (hn : ∀ x, NoX (g x)) (hm : mg x = none) (hv : bootBuiltins x = some (.builtin id)) (ha : DB K mg E T X a ta f) (hg : Gl X x := by rfl)
    (hnn : x ≠ "__name__" := by decide) (hdb : (x == ("__debug__" : Str)) = false := by decide) (hs : starEach (a :: []) X.env = (false, eval a X.env) :: starEach [] X.env := by rfl)
    (hpl : (backTo pos (starEach ([] : List Expr) X.env)).any (·.1) = false := by rfl) :
    DN K mg E T X (.Call (.Name x p) [a] [] pos) (tCB r (tCons ta tNil)) (d1N g f) := ⟨ha.k, ha.m, pe_callB hc hg (by rw [ha.m]; exact hm) hv (pa_cons ha.pe pa_nil hs) hnn hdb hs hpl, imp_d1N hr hn ha.imp⟩
theorem de_ty {r : List V → Hp → VK → Prop} {g : D → R D} {id : String} (hc : CallR X (.type id) r) (hr : Op1 K mg r g) (hn : ∀ x, NoX (g x)) (hm : mg x = none) (hv : bootBuiltins x = some (.type id)) (ha : DB K mg E T X a ta f) (hg : Gl X x := by rfl)
    (hnn : x ≠ "__name__" := by decide) (hdb : (x == ("__debug__" : Str)) = false := by decide) (hs : starEach (a :: []) X.env = (false, eval a X.env) :: starEach [] X.env := by rfl)
    (hpl : (backTo pos (starEach ([] : List Expr) X.env)).any (·.1) = false := by rfl) :
    DE K mg E T X (.Call (.Name x p) [a] [] pos) (tCB r (tCons ta tNil)) (d1 g f) := ⟨ha.k, ha.m, pe_callTy hc hg (by rw [ha.m]; exact hm) hv (pa_cons ha.pe pa_nil hs) hnn hdb hs hpl, imp_d1 hr hn ha.imp⟩
theorem dn_ty {r : List V → Hp → VK → Prop} {g : D → R (List D)} {id : String} (hc : CallR X (.type id) r) (hr : Op1N K mg r g) (hn : ∀ x, NoX (g x)) (hm : mg x = none) (hv : bootBuiltins x = some (.type id)) (ha : DB K mg E T X a ta f) (hg : Gl X x := by rfl)
    (hnn : x ≠ "__name__" := by decide) (hdb : (x == ("__debug__" : Str)) = false := by decide) (hs : starEach (a :: []) X.env = (false, eval a X.env) :: starEach [] X.env := by rfl)
    (hpl : (backTo pos (starEach ([] : List Expr) X.env)).any (·.1) = false := by rfl) :
    DN K mg E T X (.Call (.Name x p) [a] [] pos) (tCB r (tCons ta tNil)) (d1N g f) := ⟨ha.k, ha.m, pe_callTy hc hg (by rw [ha.m]; exact hm) hv (pa_cons ha.pe pa_nil hs) hnn hdb hs hpl, imp_d1N hr hn ha.imp⟩
end
end TP
set_option Elab.async false
set_option linter.all false
set_option maxRecDepth 100000
/-! Tree programs: loops, comprehensions. -/
namespace TP
open PySem L2 PyProof.Rows PySem.Spec

/-- what is walked gives these, one after another -/
def WalkD (K : PySem.W.Frag) (mg : Str → Option Value) (Φ : Hp) (J : It) (ds : List D) : Prop :=
  ∃ (G : Hp → Prop) (Y : Nat → Hp → V → Hp → Prop), Walk J ds.length G Y ∧ (∀ Φ' H', Ex Φ Φ' → Ex Φ' H' → G H') ∧
    ∀ i Φ' H' x H'', i < ds.length → Ex Φ Φ' → Ex Φ' H' → Y i H' x H'' → ∃ Φ'' d, Gr Φ' H' Φ'' H'' ∧ ds[i]? = some d ∧ See K mg Φ'' x d
section
variable (K : PySem.W.Frag) (mg : Str → Option Value) (E : XK) (T : List (Addr × Str))
def PostMI (B : Bs) (Φ : Hp) (σ : L2.St) (r : M (List D)) (R' : It → Hp → Prop) : Prop := match r with
  | .ok ds ρ => ∀ J Φ' H', Ex Φ Φ' → SOk K mg T B Φ' H' σ ρ → WalkD K mg Φ' J ds → R' J H'
  | .raise x ρ => PostXM K mg E T B Φ σ x ρ
  | .stuck => False
def ImpMI (wi : TI) (f : S → M (List D)) : Prop := ∀ B Φ H σ ρ, SOk K mg T B Φ H σ ρ → ∀ R', PostMI K mg E T B Φ σ (f ρ) R' → wi σ H R'
structure DI (X : Cx) (tg iter : Expr) (wi : TI) (f : S → M (List D)) : Prop where
  k : X.K = K
  m : X.mg = mg
  pi : PI X tg iter wi
  imp : ImpMI K mg E T wi f
/-- a target: what it does of the slots -/
def ImpG (g : TG) (asg : D → S → Option S) (is : List Nat) : Prop := ∀ B Φ H σ ρ v d ρ' (Q : L2.St → Hp → Prop), SOk K mg T B Φ H σ ρ → See K mg Φ v d → asg d ρ = some ρ' →
  (∀ σ', SOk K mg T B Φ H σ' ρ' → (∀ j, j ∉ is → σ'[j]? = σ[j]?) → σ'.length = σ.length → Q σ' H) → g v σ H Q
structure DG (X : Cx) (tg : Expr) (g : TG) (asg : D → S → Option S) (is : List Nat) : Prop where
  k : X.K = K
  m : X.mg = mg
  pg : PG X tg g
  imp : ImpG K mg T g asg is
def ImpGs (g : TGs) (asg : List D → S → Option S) (is : List Nat) : Prop := ∀ B Φ H σ ρ vs ds ρ' (Q : L2.St → Hp → Prop), SOk K mg T B Φ H σ ρ → SeeAll K mg Φ vs ds → asg ds ρ = some ρ' →
  (∀ σ', SOk K mg T B Φ H σ' ρ' → (∀ j, j ∉ is → σ'[j]? = σ[j]?) → σ'.length = σ.length → Q σ' H) → g vs σ H Q
structure DGs (X : Cx) (tg : List Expr) (g : TGs) (asg : List D → S → Option S) (is : List Nat) : Prop where
  k : X.K = K
  m : X.mg = mg
  pg : PGs X tg g
  imp : ImpGs K mg T g asg is
end
def asgN (i : Nat) : D → S → Option S := fun d ρ => if i < ρ.length then some (ρ.set i (some (.fz d))) else none
def asgNil : List D → S → Option S := fun ds ρ => match ds with
  | [] => some ρ
  | _ => none
def asgCons (a : D → S → Option S) (b : List D → S → Option S) : List D → S → Option S := fun ds ρ => match ds with
  | d :: r => (a d ρ).bind (b r)
  | [] => none
def asgT (a : List D → S → Option S) : D → S → Option S := fun d ρ => match d with
  | .tup ds => a ds ρ
  | .pr ds => a ds ρ
  | _ => none
/-- the loop -/
def loop (asg : D → S → Option S) (body : S → M Fl) : List D → S → M Fl
  | [], ρ => .ok .nx ρ
  | d :: ds, ρ => match asg d ρ with
    | none => .stuck
    | some ρ1 => (body ρ1).bind fun fl ρ2 => match fl with
      | .nx => loop asg body ds ρ2
      | .ct => loop asg body ds ρ2
      | .bk => .ok .nx ρ2
      | .rt d => .ok (.rt d) ρ2
      | .rn es => .ok (.rn es) ρ2
def sFor (f : S → M (List D)) (asg : D → S → Option S) (body : S → M Fl) : S → M Fl := fun ρ => (f ρ).bind fun ds ρ => loop asg body ds ρ
/-- while, with fuel -/
def whileN (t : S → M Bool) (body : S → M Fl) : Nat → S → M Fl
  | 0, _ => .stuck
  | n + 1, ρ => (t ρ).bind fun b ρ1 => if b then (body ρ1).bind fun fl ρ2 => match fl with
      | .nx => whileN t body n ρ2
      | .ct => whileN t body n ρ2
      | .bk => .ok .nx ρ2
      | .rt d => .ok (.rt d) ρ2
      | .rn es => .ok (.rn es) ρ2 else .ok .nx ρ1
section
variable {K : PySem.W.Frag} {mg : Str → Option Value} {T : List (Addr × Str)} {E : XK} {X : Cx} {a b c e tg iter : Expr} {es : List Expr} {ta tb te tc : TE} {tt tu : TT} {f g : S → R D} {fm gm : S → M D} {pos : Pos} {st : Stmt} {sts : List Stmt} {ts us : TS} {p q : S → M Fl}
theorem dg_name (i : Nat) {x : Str} (hN : X.N.Nodup) (hi : X.N[i]? = some x := by rfl) (hx : Loc X.env.scope x := by first | exact Or.inl rfl | exact Or.inr rfl)
    (hf : X.fn x = true ∨ X.env.scope.names.lookup x = some .local := by first | exact .inl rfl | exact .inr rfl | assumption) (hk : X.K = K := by rfl) (hm : X.mg = mg := by rfl) : DG K mg T X (.Name x pos) (gName i) (asgN i) [i] := by
  refine ⟨hk, hm, pg_name hN hi hx hf, fun B Φ H σ ρ v d ρ' Q s sv h k => ?_⟩
  unfold asgN at h
  split at h
  · cases h
    refine k _ (s.set i sv) (fun j hj => ?_) (by simp)
    rw [List.getElem?_set_ne (fun z => hj (by simp [z]))]
  · cases h
theorem dgs_nil (hk : X.K = K := by rfl) (hm : X.mg = mg := by rfl) : DGs K mg T X [] gNil asgNil [] := ⟨hk, hm, pgs_nil, fun B Φ H σ ρ vs ds ρ' Q s sv h k => by
  cases sv with
  | nil => cases h; exact ⟨rfl, k σ s (fun _ _ => rfl) rfl⟩
  | cons _ _ => cases h⟩
theorem dgs_cons {t : TG} {u : TGs} {a1 : D → S → Option S} {a2 : List D → S → Option S} {is js : List Nat} (h1 : DG K mg T X e t a1 is) (h2 : DGs K mg T X es u a2 js)
    (hs : (assignEach (e :: es) X.env).map (·.2) = assign e X.env :: (assignEach es X.env).map (·.2) := by rfl) : DGs K mg T X (e :: es) (gCons t u) (asgCons a1 a2) (is ++ js) := ⟨h1.k, h1.m, pgs_cons h1.pg h2.pg hs, fun B Φ H σ ρ vs ds ρ' Q s sv h k => by
  cases sv with
  | nil => cases h
  | cons r t' =>
    rename_i v d vs ds
    have h : (a1 d ρ).bind (a2 ds) = some ρ' := h
    cases q : a1 d ρ with
    | none => rw [q] at h; cases h
    | some ρ1 =>
      rw [q] at h
      refine ⟨_, _, rfl, h1.imp B Φ H σ ρ _ _ ρ1 _ s r q fun σ1 s1 e1 l1 => ?_⟩
      exact h2.imp B Φ H σ1 ρ1 _ _ ρ' Q s1 t' h fun σ2 s2 e2 l2 => k σ2 s2 (fun j hj => (e2 j fun z => hj (by simp [z])).trans (e1 j fun z => hj (by simp [z]))) (l2.trans l1)⟩
theorem dg_tup {t : TGs} {a1 : List D → S → Option S} {is : List Nat} {n k : Nat} (hc : X.calm = true) (h : DGs K mg T X es t a1 is) (hl : ∀ ds ρ ρ', a1 ds ρ = some ρ' → ds.length = n)
    (hn : (assignEach es X.env).length = n := by rfl) (hst : (assignEach es X.env).findIdx? (·.1) = none := by rfl) : DG K mg T X (.Tuple es k pos) (gTup K n t) (asgT a1) is := by
  obtain ⟨hk, hm, hp, hi⟩ := h
  subst hk
  refine ⟨rfl, hm, pg_tup hc hp hn hst, fun B Φ H σ ρ v d ρ' Q s sv h k => ?_⟩
  unfold asgT at h
  split at h
  · cases sv with
    | tup e r => exact ⟨_, _, rfl, ex_t s.ex e.t, (SeeAll.length r).trans (hl _ _ _ h), hi B Φ H σ ρ _ _ ρ' Q s r h k⟩
  · cases sv with
    | pr e r => exact ⟨_, _, rfl, .inl (.inl (s.ex _ _ e)), (SeeAll.length r).trans (hl _ _ _ h), hi B Φ H σ ρ _ _ ρ' Q s r h k⟩
  · cases h
theorem asg_len0 : ∀ ds ρ ρ', asgNil ds ρ = some ρ' → ds.length = 0 := fun ds ρ ρ' h => by
  cases ds with
  | nil => rfl
  | cons _ _ => cases h
theorem asg_lenS {a1 : D → S → Option S} {a2 : List D → S → Option S} {n : Nat} (h : ∀ ds ρ ρ', a2 ds ρ = some ρ' → ds.length = n) : ∀ ds ρ ρ', asgCons a1 a2 ds ρ = some ρ' → ds.length = n + 1 := fun ds ρ ρ' e₀ => by
  cases ds with
  | nil => cases e₀
  | cons d r =>
    have e₀ : (a1 d ρ).bind (a2 r) = some ρ' := e₀
    cases q : a1 d ρ with
    | none => rw [q] at e₀; cases e₀
    | some ρ1 => rw [q] at e₀; simp [h r ρ1 ρ' e₀]
/-- for -/
theorem imp_for {wi : TI} {g : TG} {tb : TS} {fi : S → M (List D)} {asg : D → S → Option S} {is : List Nat} {body : S → M Fl} (hi : ImpMI K mg E T wi fi) (hg : ImpG K mg T g asg is) (hb : ImpS K mg E T tb body) : ImpS K mg E T (tFor wi g tb) (sFor fi asg body) := by
  intro B Φ H σ ρ hM s D z
  refine hi B Φ H σ ρ s _ ?_
  have z : PostS K mg E T B Φ D ((fi ρ).bind fun ds ρ => loop asg body ds ρ) := z
  cases q : fi ρ with
  | raise x ρ' => rw [q] at z; exact PostXM.toS z
  | stuck => rw [q] at z; exact z
  | ok ds ρ0 =>
    rw [q] at z
    have z : PostS K mg E T B Φ D (loop asg body ds ρ0) := z
    intro J Φ1 H1 e1 s1 ⟨G, Y, w, hG, hY⟩
    refine for_it w (fun i σ' H' => ∃ Φ' ρ', Ex Φ1 Φ' ∧ SOk K mg T B Φ' H' σ' ρ' ∧ PostS K mg E T B Φ' D (loop asg body (ds.drop i) ρ')) ⟨Φ1, ρ0, Ex.refl _, s1, PostS.ext K mg E T e1 z⟩ (fun i σ' H' _ ⟨Φ', ρ', e', s', _⟩ => hG Φ' H' e' s'.ex) ?_ ?_
    · rintro i x σ' H' H2 hlt ⟨Φ', ρ', e', s', z'⟩ hy
      obtain ⟨Φ2, d, gr, hd, sd⟩ := hY i Φ' H' x H2 hlt e' s'.ex hy
      have hdrop : ds.drop i = d :: ds.drop (i + 1) := by
        have hlt' := (List.getElem?_eq_some_iff.mp hd).1
        rw [List.drop_eq_getElem_cons hlt', (List.getElem?_eq_some_iff.mp hd).2]
      rw [hdrop] at z'
      unfold loop at z'
      split at z'
      · exact z'.elim
      · rename_i ρ1 ea
        refine hg B Φ2 H2 σ' ρ' x d ρ1 _ (s'.grow gr) sd ea fun σ2 s2 _ _ => ?_
        refine hb B Φ2 H2 σ2 ρ1 hM s2 _ ?_
        have ep : Ex Φ1 Φ2 := e'.trans gr.p
        have z' := PostS.ext K mg E T gr.p z'
        cases qb : body ρ1 with
        | ok fl ρ2 =>
          rw [qb] at z'
          cases fl with
          | nx => exact fun Φ3 H3 σ3 e3 s3 => ⟨Φ3, ρ2, ep.trans e3, s3, PostS.ext K mg E T e3 z'⟩
          | ct => exact fun Φ3 H3 σ3 e3 s3 => ⟨Φ3, ρ2, ep.trans e3, s3, PostS.ext K mg E T e3 z'⟩
          | bk => exact z'
          | rt d => exact z'
          | rn es => exact z'
        | raise x ρ2 => rw [qb] at z'; exact z'
        | stuck => rw [qb] at z'; exact z'
    · rintro σ' H' ⟨Φ', ρ', e', s', z'⟩
      have en : ds.drop ds.length = [] := List.drop_length
      rw [en] at z'
      exact z' Φ' H' σ' (Ex.refl _) s'
theorem ds_for {wi : TI} {g : TG} {fi : S → M (List D)} {asg : D → S → Option S} {is : List Nat} (hp : PassesOwn (model X.prog X.w) X.A X.env X.xe) (hc : X.calm = true) (hi : DI K mg E T X tg iter wi fi) (hg : DG K mg T X tg g asg is) (hb : DSs K mg E T X sts ts p)
    (hs : ∀ x, foldedSetIterable iter X.env x = pure x := by intro _; rfl) : DS K mg E T X (.For tg iter sts [] pos) (tFor wi g ts) (sFor fi asg p) := ⟨hi.k, hi.m, ps_for hp hc hi.pi hg.pg hb.ps hs, imp_for hi.imp hg.imp hb.imp⟩
/-- while -/
theorem imp_while {tb : TS} {ft : S → M Bool} {body : S → M Fl} (n : Nat) (ht : ImpMT K mg E T tt ft) (hb : ImpS K mg E T tb body) : ImpS K mg E T (tWhile tt tb) (whileN ft body n) := by
  intro B Φ H σ ρ hM s D z
  refine ⟨fun m σ' H' => ∃ Φ' ρ', SOk K mg T B Φ' H' σ' ρ' ∧ PostS K mg E T B Φ' D (whileN ft body m ρ'), ⟨n, Φ, ρ, s, z⟩, ?_⟩
  rintro m σ' H' ⟨Φ', ρ', s', z'⟩
  cases m with
  | zero => exact z'.elim
  | succ m =>
    refine ht B Φ' H' σ' ρ' s' _ ?_
    have z' : PostS K mg E T B Φ' D ((ft ρ').bind fun b ρ1 => if b then (body ρ1).bind fun fl ρ2 => match fl with
      | .nx => whileN ft body m ρ2
      | .ct => whileN ft body m ρ2
      | .bk => .ok .nx ρ2
      | .rt d => .ok (.rt d) ρ2
      | .rn es => .ok (.rn es) ρ2 else .ok .nx ρ1) := z'
    cases q : ft ρ' with
    | raise x ρ1 => rw [q] at z'; exact PostXM.toS z'
    | stuck => rw [q] at z'; exact z'
    | ok b ρ1 =>
      rw [q] at z'
      intro Φ1 H1 e1 s1
      have z' := PostS.ext K mg E T e1 z'
      cases b with
      | false => exact z' Φ1 H1 σ' (Ex.refl _) s1
      | true =>
        refine ⟨fun σ2 H2 => ∃ Φ2 ρ2, SOk K mg T B Φ2 H2 σ2 ρ2 ∧ PostS K mg E T B Φ2 D (whileN ft body m ρ2), fun σ2 H2 h => ⟨m, Nat.lt_succ_self m, h⟩, ?_⟩
        refine hb B Φ1 H1 σ' ρ1 hM s1 _ ?_
        have z' : PostS K mg E T B Φ1 D ((body ρ1).bind fun fl ρ2 => match fl with
          | .nx => whileN ft body m ρ2
          | .ct => whileN ft body m ρ2
          | .bk => .ok .nx ρ2
          | .rt d => .ok (.rt d) ρ2
          | .rn es => .ok (.rn es) ρ2) := z'
        cases qb : body ρ1 with
        | ok fl ρ2 =>
          rw [qb] at z'
          cases fl with
          | nx => exact fun Φ3 H3 σ3 e3 s3 => ⟨Φ3, ρ2, s3, PostS.ext K mg E T e3 z'⟩
          | ct => exact fun Φ3 H3 σ3 e3 s3 => ⟨Φ3, ρ2, s3, PostS.ext K mg E T e3 z'⟩
          | bk => exact z'
          | rt d => exact z'
          | rn es => exact z'
        | raise x ρ2 => rw [qb] at z'; exact z'
        | stuck => rw [qb] at z'; exact z'
theorem ds_while {ft : S → M Bool} (n : Nat) (hp : PassesOwn (model X.prog X.w) X.A X.env X.xe) (hc : DMT K mg E T X c tt ft) (hb : DSs K mg E T X sts ts p) : DS K mg E T X (.While c sts [] pos) (tWhile tt ts) (whileN ft p n) := ⟨hc.k, hc.m, ps_while hp hc.pe hb.ps, imp_while n hc.imp hb.imp⟩
/-! ### what is walked -/
theorem walkD_list {Φ : Hp} {a : Addr} {xs : List V} {ds : List D} (h : SqL K Φ a xs) (s : SeeAll K mg Φ xs ds) : WalkD K mg Φ (Itl K a) ds := by
  refine ⟨fun H => SqL K H a xs, YAt xs, by rw [← SeeAll.length s]; exact walk_list, fun Φ' H' e e' => ex_l (e.trans e') h, fun i Φ' H' x H'' hi e e' y => ?_⟩
  obtain ⟨rfl, hx⟩ := y
  cases q : ds[i]? with
  | none => exact absurd (List.getElem?_eq_none_iff.mp q) (Nat.not_le_of_lt hi)
  | some d =>
    obtain ⟨v, e1, e2⟩ := SeeAll.get s q
    rw [hx] at e1
    cases e1
    exact ⟨Φ', d, Gr.refl e', rfl, See.mono e e2⟩
theorem walkD_tup {Φ : Hp} {a : Addr} {xs : List V} {ds : List D} (h : SqT K Φ a xs) (s : SeeAll K mg Φ xs ds) : WalkD K mg Φ (Itt K a) ds := by
  refine ⟨fun H => SqT K H a xs, YAt xs, by rw [← SeeAll.length s]; exact walk_tup, fun Φ' H' e e' => ex_t (e.trans e') h, fun i Φ' H' x H'' hi e e' y => ?_⟩
  obtain ⟨rfl, hx⟩ := y
  cases q : ds[i]? with
  | none => exact absurd (List.getElem?_eq_none_iff.mp q) (Nat.not_le_of_lt hi)
  | some d =>
    obtain ⟨v, e1, e2⟩ := SeeAll.get s q
    rw [hx] at e1
    cases e1
    exact ⟨Φ', d, Gr.refl e', rfl, See.mono e e2⟩
def rangeD (lo : Int) (n : Nat) : List D := (List.range n).map fun (i : Nat) => .int (lo + (i : Int))
theorem walkD_range {Φ : Hp} {lo : Int} {n : Nat} : WalkD K mg Φ (Itr lo n) (rangeD lo n) := by
  refine ⟨fun _ => True, YFn fun i => .int (lo + i), ?_, fun _ _ _ _ => trivial, fun i Φ' H' x H'' hi e e' y => ?_⟩
  · have : (rangeD lo n).length = n := by simp [rangeD]
    rw [this]; exact walk_range
  · obtain ⟨rfl, hx⟩ := y
    subst hx
    have hi : i < n := by simpa [rangeD] using hi
    exact ⟨Φ', .int (lo + i), Gr.refl e', by simp [rangeD, hi], .int _⟩
/-- the items of a list or a tuple -/
def D.items : D → R (List D)
  | .lst ds => .ok ds
  | .tup ds => .ok ds
  | .scr ns => .ok (ns.map D.int)
  | _ => .stuck
def iLT (K : PySem.W.Frag) (tl : TE) : TI := fun σ H R => iList K tl σ H R ∨ iTup K tl σ H R
def fItems (f : S → M D) : S → M (List D) := fun ρ => (f ρ).lift D.items
theorem di_seq (h : DM K mg E T X e te fm) : DI K mg E T X tg e (iLT K te) (fItems fm) := by
  obtain ⟨hk, hm, hp, hi⟩ := h
  subst hk
  refine ⟨rfl, hm, ⟨fun pins s σ H R I z => ?_⟩, fun B Φ H σ ρ s R' z => ?_⟩
  · rcases z with z | z
    · exact (pi_list hp).run pins s σ H R I z
    · exact (pi_tup hp).run pins s σ H R I z
  · have z : PostMI X.K mg E T B Φ σ ((fm ρ).bind fun a ρ => (D.items a).toM ρ) R' := z
    cases q : fm ρ with
    | raise x ρ1 => exact .inl (hi B Φ H σ ρ s _ (by rw [q] at z ⊢; exact z))
    | stuck => rw [q] at z; exact z.elim
    | ok d ρ1 =>
      rw [q] at z
      cases d with
      | lst ds =>
        refine .inl (hi B Φ H σ ρ s _ ?_)
        rw [q]
        intro v Φ' H' e' s' sv
        cases sv with
        | lst a r => exact ⟨_, rfl, ⟨_, .inl (.inl (s'.ex _ _ a))⟩, z _ Φ' H' e' s' (walkD_list (.inl (.inl a)) r)⟩
      | tup ds =>
        refine .inr (hi B Φ H σ ρ s _ ?_)
        rw [q]
        intro v Φ' H' e' s' sv
        cases sv with
        | tup a r => exact ⟨_, rfl, ⟨_, ex_t s'.ex a.t⟩, z _ Φ' H' e' s' (walkD_tup a.t r)⟩
      | scr ns =>
        refine .inl (hi B Φ H σ ρ s _ ?_)
        rw [q]
        intro v Φ' H' e' s' sv
        cases sv with
        | scr a => exact ⟨_, rfl, ⟨_, ex_l s'.ex a⟩, z _ Φ' H' e' s' (walkD_list a (SeeAll.ofInts ns))⟩
      | _ => exact False.elim z
/-- range(n), range(a, b) -/
def toRange1 : List D → R (List D)
  | [.int n] => if n.natAbs < 2 ^ 62 then .ok (rangeD 0 n.toNat) else .stuck
  | _ => .stuck
def toRange2 : List D → R (List D)
  | [.int a, .int b] => if a.natAbs < 2 ^ 62 ∧ b.natAbs < 2 ^ 62 then .ok (rangeD a (b - a).toNat) else .stuck
  | _ => .stuck
theorem toRange1_ok {ds es : List D} (h : toRange1 ds = .ok es) : ∃ n : Int, ds = [.int n] ∧ -(2 ^ 62) ≤ n ∧ n < 2 ^ 62 ∧ es = rangeD 0 n.toNat := by
  unfold toRange1 at h
  split at h
  · split at h
    · rename_i n hn; cases h; exact ⟨n, rfl, by omega, by omega, rfl⟩
    · cases h
  · cases h
theorem toRange2_ok {ds es : List D} (h : toRange2 ds = .ok es) : ∃ a b : Int, ds = [.int a, .int b] ∧ (-(2 ^ 62) ≤ a ∧ a < 2 ^ 62 ∧ -(2 ^ 62) ≤ b ∧ b < 2 ^ 62) ∧ es = rangeD a (b - a).toNat := by
  unfold toRange2 at h
  split at h
  · split at h
    · rename_i a b hn; cases h; exact ⟨a, b, rfl, ⟨by omega, by omega, by omega, by omega⟩, rfl⟩
    · cases h
  · cases h
theorem toRange1_nx : ∀ ds, NoX (toRange1 ds) := fun ds x => by
  unfold toRange1
  repeat' split
  all_goals exact fun w => by cases w
theorem toRange2_nx : ∀ ds, NoX (toRange2 ds) := fun ds x => by
  unfold toRange2
  repeat' split
  all_goals exact fun w => by cases w
def fMapA (h : List D → R (List D)) (fa : S → M (List D)) : S → M (List D) := fun ρ => (fa ρ).lift h
theorem di_range1 {tA : TA} {fa : S → M (List D)} {p : Pos} (hm : mg "range" = none) (h : DMA K mg E T X [a] tA fa) (hg : Gl X "range" := by rfl) (hs : starEach [a] X.env = [(false, eval a X.env)] := by rfl) : DI K mg E T X tg (.Call (.Name "range" p) [a] [] pos) (iRng1 tA) (fMapA toRange1 fa) := by
  refine ⟨h.k, h.m, pi_range1 hg (by rw [h.m]; exact hm) h.pe hs, fun B Φ H σ ρ s R' z => h.imp B Φ H σ ρ s _ ?_⟩
  have z : PostMI K mg E T B Φ σ ((fa ρ).bind fun a ρ => (toRange1 a).toM ρ) R' := z
  cases q : fa ρ with
  | raise x ρ1 => rw [q] at z; exact z
  | stuck => rw [q] at z; exact z
  | ok ds ρ1 =>
    rw [q] at z
    intro vs Φ' H' e' s' sv
    have z : PostMI K mg E T B Φ σ ((toRange1 ds).toM ρ1) R' := z
    cases w : toRange1 ds with
    | stuck => rw [w] at z; exact z.elim
    | raise x => exact absurd w (toRange1_nx ds x)
    | ok es =>
      rw [w] at z
      obtain ⟨n, rfl, h1, h2, rfl⟩ := toRange1_ok w
      cases sv with
      | cons r t => cases r; cases t; exact ⟨n, rfl, h1, h2, z _ Φ' H' e' s' walkD_range⟩
theorem di_range2 {tA : TA} {fa : S → M (List D)} {p : Pos} (hm : mg "range" = none) (h : DMA K mg E T X [a, b] tA fa) (hg : Gl X "range" := by rfl) (hs : starEach [a, b] X.env = [(false, eval a X.env), (false, eval b X.env)] := by rfl) (hs2 : starEach [b] X.env = [(false, eval b X.env)] := by rfl) : DI K mg E T X tg (.Call (.Name "range" p) [a, b] [] pos) (iRng2 tA) (fMapA toRange2 fa) := by
  refine ⟨h.k, h.m, pi_range2 hg (by rw [h.m]; exact hm) h.pe hs hs2, fun B Φ H σ ρ s R' z => h.imp B Φ H σ ρ s _ ?_⟩
  have z : PostMI K mg E T B Φ σ ((fa ρ).bind fun a ρ => (toRange2 a).toM ρ) R' := z
  cases q : fa ρ with
  | raise x ρ1 => rw [q] at z; exact z
  | stuck => rw [q] at z; exact z
  | ok ds ρ1 =>
    rw [q] at z
    intro vs Φ' H' e' s' sv
    have z : PostMI K mg E T B Φ σ ((toRange2 ds).toM ρ1) R' := z
    cases w : toRange2 ds with
    | stuck => rw [w] at z; exact z.elim
    | raise x => exact absurd w (toRange2_nx ds x)
    | ok es =>
      rw [w] at z
      obtain ⟨n, m, rfl, h1, rfl⟩ := toRange2_ok w
      cases sv with
      | cons r t =>
        cases r
        cases t with
        | cons r t => cases r; cases t; exact ⟨n, m, rfl, h1, z _ Φ' H' e' s' walkD_range⟩
/-- a new pair at each turn -/
theorem walkD_pair {Φ : Hp} {J : It} {n : Nat} {G : Hp → Prop} {xs ys : Nat → Option V} {ds : List D} (hn : ds.length = n) (w : Walk J n G (YPair xs ys)) (hG : ∀ Φ' H', Ex Φ Φ' → Ex Φ' H' → G H')
    (hd : ∀ i x y, i < n → xs i = some x → ys i = some y → ∃ d e, ds[i]? = some (.pr [d, e]) ∧ See K mg Φ x d ∧ See K mg Φ y e) : WalkD K mg Φ J ds := by
  subst hn
  refine ⟨G, _, w, hG, fun i Φ' H' v H'' hi e e' y => ?_⟩
  obtain ⟨T, x, y, rfl, nT, rfl, h1, h2⟩ := y
  obtain ⟨d, e2, q, s1, s2⟩ := hd i x y hi h1 h2
  have g := Gr.new (o := .tup [x, y]) e' nT
  exact ⟨_, _, g, q, .pr upd_same (.cons (See.mono (e.trans g.p) s1) (.cons (See.mono (e.trans g.p) s2) .nil))⟩
def enumD (ds : List D) : List D := (List.range ds.length).map fun (i : Nat) => .pr [.int (i : Int), ds.getD i .non]
theorem enumD_get {ds : List D} {i : Nat} {d : D} (h : ds[i]? = some d) : (enumD ds)[i]? = some (.pr [.int (i : Int), d]) := by
  have hi := (List.getElem?_eq_some_iff.mp h).1
  unfold enumD
  rw [List.getElem?_map, List.getElem?_range hi]
  simp [List.getD, h]
theorem walkD_enum {Φ : Hp} {a : Addr} {xs : List V} {ds : List D} (h : SqL K Φ a xs) (s : SeeAll K mg Φ xs ds) : WalkD K mg Φ (Ite K a) (enumD ds) := by
  refine walkD_pair (n := xs.length) (by simp [enumD, SeeAll.length s]) walk_enum (fun Φ' H' e e' => ex_l (e.trans e') h) fun i x y hi h1 h2 => ?_
  cases h1
  cases q : ds[i]? with
  | none => exact absurd (List.getElem?_eq_none_iff.mp q) (by rw [← SeeAll.length s]; exact Nat.not_le_of_lt hi)
  | some d =>
    obtain ⟨v, e1, e2⟩ := SeeAll.get s q
    rw [h2] at e1
    cases e1
    exact ⟨.int i, d, enumD_get q, .int _, e2⟩
def zipD : List D → List D → List D
  | x :: xs, y :: ys => .pr [x, y] :: zipD xs ys
  | _, _ => []
theorem zipD_get : ∀ {xs ys : List D} {i : Nat} {d e : D}, xs[i]? = some d → ys[i]? = some e → (zipD xs ys)[i]? = some (.pr [d, e])
  | [], _, _, _, _, h,
          _ => by simp at h
  | _ :: _, [], _, _, _,
          _, h => by simp at h
  | x :: xs, y :: ys, 0, d, e, h1, h2 => by simp at h1 h2; subst h1 h2; rfl
  | x :: xs, y :: ys, i + 1, d, e, h1, h2 => by
    show (zipD xs ys)[i]? = _
    exact zipD_get (by simpa using h1) (by simpa using h2)
theorem zipD_len : ∀ (xs ys : List D), (zipD xs ys).length = min xs.length ys.length
  | [], _ => by simp [zipD]
  | _ :: _, [] => by simp [zipD]
  | x :: xs, y :: ys => by simp [zipD, zipD_len xs ys, Nat.succ_min_succ]
theorem walkD_zip {Φ : Hp} {a b : Addr} {xs ys : List V} {ds es : List D} (h : SqL K Φ a xs) (h' : SqL K Φ b ys) (s : SeeAll K mg Φ xs ds) (s' : SeeAll K mg Φ ys es) : WalkD K mg Φ (Itz K a b) (zipD ds es) := by
  have l1 := SeeAll.length s
  have l2 := SeeAll.length s'
  refine walkD_pair (n := (zipD ds es).length) rfl (walk_zip (xs := xs) (ys := ys) (by rw [zipD_len, l1, l2])) (fun Φ' H' e e' => ⟨ex_l (e.trans e') h, ex_l (e.trans e') h'⟩) fun i x y hi h1 h2 => ?_
  rw [zipD_len] at hi
  cases q : ds[i]? with
  | none => exact absurd (List.getElem?_eq_none_iff.mp q) (by omega)
  | some d =>
    cases q' : es[i]? with
    | none => exact absurd (List.getElem?_eq_none_iff.mp q') (by omega)
    | some e =>
      obtain ⟨v, e1, e2⟩ := SeeAll.get s q
      obtain ⟨v', f1, f2⟩ := SeeAll.get s' q'
      rw [h1] at e1
      rw [h2] at f1
      cases e1
      cases f1
      exact ⟨d, e, zipD_get q q', e2, f2⟩
end
end TP
set_option Elab.async false
set_option linter.all false
set_option maxRecDepth 100000
/-! Tree programs: comprehensions; rules for expressions that may change what one owns. -/
namespace TP
open PySem L2 PyProof.Rows PySem.Spec
section
variable (K : PySem.W.Frag) (mg : Str → Option Value) (E : XK) (T : List (Addr × Str))
def PostMN (B : Bs) (Φ : Hp) (σ : L2.St) (r : M (List D)) (Q : VK) : Prop := match r with
  | .ok ds ρ => ∀ p vs Φ' H', Ex Φ Φ' → SOk K mg T B Φ' H' σ ρ → (∀ nd, NdOk K mg B Φ' H' σ ρ nd → ∀ j, p ∉ nd j) → B.H0 p = none → p ∉ B.Dn → Φ' p = none → H' p = some (.lst vs) → SeeAll K mg Φ' vs ds → Q (.ref p) H'
  | .raise x ρ => PostXM K mg E T B Φ σ x ρ
  | .stuck => False
def ImpMN (t : TE) (f : S → M (List D)) : Prop := ∀ B Φ H σ ρ, SOk K mg T B Φ H σ ρ → ∀ Q, PostMN K mg E T B Φ σ (f ρ) Q → t σ H Q
/-- a new list -/
structure DMN (X : Cx) (e : Expr) (t : TE) (f : S → M (List D)) : Prop where
  k : X.K = K
  m : X.mg = mg
  pe : PE X e t
  imp : ImpMN K mg E T t f
/-- a comprehension's tests -/
structure DTs (X : Cx) (es : List Expr) (t : TT) (f : S → M Bool) : Prop where
  k : X.K = K
  m : X.mg = mg
  pe : PTs X es t
  imp : ImpMT K mg E T t f
end
def wipeR (ρ : S) : List Nat → S
  | [] => ρ
  | v :: vs => (wipeR ρ vs).set v none
/-- these slots hold nothing -/
def unset (ρ : S) (vs : List Nat) : Bool := vs.all fun v => match ρ[v]? with
  | some none => true
  | _ => false
def M.noX {α : Type} (r : M α) : M α := match r with
  | .ok a ρ => .ok a ρ
  | _ => .stuck
/-- the list of a comprehension -/
def compM (vs : List Nat) (asg : D → S → Option S) (tf : S → M Bool) (ef : S → M D) : List D → S → M (List D)
  | [], ρ => .ok [] (wipeR ρ vs)
  | d :: ds, ρ => match asg d (wipeR ρ vs) with
    | none => .stuck
    | some ρ1 => (tf ρ1).noX.bind fun b ρ2 => if b then (ef ρ2).noX.bind fun y ρ3 => (compM vs asg tf ef ds ρ3).bind fun ys ρ4 => .ok (y :: ys) ρ4 else compM vs asg tf ef ds ρ2
def fComp (vs : List Nat) (fi : S → M (List D)) (asg : D → S → Option S) (tf : S → M Bool) (ef : S → M D) : S → M (List D) := fun ρ => (fi ρ).bind fun ds ρ1 =>
  if ds.length ≤ sizeLine ∧ unset ρ1 vs = true then compM vs asg tf ef ds ρ1 else .stuck
section
variable {K : PySem.W.Frag} {mg : Str → Option Value} {T : List (Addr × Str)} {E : XK} {B : Bs} {Φ Φ' H H' : Hp} {σ σ' : L2.St} {ρ : S} {Q Q' : VK}
theorem SOk.irr (s : SOk K mg T B Φ H σ ρ) (h : ∀ (j : Nat) (s' : Sl), ρ[j]? = some (some s') → σ'[j]? = σ[j]?) (hl : σ'.length = σ.length) : SOk K mg T B Φ H σ' ρ := by
  obtain ⟨b, len, nd, x⟩ := s
  refine ⟨b, by rw [hl]; exact len, nd, ⟨fun i s' e => ?_, x.own, x.inj, x.emp, x.own2, x.dr0⟩⟩
  obtain ⟨v, e1, e2⟩ := x.at_ i s' e
  exact ⟨v, by rw [h i s' e]; exact e1, e2⟩
theorem wipeR_at : ∀ (vs : List Nat) (ρ : S) (j : Nat) (s : Sl), (wipeR ρ vs)[j]? = some (some s) → ρ[j]? = some (some s) ∧ j ∉ vs
  | [], ρ, j, s, h => ⟨h, by simp⟩
  | v :: vs, ρ, j, s, h => by
    unfold wipeR at h
    by_cases z : v = j
    · subst z
      by_cases lt : v < (wipeR ρ vs).length
      · rw [List.getElem?_set_self lt] at h; cases h
      · rw [List.getElem?_eq_none (by simpa using lt)] at h; cases h
    · rw [List.getElem?_set_ne z] at h
      obtain ⟨h1, h2⟩ := wipeR_at vs ρ j s h
      exact ⟨h1, by simp only [List.mem_cons, not_or]; exact ⟨fun e => z e.symm, h2⟩⟩
theorem wipe_len : ∀ (vs : List Nat) (σ : L2.St), (wipe σ vs).length = σ.length := fun vs σ => wipe_length σ vs
theorem SOk.dropAll (s : SOk K mg T B Φ H σ ρ) : ∀ vs, SOk K mg T B Φ H σ (wipeR ρ vs)
  | [] => s
  | v :: vs => (SOk.dropAll s vs).drop v
theorem SOk.wiped (s : SOk K mg T B Φ H σ ρ) (vs : List Nat) : SOk K mg T B Φ H (wipe σ vs) (wipeR ρ vs) :=
  (s.dropAll vs).irr (fun j s' e => by
    obtain ⟨_, n⟩ := wipeR_at vs ρ j s' e
    exact wipe_out n) (wipe_len vs σ)
/-- back from a comprehension's slots -/
theorem SOk.unwiped (vs : List Nat) (s : SOk K mg T B Φ H (wipe σ vs) (wipeR ρ vs)) : SOk K mg T B Φ H σ (wipeR ρ vs) :=
  s.irr (fun j s' e => by
    obtain ⟨_, n⟩ := wipeR_at vs ρ j s' e
    exact (wipe_out n).symm) (wipe_len vs σ).symm
theorem wipe_eq {σ σ' : L2.St} {vs : List Nat} (h : ∀ j, j ∉ vs → σ'[j]? = σ[j]?) (hl : σ'.length = σ.length) : wipe σ' vs = wipe σ vs := by
  apply List.ext_getElem?
  intro j
  by_cases z : j ∈ vs
  · have none_at : ∀ (σ : L2.St), j < σ.length → ∀ ws : List Nat, j ∈ ws → (wipe σ ws)[j]? = some none := fun σ lt ws => by
      induction ws with
      | nil => intro m; cases m
      | cons w ws ih =>
        intro m
        unfold wipe
        by_cases q : w = j
        · subst q; exact List.getElem?_set_self (by rw [wipe_length]; exact lt)
        · rw [List.getElem?_set_ne q]
          exact ih ((List.mem_cons.mp m).resolve_left fun e => q e.symm)
    by_cases lt : j < σ.length
    · rw [none_at σ' (by rw [hl]; exact lt) vs z, none_at σ lt vs z]
    · rw [List.getElem?_eq_none (by rw [wipe_length, hl]; exact Nat.le_of_not_lt lt), List.getElem?_eq_none (by rw [wipe_length]; exact Nat.le_of_not_lt lt)]
  · rw [wipe_out z, wipe_out z]; exact h j z
theorem wipeR_len : ∀ (vs : List Nat) (ρ : S), (wipeR ρ vs).length = ρ.length
  | [], _ => rfl
  | v :: vs, ρ => by unfold wipeR; rw [List.length_set, wipeR_len vs ρ]
theorem wipeR_in : ∀ (ws : List Nat) (ρ : S) (j : Nat), j < ρ.length → j ∈ ws → (wipeR ρ ws)[j]? = some none
  | [], _, _, _, m => by cases m
  | w :: ws, ρ, j, lt, m => by
    unfold wipeR
    by_cases q : w = j
    · subst q; exact List.getElem?_set_self (by rw [wipeR_len]; exact lt)
    · rw [List.getElem?_set_ne q]
      exact wipeR_in ws ρ j lt ((List.mem_cons.mp m).resolve_left fun e => q e.symm)
theorem wipeR_out : ∀ (ws : List Nat) (ρ : S) (j : Nat), j ∉ ws → (wipeR ρ ws)[j]? = ρ[j]?
  | [], _, _, _ => rfl
  | w :: ws, ρ, j, m => by
    unfold wipeR
    simp only [List.mem_cons, not_or] at m
    rw [List.getElem?_set_ne (fun e => m.1 e.symm)]
    exact wipeR_out ws ρ j m.2
theorem wipeR_id {ρ : S} {vs : List Nat} (h : unset ρ vs = true) : wipeR ρ vs = ρ := by
  apply List.ext_getElem?
  intro j
  by_cases m : j ∈ vs
  · have q := List.all_eq_true.mp h j m
    split at q
    · rename_i e
      rw [e, wipeR_in vs ρ j (List.getElem?_eq_some_iff.mp e).1 m]
    · cases q
  · exact wipeR_out vs ρ j m
theorem wipeR_two (ρ : S) (vs : List Nat) : wipeR (wipeR ρ vs) vs = wipeR ρ vs := by
  apply List.ext_getElem?
  intro j
  by_cases m : j ∈ vs
  · by_cases lt : j < ρ.length
    · rw [wipeR_in vs _ j (by rw [wipeR_len]; exact lt) m, wipeR_in vs _ j lt m]
    · rw [List.getElem?_eq_none (by rw [wipeR_len, wipeR_len]; exact Nat.le_of_not_lt lt), List.getElem?_eq_none (by rw [wipeR_len]; exact Nat.le_of_not_lt lt)]
  · rw [wipeR_out vs _ j m]
end
section
variable {K : PySem.W.Frag} {mg : Str → Option Value} {T : List (Addr × Str)} {E : XK} {X : Cx} {a b c e tg iter elt : Expr} {es ifs : List Expr} {ta tb te tc : TE} {tt tu : TT} {f g : S → R D} {fm gm : S → M D} {pos : Pos}
theorem PostMT.noX {B : Bs} {Φ : Hp} {σ : L2.St} {r : M Bool} {k : Bool → S → M (List D)} {Q' : Bool → Hp → Prop} {W : M (List D) → Prop} (hs : ¬ W .stuck) (h : W (r.noX.bind k)) (q : ∀ b ρ, W (k b ρ) → ∀ Φ' H', Ex Φ Φ' → SOk K mg T B Φ' H' σ ρ → Q' b H') : PostMT K mg (fun _ _ _ => False) T B Φ σ r Q' := by
  cases r with
  | ok b ρ => exact fun Φ' H' e s => q b ρ h Φ' H' e s
  | raise x ρ => exact absurd h hs
  | stuck => exact absurd h hs
theorem PostM.noX {B : Bs} {Φ : Hp} {σ : L2.St} {r : M D} {k : D → S → M (List D)} {Q' : VK} {W : M (List D) → Prop} (hs : ¬ W .stuck) (h : W (r.noX.bind k)) (q : ∀ b ρ, W (k b ρ) → ∀ v Φ' H', Ex Φ Φ' → SOk K mg T B Φ' H' σ ρ → See K mg Φ' v b → Q' v H') : PostM K mg (fun _ _ _ => False) T B Φ σ r Q' := by
  cases r with
  | ok b ρ => exact fun v Φ' H' e s sv => q b ρ h v Φ' H' e s sv
  | raise x ρ => exact absurd h hs
  | stuck => exact absurd h hs
theorem PostMN.ext {B : Bs} {Φ Φ' : Hp} {σ : L2.St} {r : M (List D)} {Q : VK} (e : Ex Φ Φ') (h : PostMN K mg E T B Φ σ r Q) : PostMN K mg E T B Φ' σ r Q := by
  cases r with
  | ok ds ρ => exact fun p vs Φ2 H2 e2 => h p vs Φ2 H2 (e.trans e2)
  | raise x ρ => exact PostXM.ext e h
  | stuck => exact h
/-- the block: from a state where acc stands at D (owned by nobody), compM is made -/
theorem imp_comp {wi : TI} {g : TG} {fi : S → M (List D)} {asg : D → S → Option S} {is vs : List Nat} {tf : S → M Bool} {ef : S → M D} (hi : ImpMI K mg E T wi fi) (hg : ImpG K mg T g asg is) (hv : ∀ i ∈ is, i ∈ vs)
    (ht : ImpMT K mg (fun _ _ _ => False) T tt tf) (he : ImpM K mg (fun _ _ _ => False) T te ef) : ImpMN K mg E T (tLc wi g tt te vs) (fComp vs fi asg tf ef) := by
  intro B Φ H σ ρ s Q z
  refine hi B Φ H σ ρ s _ ?_
  have z : PostMN K mg E T B Φ σ ((fi ρ).bind fun ds ρ1 => if ds.length ≤ sizeLine ∧ unset ρ1 vs = true then compM vs asg tf ef ds ρ1 else .stuck) Q := z
  cases q : fi ρ with
  | raise x ρ' => rw [q] at z; exact z
  | stuck => rw [q] at z; exact z
  | ok ds ρ0 =>
    rw [q] at z
    have z : PostMN K mg E T B Φ σ (if ds.length ≤ sizeLine ∧ unset ρ0 vs = true then compM vs asg tf ef ds ρ0 else .stuck) Q := z
    split at z
    rotate_left
    · exact z.elim
    rename_i hz
    obtain ⟨hz, hw⟩ := hz
    have hw := wipeR_id hw
    intro J Φ1 H1 e1 s1 ⟨G, Y, w, hG, hY⟩ D nD
    have gD : Gr Φ1 H1 Φ1 (upd H1 D (.lst [])) := Gr.newM s1.ex nD
    have sD : SOk K mg T B Φ1 (upd H1 D (.lst [])) σ ρ0 := s1.grow gD
    have fD := fresh_nd s1 gD nD
    refine lc_it w (fun i H' => ∃ Φ' ρ' acc vacc, Ex Φ1 Φ' ∧ SOk K mg T B Φ' H' σ (wipeR ρ' vs) ∧ (∀ nd, NdOk K mg B Φ' H' σ (wipeR ρ' vs) nd → ∀ j, D ∉ nd j) ∧ Φ' D = none ∧ H' D = some (.lst vacc) ∧ SeeAll K mg Φ' vacc acc ∧ acc.length ≤ i ∧
      PostMN K mg E T B Φ' σ ((compM vs asg tf ef (ds.drop i) ρ').bind fun ys ρ4 => .ok (acc ++ ys) ρ4) Q) ?_ ?_ ?_ ?_
    · refine ⟨Φ1, ρ0, [], [], Ex.refl _, by rw [hw]; exact sD, by rw [hw]; exact fD.2, Ex.none (e := s1.ex) nD, upd_same, .nil, Nat.le_refl _, ?_⟩
      rw [List.drop_zero]
      have ze : PostMN K mg E T B Φ1 σ (compM vs asg tf ef ds ρ0) Q := PostMN.ext e1 z
      cases qq : compM vs asg tf ef ds ρ0 with
      | ok ys ρ4 => rw [qq] at ze; exact ze
      | raise x ρ4 => rw [qq] at ze; exact ze
      | stuck => rw [qq] at ze; exact ze
    · rintro i H' _ ⟨Φ', ρ', acc, vacc, e', s', _⟩
      exact hG Φ' H' e' s'.ex
    · rintro i x H' H2 hlt ⟨Φ', ρ', acc, vacc, e', s', fr, nΦ, hD, sa, la, rest⟩ hy
      obtain ⟨Φ2, d, gr, hd, sd⟩ := hY i Φ' H' x H2 hlt e' s'.ex hy
      have hdrop : ds.drop i = d :: ds.drop (i + 1) := by
        have hlt' := (List.getElem?_eq_some_iff.mp hd).1
        rw [List.drop_eq_getElem_cons hlt', (List.getElem?_eq_some_iff.mp hd).2]
      rw [hdrop] at rest
      unfold compM at rest
      split at rest
      · exact rest.elim
      rename_i ρ1 ea
      have sB : SOk K mg T B Φ2 H2 σ (wipeR ρ' vs) := s'.grow gr
      have frB : ∀ nd, NdOk K mg B Φ2 H2 σ (wipeR ρ' vs) nd → ∀ j, D ∉ nd j := fun nd y j m => by
        obtain ⟨nd0, x0⟩ := s'.nds
        have x2 := x0.mono gr.p (fun _ a _ o e => gr.h a o e) fun i a m => gr.nm a (x0.own i a m).1 (x0.own i a m).2.1
        rw [y.uniq x2] at m
        exact fr nd0 x0 j m
      have hD2 : H2 D = some (.lst vacc) := gr.h _ _ hD
      have nΦ2 : Φ2 D = none := gr.nm D nΦ (not_none hD)
      obtain ⟨Mm, nMm, sM, back⟩ := sB.rebase
      have nDM : D ∉ Mm := nMm D frB fun ps z => by rw [hD2] at z; cases z
      have sW : SOk K mg T ⟨Φ2, H2, Mm, B.Dn, B.dp, B.dq⟩ Φ2 H2 (wipe σ vs) (wipeR ρ' vs) := by
        have h1 := sM.wiped vs
        rw [wipeR_two] at h1
        exact h1
      -- the end of a turn, from the block's state
      have turn : ∀ {Φ3 H3 σ3 ρ3}, SOk K mg T ⟨Φ2, H2, Mm, B.Dn, B.dp, B.dq⟩ Φ3 H3 σ3 ρ3 → wipe σ3 vs = wipe σ vs → SOk K mg T B Φ3 H3 σ (wipeR ρ3 vs) ∧ (∀ nd, NdOk K mg B Φ3 H3 σ (wipeR ρ3 vs) nd → ∀ j, D ∉ nd j) ∧ H3 D = some (.lst vacc) ∧ Φ3 D = none := fun {Φ3 H3 σ3 ρ3} s3 ew => by
        have s3' : SOk K mg T ⟨Φ2, H2, Mm, B.Dn, B.dp, B.dq⟩ Φ3 H3 σ (wipeR ρ3 vs) := by
          have h1 := s3.wiped vs
          rw [ew] at h1
          exact h1.unwiped vs
        refine ⟨back Φ3 H3 σ _ s3', fun nd y j m => ?_, s3.b2 D _ hD2 nDM, s3.b3 D (not_none hD2) nΦ2⟩
        obtain ⟨nd1, x1⟩ := s3'.nds
        have q : nd = nd1 := by
          funext k
          by_cases zz : ∃ s, (wipeR ρ3 vs)[k]? = some (some s)
          · obtain ⟨s, e⟩ := zz
            obtain ⟨v, f1, f2⟩ := y.at_ k s e
            obtain ⟨u, g1, g2⟩ := x1.at_ k s e
            rw [f1] at g1
            cases g1
            exact f2.nodes g2
          · rw [y.emp k fun s e => zz ⟨s, e⟩, x1.emp k fun s e => zz ⟨s, e⟩]
        rw [q] at m
        rcases (x1.own j D m).2.2 with o | o
        · exact absurd o (not_none hD2)
        · exact nDM o
      refine hg ⟨Φ2, H2, Mm, B.Dn, B.dp, B.dq⟩ Φ2 H2 (wipe σ vs) (wipeR ρ' vs) x d ρ1 _ sW sd ea fun σ2 s2 o2 l2 => ?_
      have ew : wipe σ2 vs = wipe σ vs := by
        have h1 : wipe σ2 vs = wipe (wipe σ vs) vs := wipe_eq (fun j hj => o2 j fun m => hj (hv j m)) l2
        rw [h1]
        exact wipe_eq (fun j hj => wipe_out hj) (wipe_length σ vs)
      refine ⟨ew, ht ⟨Φ2, H2, Mm, B.Dn, B.dp, B.dq⟩ Φ2 H2 σ2 ρ1 s2 _ ?_⟩
      have rest : PostMN K mg E T B Φ2 σ (((tf ρ1).noX.bind fun b ρ2 => if b then (ef ρ2).noX.bind fun y ρ3 => (compM vs asg tf ef (ds.drop (i + 1)) ρ3).bind fun ys ρ4 => .ok (y :: ys) ρ4 else compM vs asg tf ef (ds.drop (i + 1)) ρ2).bind fun ys ρ4 => .ok (acc ++ ys) ρ4) Q := PostMN.ext gr.p rest
      refine PostMT.noX (W := fun r => PostMN K mg E T B Φ2 σ (r.bind fun ys ρ4 => .ok (acc ++ ys) ρ4) Q) (fun h => h) rest fun bb ρ2 rest Φ3 H3 e3 s3 => ?_
      have rest := PostMN.ext e3 rest
      cases bb with
      | false =>
        obtain ⟨t1, t2, t3, t4⟩ := turn s3 ew
        exact ⟨Φ3, ρ2, acc, vacc, e'.trans (gr.p.trans e3), t1, t2, t4, t3, SeeAll.mono (gr.p.trans e3) sa, Nat.le_succ_of_le la, rest⟩
      | true =>
        refine he ⟨Φ2, H2, Mm, B.Dn, B.dp, B.dq⟩ Φ3 H3 σ2 ρ2 s3 _ ?_
        refine PostM.noX (W := fun r => PostMN K mg E T B Φ3 σ (r.bind fun ys ρ4 => .ok (acc ++ ys) ρ4) Q) (fun h => h) rest fun y ρ3 rest v Φ4 H4 e4 s4 sv => ?_
        have rest := PostMN.ext e4 rest
        obtain ⟨t1, t2, t3, t4⟩ := turn s4 ew
        have hl := SeeAll.length sa
        obtain ⟨u1, u2⟩ := t1.updX (o := .lst (vacc ++ [v])) t2 t4 fD.1.1 (.inl ⟨_, t3⟩)
        refine ⟨vacc, t3, by omega, Φ4, ρ3, acc ++ [y], vacc ++ [v], e'.trans (gr.p.trans (e3.trans e4)), u1, u2, t4, upd_same, SeeAll.append (SeeAll.mono (gr.p.trans (e3.trans e4)) sa) (.cons sv .nil), by simp; omega, ?_⟩
        cases qq : compM vs asg tf ef (ds.drop (i + 1)) ρ3 with
        | ok ys ρ4 =>
          rw [qq] at rest
          have rest : PostMN K mg E T B Φ4 σ (.ok (acc ++ y :: ys) ρ4) Q := rest
          show PostMN K mg E T B Φ4 σ (.ok (acc ++ [y] ++ ys) ρ4) Q
          rw [List.append_assoc]
          exact rest
        | raise x ρ4 => rw [qq] at rest; exact rest
        | stuck => rw [qq] at rest; exact rest
    · rintro H' ⟨Φ', ρ', acc, vacc, e', s', fr, nΦ, hD, sa, la, rest⟩
      have en : ds.drop ds.length = [] := List.drop_length
      rw [en] at rest
      have rest : PostMN K mg E T B Φ' σ (.ok (acc ++ []) (wipeR ρ' vs)) Q := rest
      rw [List.append_nil] at rest
      exact rest D vacc Φ' H' (Ex.refl _) s' fr fD.1.1 fD.1.2 nΦ hD sa
theorem dts_nil (hk : X.K = K := by rfl) (hm : X.mg = mg := by rfl) : DTs K mg E T X [] tYes (fun ρ => .ok true ρ) := ⟨hk, hm, pts_nil, fun B Φ H σ ρ s Q z => z Φ H (Ex.refl _) s⟩
theorem dts_one {tf : S → M Bool} (h : DMT K mg E T X c tt tf) : DTs K mg E T X [c] tt tf := ⟨h.k, h.m, pts_one h.pe, h.imp⟩
/-- [elt for tg in iter if ..] -/
theorem dmn_lc {scope : Scope} {own : List (Str × Nat)} {wi : TI} {g : TG} {fi : S → M (List D)} {asg : D → S → Option S} {is : List Nat} {tf : S → M Bool} {ef : S → M D} (hc : X.calm = true) (hN : X.N.Nodup) (hi : DI K mg E T X tg iter wi fi) (ok : BlkOk X.N X.env.scope scope own)
    (hg : ∀ (s : Shared) (H : Hp) (C : Addr) (cl : List (Str × Addr)) (fp : List Addr), DG K mg T (X.blk s H scope (compEnvC scope cl C X.env) fp) tg g asg is) (hv : ∀ i ∈ is, i ∈ own.map (·.2))
    (ht : ∀ (s : Shared) (H : Hp) (C : Addr) (cl : List (Str × Addr)) (fp : List Addr), DTs K mg (fun _ _ _ => False) T (X.blk s H scope (compEnvC scope cl C X.env) fp) ifs tt tf)
    (he : ∀ (s : Shared) (H : Hp) (C : Addr) (cl : List (Str × Addr)) (fp : List Addr), DM K mg (fun _ _ _ => False) T (X.blk s H scope (compEnvC scope cl C X.env) fp) elt te ef) (hs : ∀ x, foldedSetIterable iter X.env x = pure x := by intro _; rfl) (s0 : Shared) :
    DMN K mg E T X (.ListComp elt [⟨tg, iter, ifs, 0⟩] scope pos) (tLc wi g tt te (own.map (·.2))) (fComp (own.map (·.2)) fi asg tf ef) :=
  ⟨hi.k, hi.m, pe_lc hc hN hi.pi ok (fun s H C cl fp => (hg s H C cl fp).pg) (fun s H C cl fp => (ht s H C cl fp).pe) (fun s H C cl fp => (he s H C cl fp).pe) hs, imp_comp hi.imp (hg s0 (fun _ => none) 0 [] []).imp hv (ht s0 (fun _ => none) 0 [] []).imp (he s0 (fun _ => none) 0 [] []).imp⟩
end
end TP
set_option Elab.async false
set_option linter.all false
set_option maxRecDepth 100000
/-! Tree programs: rules for expressions that may change what one owns. -/
namespace TP
open PySem L2 PyProof.Rows PySem.Spec
section
variable {K : PySem.W.Frag} {mg : Str → Option Value} {T : List (Addr × Str)} {E : XK} {B : Bs} {Φ Φ' H H' : Hp} {σ σ' : L2.St} {ρ : S} {Q Q' : VK}
/-- an answer of values, lifted -/
theorem PostM.ofR {r : R D} (n : NoX r) (s : SOk K mg T B Φ H σ ρ) (h : PostM K mg E T B Φ σ (r.toM ρ) Q) : PostE K mg (fun _ _ _ => False) Φ H r Q := by
  cases r with
  | ok d => exact fun v Φ' H' g sv => h v Φ' H' g.p (s.grow g) sv
  | raise x => exact absurd rfl (n x)
  | stuck => exact h
theorem PostM.ofRX {r : R D} (s : SOk K mg T B Φ H σ ρ) (h : PostM K mg E T B Φ σ (r.toM ρ) Q) : PostE K mg E Φ H r Q := by
  cases r with
  | ok d => exact fun v Φ' H' g sv => h v Φ' H' g.p (s.grow g) sv
  | raise x => exact fun Φ' H' c dd g xo => h Φ' H' c dd g.p (s.grow g) xo
  | stuck => exact h
theorem PostMN.ofRX {r : R (List D)} (s : SOk K mg T B Φ H σ ρ) (h : PostMN K mg E T B Φ σ (r.toM ρ) Q) : PostN K mg E Φ H r Q := by
  cases r with
  | ok d => exact fun p vs Φ' H' g n1 n2 e sv => h p vs Φ' H' g.p (s.grow g) (fresh_nd s g n1).2 (fresh_nd s g n1).1.1 (fresh_nd s g n1).1.2 n2 e sv
  | raise x => exact fun Φ' H' c dd g xo => h Φ' H' c dd g.p (s.grow g) xo
  | stuck => exact h
theorem PostMN.ofR {r : R (List D)} (n : NoX r) (s : SOk K mg T B Φ H σ ρ) (h : PostMN K mg E T B Φ σ (r.toM ρ) Q) : PostN K mg (fun _ _ _ => False) Φ H r Q := by
  cases r with
  | ok d => exact fun p vs Φ' H' g n1 n2 e sv => h p vs Φ' H' g.p (s.grow g) (fresh_nd s g n1).2 (fresh_nd s g n1).1.1 (fresh_nd s g n1).1.2 n2 e sv
  | raise x => exact absurd rfl (n x)
  | stuck => exact h
/-- a list that nobody else knows stays from now on -/
theorem SOk.freeze {p : Addr} {vs : List V} (s : SOk K mg T B Φ H σ ρ) (hn : ∀ nd, NdOk K mg B Φ H σ ρ nd → ∀ j, p ∉ nd j) (h0 : B.H0 p = none) (hΦ : Φ p = none) (hl : H p = some (.lst vs)) : SOk K mg T B (L2.upd Φ p (.lst vs)) H σ ρ := by
  obtain ⟨b, len, nd, x⟩ := s
  refine ⟨⟨fun a o e => ?_, b.b1.trans (Ex.new hΦ), b.b2, fun a e n => ?_, b.b4, b.b5, b.tb, fun q hq => ?_, b.tM⟩, len, nd, x.mono (Ex.new hΦ) (fun _ _ _ _ e => e) fun i a m => ?_⟩
  · by_cases z : a = p
    · subst z; rw [upd_same] at e; cases e; exact hl
    · rw [upd_ne z] at e; exact b.ex a o e
  · have ne : a ≠ p := fun z => e (by rw [z]; exact h0)
    rw [upd_ne ne]; exact b.b3 a e n
  · have ne : q.1 ≠ p := fun z => by
      obtain ⟨ps, e, _⟩ := b.tb q hq
      rw [z, hl] at e; cases e
    rw [upd_ne ne]; exact b.tn q hq
  · have ne : a ≠ p := fun z => hn nd x i (by rw [← z]; exact m)
    rw [upd_ne ne]; exact (x.own i a m).1
end
section
variable {K : PySem.W.Frag} {mg : Str → Option Value} {T : List (Addr × Str)} {E : XK} {X : Cx} {a b c e : Expr} {es : List Expr} {ta tb te tc : TE} {tt tu : TT} {f g h : S → M D} {pos p : Pos} {rest : List Expr}
def nM (f : S → R (List D)) : S → M (List D) := fun ρ => (f ρ).toM ρ
theorem DN.toMN {f : S → R (List D)} (x : DN K mg E T X e te f) : DMN K mg E T X e te (nM f) := ⟨x.k, x.m, x.pe, fun B Φ H σ ρ s Q h => x.imp B Φ H σ ρ s Q (PostMN.ofRX s h)⟩
def lM (f : S → M (List D)) : S → M D := fun ρ => (f ρ).bind fun ds ρ => .ok (.lst ds) ρ
theorem DMN.toM {f : S → M (List D)} (x : DMN K mg E T X e te f) : DM K mg E T X e te (lM f) := ⟨x.k, x.m, x.pe, fun B Φ H σ ρ s Q z => x.imp B Φ H σ ρ s Q (by
  have z : PostM K mg E T B Φ σ ((f ρ).bind fun ds ρ => .ok (.lst ds) ρ) Q := z
  cases q : f ρ with
  | ok ds ρ' =>
    rw [q] at z
    intro p vs Φ' H' e s' hn h0 hd hΦ hl sv
    exact z _ _ H' (e.trans (Ex.new hΦ)) (s'.freeze hn h0 hΦ hl) (.lst upd_same (SeeAll.mono (Ex.new hΦ) sv))
  | raise x ρ' => rw [q] at z; exact z
  | stuck => rw [q] at z; exact z)⟩
def vMN (f : S → M (List D)) : S → M Sl := fun ρ => (f ρ).bind fun ds ρ => .ok (.ml ds) ρ
theorem DMN.toV {f : S → M (List D)} (x : DMN K mg E T X e te f) : DV K mg E T X e te (vMN f) := ⟨x.k, x.m, x.pe, fun B Φ H σ ρ s Q z => x.imp B Φ H σ ρ s Q (by
  have z : PostV K mg E T B Φ σ ((f ρ).bind fun ds ρ => .ok (.ml ds) ρ) Q := z
  cases q : f ρ with
  | ok ds ρ' =>
    rw [q] at z
    intro p vs Φ' H' e s' hn h0 hd hΦ hl sv
    exact z _ _ H' e s' (.own (.ml hl sv) (fun nd x j a m => by rw [List.mem_singleton.mp m]; exact hn nd x j) (fun a m => by rw [List.mem_singleton.mp m]; exact ⟨h0, hΦ, not_none hl, hd⟩) fun _ z => by cases z)
  | raise x ρ' => rw [q] at z; exact z
  | stuck => rw [q] at z; exact z)⟩
def sRetMN (f : S → M (List D)) : S → M Fl := fun ρ => (f ρ).bind fun ds ρ => .ok (.rn ds) ρ
theorem ds_retMN {f : S → M (List D)} (h : DMN K mg E T X e te f) : DS K mg E T X (.Return (some e) pos) (tRet te) (sRetMN f) := by
  refine ⟨h.k, h.m, ps_ret h.pe, fun B Φ H σ ρ hM s D z => h.imp B Φ H σ ρ s D.rt ?_⟩
  have z : PostS K mg E T B Φ D ((f ρ).bind fun ds ρ => .ok (.rn ds) ρ) := z
  cases q : f ρ with
  | ok d ρ' =>
    rw [q] at z
    intro p vs Φ' H' e s' hn h0 hd hΦ hl sv
    exact z p vs Φ' H' σ e s' h0 hΦ hl sv
  | raise x ρ' => rw [q] at z; exact PostXM.toS z
  | stuck => rw [q] at z; exact z
/-- two-place operations -/
def m2 (k : D → D → R D) (f g : S → M D) : S → M D := fun ρ => (f ρ).bind fun x ρ1 => (g ρ1).bind fun y ρ2 => (k x y).toM ρ2
theorem imp_m2 {r : R2} {k : D → D → R D} (hr : Op2 K mg r k) (hn : ∀ x y, NoX (k x y)) (ha : ImpM K mg E T ta f) (hb : ImpM K mg E T tb g) : ImpM K mg E T (tOp r ta tb) (m2 k f g) := by
  intro B Φ H σ ρ s Q z
  refine ha B Φ H σ ρ s _ (PostM.bind z fun dx ρ1 x Φ1 H1 e1 s1 sx z1 => ?_)
  refine hb B Φ1 H1 σ ρ1 s1 _ (PostM.bind z1 fun dy ρ2 y Φ2 H2 e2 s2 sy z2 => ?_)
  exact hr Φ2 H2 x y dx dy Q s2.ex (.fz (See.mono e2 sx)) (.fz sy) (PostM.ofR (hn _ _) s2 z2)
theorem dm_op {op : Operator} {r : R2} {k : D → D → R D} (ho : OpR X (binaryOp op) r) (hr : Op2 K mg r k) (hn : ∀ x y, NoX (k x y)) (ha : DM K mg E T X a ta f) (hb : DM K mg E T X b tb g) :
    DM K mg E T X (.BinOp a op b pos) (tOp r ta tb) (m2 k f g) := ⟨ha.k, ha.m, pe_op ho ha.pe hb.pe, imp_m2 hr hn ha.imp hb.imp⟩
theorem dm_cmp {op : CmpOp} {r : R2} {k : D → D → R D} (ho : OpR X (compareOp op) r) (hr : Op2 K mg r k) (hn : ∀ x y, NoX (k x y)) (ha : DM K mg E T X a ta f) (hb : DM K mg E T X b tb g) (hm : behindInMarks op b = false) :
    DM K mg E T X (.Compare a [op] [b] pos) (tOp r ta tb) (m2 k f g) := ⟨ha.k, ha.m, pe_cmpR ho ha.pe hb.pe hm, imp_m2 hr hn ha.imp hb.imp⟩
def mTest (f : S → M D) : S → M Bool := fun ρ => (f ρ).lift asB
theorem PostMT.bindM {B : Bs} {Φ : Hp} {σ : L2.St} {r : M D} {Q : Bool → Hp → Prop} (h : PostMT K mg E T B Φ σ (r.lift asB) Q) : PostM K mg E T B Φ σ r (fun x H' => ∃ k, x = .bl k ∧ Q k H') := by
  cases r with
  | ok d ρ =>
    intro v Φ' H' e s sv
    cases d with
    | bl b => cases sv; exact ⟨b, rfl, h Φ' H' e s⟩
    | _ => exact False.elim h
  | raise x ρ => exact h
  | stuck => exact h
theorem imp_mtest (ha : ImpM K mg E T te f) : ImpMT K mg E T (tTest te) (mTest f) := fun B Φ H σ ρ s Q q => ha B Φ H σ ρ s _ (PostMT.bindM q)
theorem dmt_cmp {op : CmpOp} {r : R2} {k : D → D → R D} (ho : OpR X (compareOp op) r) (hr : Op2 K mg r k) (hn : ∀ x y, NoX (k x y)) (ha : DM K mg E T X a ta f) (hb : DM K mg E T X b tb g) (hm : behindInMarks op b = false) :
    DMT K mg E T X (.Compare a [op] [b] pos) (tTest (tOp r ta tb)) (mTest (m2 k f g)) := ⟨ha.k, ha.m, pt_cmpR ho ha.pe hb.pe hm, imp_mtest (imp_m2 hr hn ha.imp hb.imp)⟩
theorem dmt_val (h : DM K mg E T X e te f) (he : ∀ whole, isTrue e X.env whole = (do let v ← whole; standAt e.pos; holding [v] (truthy v)) := by intro _; rfl) : DMT K mg E T X e (tB te) (mTest f) :=
  ⟨h.k, h.m, pt_val h.pe he, fun B Φ H σ ρ s Q q => h.imp B Φ H σ ρ s _ (PostMT.bindM q)⟩
def mAnd (f g : S → M Bool) : S → M Bool := fun ρ => (f ρ).bind fun x ρ => if x then g ρ else .ok false ρ
def mOr (f g : S → M Bool) : S → M Bool := fun ρ => (f ρ).bind fun x ρ => if x then .ok true ρ else g ρ
def mNot (f : S → M Bool) : S → M Bool := fun ρ => (f ρ).bind fun x ρ => .ok (!x) ρ
variable {p' q' : S → M Bool}
theorem PostMT.bind {B : Bs} {Φ : Hp} {σ : L2.St} {r : M Bool} {k : Bool → S → M Bool} {Q Q' : Bool → Hp → Prop} (h : PostMT K mg E T B Φ σ (r.bind k) Q) (q : ∀ b ρ Φ' H', Ex Φ Φ' → SOk K mg T B Φ' H' σ ρ → PostMT K mg E T B Φ' σ (k b ρ) Q → Q' b H') : PostMT K mg E T B Φ σ r Q' := by
  cases r with
  | ok b ρ => exact fun Φ' H' e s => q b ρ Φ' H' e s (PostMT.ext e h)
  | raise x ρ => exact h
  | stuck => exact h
theorem imp_mand (ha : ImpMT K mg E T tt p') (hb : ImpMT K mg E T tu q') : ImpMT K mg E T (tAnd tt tu) (mAnd p' q') := by
  intro B Φ H σ ρ s Q z
  refine ha B Φ H σ ρ s _ (PostMT.bind z fun b ρ1 Φ1 H1 e1 s1 z1 => ?_)
  cases b with
  | true => exact hb B Φ1 H1 σ ρ1 s1 Q z1
  | false => exact z1 Φ1 H1 (Ex.refl _) s1
theorem imp_mor (ha : ImpMT K mg E T tt p') (hb : ImpMT K mg E T tu q') : ImpMT K mg E T (tOr tt tu) (mOr p' q') := by
  intro B Φ H σ ρ s Q z
  refine ha B Φ H σ ρ s _ (PostMT.bind z fun b ρ1 Φ1 H1 e1 s1 z1 => ?_)
  cases b with
  | false => exact hb B Φ1 H1 σ ρ1 s1 Q z1
  | true => exact z1 Φ1 H1 (Ex.refl _) s1
theorem dmt_not (ha : DMT K mg E T X a tt p') : DMT K mg E T X (.UnaryOp .Not a pos) (tNot tt) (mNot p') := ⟨ha.k, ha.m, pt_not ha.pe, fun B Φ H σ ρ s Q z => ha.imp B Φ H σ ρ s _ (PostMT.bind z fun b ρ1 Φ1 H1 e1 s1 z1 => z1 Φ1 H1 (Ex.refl _) s1)⟩
theorem dmw_and1 (ha : DMT K mg E T X a tt p') : DMW K mg E T X (.BoolOp .And [a] pos) tt p' := ⟨ha.k, ha.m, pw_and1 ha.pe, ha.imp⟩
theorem dmw_or1 (ha : DMT K mg E T X a tt p') : DMW K mg E T X (.BoolOp .Or [a] pos) tt p' := ⟨ha.k, ha.m, pw_or1 ha.pe, ha.imp⟩
theorem dmw_and (ha : DMT K mg E T X a tt p') (hb : DMW K mg E T X (.BoolOp .And (b :: rest) pos) tu q') : DMW K mg E T X (.BoolOp .And (a :: b :: rest) pos) (tAnd tt tu) (mAnd p' q') := ⟨ha.k, ha.m, pw_and ha.pe hb.pe, imp_mand ha.imp hb.imp⟩
theorem dmw_or (ha : DMT K mg E T X a tt p') (hb : DMW K mg E T X (.BoolOp .Or (b :: rest) pos) tu q') : DMW K mg E T X (.BoolOp .Or (a :: b :: rest) pos) (tOr tt tu) (mOr p' q') := ⟨ha.k, ha.m, pw_or ha.pe hb.pe, imp_mor ha.imp hb.imp⟩
theorem DMW.t (h : DMW K mg E T X a tt p') : DMT K mg E T X a tt p' := ⟨h.k, h.m, h.pe.pt, h.imp⟩
def mAndV (f g : S → M D) : S → M D := fun ρ => ((f ρ).lift asB).bind fun b ρ => if b then g ρ else .ok (.bl false) ρ
def mOrV (f g : S → M D) : S → M D := fun ρ => ((f ρ).lift asB).bind fun b ρ => if b then .ok (.bl true) ρ else g ρ
def mNotV (f : S → M D) : S → M D := fun ρ => ((f ρ).lift asB).bind fun b ρ => .ok (.bl (!b)) ρ
theorem PostM.bindB {B : Bs} {Φ : Hp} {σ : L2.St} {r : M D} {k : Bool → S → M D} {Q Q' : VK} (h : PostM K mg E T B Φ σ ((r.lift asB).bind k) Q) (q : ∀ b ρ Φ' H', Ex Φ Φ' → SOk K mg T B Φ' H' σ ρ → PostM K mg E T B Φ' σ (k b ρ) Q → Q' (.bl b) H') : PostM K mg E T B Φ σ r Q' := by
  cases r with
  | ok d ρ =>
    intro v Φ' H' e s sv
    cases d with
    | bl b => cases sv; exact q b ρ Φ' H' e s (PostM.ext e h)
    | _ => exact False.elim h
  | raise x ρ => exact h
  | stuck => exact h
theorem dm_one {op} (ha : DM K mg E T X a ta f) : DM K mg E T X (.BoolOp op [a] pos) ta f := ⟨ha.k, ha.m, pe_one ha.pe, ha.imp⟩
theorem dm_and (ha : DM K mg E T X a ta f) (hb : DM K mg E T X (.BoolOp .And (b :: rest) pos) tb g) : DM K mg E T X (.BoolOp .And (a :: b :: rest) pos) (tAndV ta tb) (mAndV f g) := by
  refine ⟨ha.k, ha.m, pe_and ha.pe hb.pe, fun B Φ H σ ρ s Q z => ha.imp B Φ H σ ρ s _ (PostM.bindB z fun b ρ1 Φ1 H1 e1 s1 z1 => ⟨b, rfl, ?_⟩)⟩
  cases b with
  | true => exact hb.imp B Φ1 H1 σ ρ1 s1 Q z1
  | false => exact z1 _ Φ1 H1 (Ex.refl _) s1 (.bl _)
theorem dm_or (ha : DM K mg E T X a ta f) (hb : DM K mg E T X (.BoolOp .Or (b :: rest) pos) tb g) : DM K mg E T X (.BoolOp .Or (a :: b :: rest) pos) (tOrV ta tb) (mOrV f g) := by
  refine ⟨ha.k, ha.m, pe_or ha.pe hb.pe, fun B Φ H σ ρ s Q z => ha.imp B Φ H σ ρ s _ (PostM.bindB z fun b ρ1 Φ1 H1 e1 s1 z1 => ⟨b, rfl, ?_⟩)⟩
  cases b with
  | false => exact hb.imp B Φ1 H1 σ ρ1 s1 Q z1
  | true => exact z1 _ Φ1 H1 (Ex.refl _) s1 (.bl _)
theorem dm_not (ha : DM K mg E T X a ta f) : DM K mg E T X (.UnaryOp .Not a pos) (tNotV ta) (mNotV f) := ⟨ha.k, ha.m, pe_not ha.pe, fun B Φ H σ ρ s Q z => ha.imp B Φ H σ ρ s _ (PostM.bindB z fun b ρ1 Φ1 H1 e1 s1 z1 => ⟨b, rfl, z1 _ Φ1 H1 (Ex.refl _) s1 (.bl _)⟩)⟩
def mIf (c : S → M Bool) (f g : S → M D) : S → M D := fun ρ => (c ρ).bind fun b ρ => if b then f ρ else g ρ
theorem dm_if {fc : S → M Bool} (hc : DMT K mg E T X c tt fc) (ha : DM K mg E T X a ta f) (hb : DM K mg E T X b tb g) : DM K mg E T X (.IfExp c a b pos) (tIf tt ta tb) (mIf fc f g) := by
  refine ⟨ha.k, ha.m, pe_ifExp hc.pe ha.pe hb.pe, fun B Φ H σ ρ s Q z => hc.imp B Φ H σ ρ s _ ?_⟩
  have z : PostM K mg E T B Φ σ ((fc ρ).bind fun b ρ => if b then f ρ else g ρ) Q := z
  cases q : fc ρ with
  | ok b ρ1 =>
    rw [q] at z
    intro Φ1 H1 e1 s1
    cases b with
    | true => exact ha.imp B Φ1 H1 σ ρ1 s1 Q (PostM.ext e1 z)
    | false => exact hb.imp B Φ1 H1 σ ρ1 s1 Q (PostM.ext e1 z)
  | raise x ρ1 => rw [q] at z; exact z
  | stuck => rw [q] at z; exact z
/-! ### arguments, displays -/
def mNil : S → M (List D) := fun ρ => .ok [] ρ
def mCons (f : S → M D) (g : S → M (List D)) : S → M (List D) := fun ρ => (f ρ).bind fun x ρ => (g ρ).bind fun xs ρ => .ok (x :: xs) ρ
theorem dma_nil (hk : X.K = K := by rfl) (hm : X.mg = mg := by rfl) : DMA K mg E T X [] tNil mNil := ⟨hk, hm, pa_nil, fun B Φ H σ ρ s Q z => z [] Φ H (Ex.refl _) s .nil⟩
theorem dma_cons {ts : TA} {gs : S → M (List D)} (ha : DM K mg E T X e te f) (hr : DMA K mg E T X es ts gs) (hs : starEach (e :: es) X.env = (false, eval e X.env) :: starEach es X.env := by rfl) : DMA K mg E T X (e :: es) (tCons te ts) (mCons f gs) := by
  refine ⟨ha.k, ha.m, pa_cons ha.pe hr.pe hs, fun B Φ H σ ρ s Q z => ha.imp B Φ H σ ρ s _ ?_⟩
  have z : PostMA K mg E T B Φ σ ((f ρ).bind fun x ρ => (gs ρ).bind fun xs ρ => .ok (x :: xs) ρ) Q := z
  cases q : f ρ with
  | ok d ρ1 =>
    rw [q] at z
    intro v Φ1 H1 e1 s1 sv
    refine hr.imp B Φ1 H1 σ ρ1 s1 _ ?_
    have z : PostMA K mg E T B Φ1 σ ((gs ρ1).bind fun xs ρ => .ok (d :: xs) ρ) Q := PostMA.ext e1 z
    cases q2 : gs ρ1 with
    | ok ds ρ2 => rw [q2] at z; exact fun vs Φ2 H2 e2 s2 svs => z _ Φ2 H2 e2 s2 (.cons (See.mono e2 sv) svs)
    | raise x ρ2 => rw [q2] at z; exact z
    | stuck => rw [q2] at z; exact z
  | raise x ρ1 => rw [q] at z; exact z
  | stuck => rw [q] at z; exact z
theorem PostMA.bindR {B : Bs} {Φ : Hp} {σ : L2.St} {r : M (List D)} {k : List D → R D} {Q : VK} {Q' : List V → Hp → Prop} (h : PostM K mg E T B Φ σ (r.lift k) Q) (q : ∀ ds ρ vs Φ' H', Ex Φ Φ' → SOk K mg T B Φ' H' σ ρ → SeeAll K mg Φ' vs ds → PostE K mg E Φ' H' (k ds) Q → Q' vs H') : PostMA K mg E T B Φ σ r Q' := by
  cases r with
  | ok ds ρ => exact fun vs Φ' H' e s sv => q ds ρ vs Φ' H' e s sv (PostM.ofRX s (PostM.ext e h))
  | raise x ρ => exact h
  | stuck => exact h
theorem PostMA.bindRN {B : Bs} {Φ : Hp} {σ : L2.St} {r : M (List D)} {k : List D → R (List D)} {Q : VK} {Q' : List V → Hp → Prop} (h : PostMN K mg E T B Φ σ (r.lift k) Q) (q : ∀ ds ρ vs Φ' H', Ex Φ Φ' → SOk K mg T B Φ' H' σ ρ → SeeAll K mg Φ' vs ds → PostN K mg E Φ' H' (k ds) Q → Q' vs H') : PostMA K mg E T B Φ σ r Q' := by
  cases r with
  | ok ds ρ => exact fun vs Φ' H' e s sv => q ds ρ vs Φ' H' e s sv (PostMN.ofRX s (PostMN.ext e h))
  | raise x ρ => exact h
  | stuck => exact h
def tupR (ds : List D) : R D := if ds.length ≤ sizeLine then .ok (.tup ds) else .stuck
def lstR (ds : List D) : R (List D) := if ds.length ≤ sizeLine then .ok ds else .stuck
def mA (k : List D → R D) (g : S → M (List D)) : S → M D := fun ρ => (g ρ).lift k
def mAN (k : List D → R (List D)) (g : S → M (List D)) : S → M (List D) := fun ρ => (g ρ).lift k
theorem dm_tup {ts : TA} {gs : S → M (List D)} {x1} (ha : DMA K mg E T X es ts gs) : DM K mg E T X (.Tuple es x1 pos) (tTupF ts) (mA tupR gs) := by
  refine ⟨ha.k, ha.m, pe_tupF ha.pe, fun B Φ H σ ρ s Q z => ha.imp B Φ H σ ρ s _ (PostMA.bindR z fun ds ρ1 vs Φ1 H1 e1 s1 sv z1 => ?_)⟩
  unfold tupR at z1
  split at z1
  · rename_i hl
    exact ⟨by rw [SeeAll.length sv]; exact hl, PostE.newT s1.ex z1 sv⟩
  · exact z1.elim
theorem dmn_lst {ts : TA} {gs : S → M (List D)} (ha : DMA K mg E T X es ts gs) : DMN K mg E T X (.List es pos) (tLst ts) (mAN lstR gs) := by
  refine ⟨ha.k, ha.m, pe_lst ha.pe, fun B Φ H σ ρ s Q z => ha.imp B Φ H σ ρ s _ (PostMA.bindRN z fun ds ρ1 vs Φ1 H1 e1 s1 sv z1 => ?_)⟩
  unfold lstR at z1
  split at z1
  · rename_i hl
    exact ⟨by rw [SeeAll.length sv]; exact hl, fun p np => z1 p vs Φ1 _ (Gr.newM s1.ex np) np (Ex.none (e := s1.ex) np) upd_same sv⟩
  · exact z1.elim
/-! ### calls -/
variable {ts : TA} {gs : S → M (List D)} {x : Str} {fA : Addr} {fd : FuncData} {ps : List Str} {k : Nat}
theorem dm_call {F : List D → R D} (C : Callee X x fA fd ps (spF K mg F)) (hx : Passes (L2.CX X.prog X.w) X E) (ha : DMA K mg E T X (e :: es) ts gs) (hg : Gl X x := by rfl)
    (hdb : (x == ("__debug__" : Str)) = false := by decide) (he : starEach (e :: es) X.env = (false, eval e
            X.env) :: starEach es X.env := by rfl) (hpl : (backTo pos (starEach es X.env)).any (·.1) = false := by rfl) :
    DM K mg E T X (.Call (.Name x p) (e :: es) [] pos) (tCall (spF K mg F) [] E ts) (mA F gs) :=
  ⟨ha.k, ha.m, pe_at C hg hx ha.pe hdb he hpl, fun B Φ H σ ρ s Q z => ha.imp B Φ H σ ρ s _ (PostMA.bindR z fun ds ρ1 vs Φ1 H1 e1 s1 sv z1 => ⟨Φ1, ds, s1.ex, by rw [List.append_nil]; exact sv, z1⟩)⟩
theorem dmn_call {F : List D → R (List D)} (C : Callee X x fA fd ps (spN K mg F)) (hx : Passes (L2.CX X.prog X.w) X E) (ha : DMA K mg E T X (e :: es) ts gs) (hg : Gl X x := by rfl)
    (hdb : (x == ("__debug__" : Str)) = false := by decide) (he : starEach (e :: es) X.env = (false, eval e
            X.env) :: starEach es X.env := by rfl) (hpl : (backTo pos (starEach es X.env)).any (·.1) = false := by rfl) :
    DMN K mg E T X (.Call (.Name x p) (e :: es) [] pos) (tCall (spN K mg F) [] E ts) (mAN F gs) :=
  ⟨ha.k, ha.m, pe_at C hg hx ha.pe hdb he hpl, fun B Φ H σ ρ s Q z => ha.imp B Φ H σ ρ s _ (PostMA.bindRN z fun ds ρ1 vs Φ1 H1 e1 s1 sv z1 => ⟨Φ1, ds, s1.ex, by rw [List.append_nil]; exact sv, z1⟩)⟩
/-! ### built-ins, frozen arguments -/
def OpA (K : PySem.W.Frag) (mg : Str → Option Value) (r : List V → Hp → VK → Prop) (g : List D → R D) : Prop :=
  ∀ (Φ H : Hp) (vs : List V) (ds : List D) (Q : VK), Ex Φ H → SeeAll K mg Φ vs ds → PostE K mg (fun _ _ _ => False) Φ H (g ds) Q → r vs H Q
def OpAN (K : PySem.W.Frag) (mg : Str → Option Value) (r : List V → Hp → VK → Prop) (g : List D → R (List D)) : Prop :=
  ∀ (Φ H : Hp) (vs : List V) (ds : List D) (Q : VK), Ex Φ H → SeeAll K mg Φ vs ds → PostN K mg (fun _ _ _ => False) Φ H (g ds) Q → r vs H Q
def one (g : D → R D) : List D → R D
  | [d] => g d
  | _ => .stuck
def oneN (g : D → R (List D)) : List D → R (List D)
  | [d] => g d
  | _ => .stuck
theorem one_nx {g : D → R D} (h : ∀ d, NoX (g d)) : ∀ ds, NoX (one g ds) := fun ds x => by
  unfold one
  split
  · exact h _ x
  · exact fun z => by cases z
theorem oneN_nx {g : D → R (List D)} (h : ∀ d, NoX (g d)) : ∀ ds, NoX (oneN g ds) := fun ds x => by
  unfold oneN
  split
  · exact h _ x
  · exact fun z => by cases z
theorem Op1.toA {r : List V → Hp → VK → Prop} {g : D → R D} (h : Op1 K mg r g) : OpA K mg r (one g) := by
  intro Φ H vs ds Q ex sv z
  unfold one at z
  split at z
  · cases sv with
    | cons a t => cases t; exact h Φ H _ _ Q ex (.fz a) z
  · exact z.elim
theorem Op1N.toA {r : List V → Hp → VK → Prop} {g : D → R (List D)} (h : Op1N K mg r g) : OpAN K mg r (oneN g) := by
  intro Φ H vs ds Q ex sv z
  unfold oneN at z
  split at z
  · cases sv with
    | cons a t => cases t; exact h Φ H _ _ Q ex (.fz a) z
  · exact z.elim
theorem imp_mA {r : List V → Hp → VK → Prop} {g : List D → R D} (hr : OpA K mg r g) (hn : ∀ x, NoX (g x)) (ha : ImpMA K mg E T ts gs) : ImpM K mg E T (tCB r ts) (mA g gs) := fun B Φ H σ ρ s Q z =>
  ha B Φ H σ ρ s _ (PostMA.bindR z fun ds ρ1 vs Φ1 H1 e1 s1 sv z1 => hr Φ1 H1 vs ds Q s1.ex sv (PostE.noX (hn _) z1))
theorem imp_mAN {r : List V → Hp → VK → Prop} {g : List D → R (List D)} (hr : OpAN K mg r g) (hn : ∀ x, NoX (g x)) (ha : ImpMA K mg E T ts gs) : ImpMN K mg E T (tCB r ts) (mAN g gs) := fun B Φ H σ ρ s Q z =>
  ha B Φ H σ ρ s _ (PostMA.bindRN z fun ds ρ1 vs Φ1 H1 e1 s1 sv z1 => hr Φ1 H1 vs ds Q s1.ex sv (PostN.noX (hn _) z1))
theorem dm_bi {r : List V → Hp → VK → Prop} {g : List D → R D} {id : String} (hc : CallR X (.builtin id) r) (hr : OpA K mg r g) (hn : ∀ x, NoX (g x)) (hm : mg x = none) (hv : bootBuiltins x = some (.builtin id)) (ha : DMA K mg E T X (a :: es) ts gs) (hg : Gl X x := by rfl)
    (hnn : x ≠ "__name__" := by decide) (hdb : (x == ("__debug__" : Str)) = false := by decide) (hs : starEach (a :: es) X.env = (false, eval a X.env) :: starEach es X.env := by rfl) (hpl : (backTo pos (starEach es X.env)).any (·.1) = false := by rfl) :
    DM K mg E T X (.Call (.Name x p) (a :: es) [] pos) (tCB r ts) (mA g gs) := ⟨ha.k, ha.m, pe_callB hc hg (by rw [ha.m]; exact hm) hv ha.pe hnn hdb hs hpl, imp_mA hr hn ha.imp⟩
theorem dmn_bi {r : List V → Hp → VK → Prop} {g : List D → R (List D)} {id : String} (hc : CallR X (.builtin id) r) (hr : OpAN K mg r g) (hn : ∀ x, NoX (g x)) (hm : mg x = none) (hv : bootBuiltins x = some (.builtin id)) (ha : DMA K mg E T X (a :: es) ts gs) (hg : Gl X x := by rfl)
    (hnn : x ≠ "__name__" := by decide) (hdb : (x == ("__debug__" : Str)) = false := by decide) (hs : starEach (a :: es) X.env = (false, eval a X.env) :: starEach es X.env := by rfl) (hpl : (backTo pos (starEach es X.env)).any (·.1) = false := by rfl) :
    DMN K mg E T X (.Call (.Name x p) (a :: es) [] pos) (tCB r ts) (mAN g gs) := ⟨ha.k, ha.m, pe_callB hc hg (by rw [ha.m]; exact hm) hv ha.pe hnn hdb hs hpl, imp_mAN hr hn ha.imp⟩
theorem dm_ty {r : List V → Hp → VK → Prop} {g : List D → R D} {id : String} (hc : CallR X (.type id) r) (hr : OpA K mg r g) (hn : ∀ x, NoX (g x)) (hm : mg x = none) (hv : bootBuiltins x = some (.type id)) (ha : DMA K mg E T X (a :: es) ts gs) (hg : Gl X x := by rfl)
    (hnn : x ≠ "__name__" := by decide) (hdb : (x == ("__debug__" : Str)) = false := by decide) (hs : starEach (a :: es) X.env = (false, eval a X.env) :: starEach es X.env := by rfl) (hpl : (backTo pos (starEach es X.env)).any (·.1) = false := by rfl) :
    DM K mg E T X (.Call (.Name x p) (a :: es) [] pos) (tCB r ts) (mA g gs) := ⟨ha.k, ha.m, pe_callTy hc hg (by rw [ha.m]; exact hm) hv ha.pe hnn hdb hs hpl, imp_mA hr hn ha.imp⟩
theorem dmn_ty {r : List V → Hp → VK → Prop} {g : List D → R (List D)} {id : String} (hc : CallR X (.type id) r) (hr : OpAN K mg r g) (hn : ∀ x, NoX (g x)) (hm : mg x = none) (hv : bootBuiltins x = some (.type id)) (ha : DMA K mg E T X (a :: es) ts gs) (hg : Gl X x := by rfl)
    (hnn : x ≠ "__name__" := by decide) (hdb : (x == ("__debug__" : Str)) = false := by decide) (hs : starEach (a :: es) X.env = (false, eval a X.env) :: starEach es X.env := by rfl) (hpl : (backTo pos (starEach es X.env)).any (·.1) = false := by rfl) :
    DMN K mg E T X (.Call (.Name x p) (a :: es) [] pos) (tCB r ts) (mAN g gs) := ⟨ha.k, ha.m, pe_callTy hc hg (by rw [ha.m]; exact hm) hv ha.pe hnn hdb hs hpl, imp_mAN hr hn ha.imp⟩
end
end TP
set_option Elab.async false
set_option linter.all false
set_option maxRecDepth 100000
/-! Tree programs: the built-ins. -/
namespace TP
open PySem L2 PyProof.Rows PySem.Spec
section
variable {K : PySem.W.Frag} {mg : Str → Option Value} {T : List (Addr × Str)} {X : Cx}
/-! ### len -/
def bLen : D → R D
  | .lst ds => .ok (.int ds.length)
  | .tup ds => .ok (.int ds.length)
  | .dic ds => .ok (.int ds.length)
  | .scr ns => .ok (.int ns.length)
  | .str z => if z.length ≤ sizeLine then .ok (.int z.length) else .stuck
  | _ => .stuck
abbrev rLen2 (K : PySem.W.Frag) : List V → Hp → VK → Prop := fun xs H Q => (∃ x n, xs = [x] ∧ LenV K x H n ∧ Q (.int n) H) ∨ ∃ a kvs, xs = [V.ref a] ∧ H a = some (.dK kvs) ∧ Q (.int kvs.length) H
theorem cr_len2 : CallR X (.builtin "len") (rLen2 X.K) := call_len.or call_lenD
theorem SeeB.dic {Φ H : Hp} {v : V} {ds : List (Key × D)} (x : Ex Φ H) (h : SeeB K mg Φ H v (.dic ds)) : ∃ p vs, v = .ref p ∧ H p = some (.dK vs) ∧ SeeK K mg Φ vs ds := by
  cases h with
  | fz h => cases h with | dic a r => exact ⟨_, _, rfl, x _ _ a, r⟩
  | md a r => exact ⟨_, _, rfl, a, r⟩
theorem SeeB.scr {Φ H : Hp} {v : V} {ns : List Int} (x : Ex Φ H) (h : SeeB K mg Φ H v (.scr ns)) : ∃ p, v = .ref p ∧ SqL K H p (ns.map V.int) ∧ SqL K Φ p (ns.map V.int) := by
  cases h with
  | fz h => cases h with | scr a => exact ⟨_, rfl, ex_l x a, a⟩
theorem SeeK.length {Φ : Hp} : ∀ {vs : List (Key × V)} {ds : List (Key × D)}, SeeK K mg Φ vs ds → vs.length = ds.length
  | _, _, .nil => rfl
  | _, _, .cons _ t => by simp [SeeK.length t]
theorem sem_len : Op1 K mg (rLen2 K) bLen := by
  intro Φ H x dx Q ex hx h
  unfold bLen at h
  split at h
  · obtain ⟨p, vs, rfl, e, s⟩ := hx.lst ex
    exact .inl ⟨_, _, rfl, .inl ⟨vs, .inl (.inl e), rfl⟩, by rw [SeeAll.length s]; exact h.flat ex rfl (.int _)⟩
  · obtain ⟨p, vs, rfl, e, _, s⟩ := hx.tup ex
    exact .inl ⟨_, _, rfl, .inr ⟨vs, e, rfl⟩, by rw [SeeAll.length s]; exact h.flat ex rfl (.int _)⟩
  · obtain ⟨p, vs, rfl, e, s⟩ := hx.dic ex
    exact .inr ⟨_, _, rfl, e, by rw [SeeK.length s]; exact h.flat ex rfl (.int _)⟩
  · obtain ⟨p, rfl, e, _⟩ := hx.scr ex
    exact .inl ⟨_, _, rfl, .inl ⟨_, e, rfl⟩, by rw [List.length_map]; exact h.flat ex rfl (.int _)⟩
  · split at h
    · rename_i hl
      cases hx.str
      exact .inl ⟨_, _, rfl, ⟨hl, rfl⟩, h.flat ex rfl (.int _)⟩
    · exact h.elim
  · exact h.elim
theorem len_nx : ∀ x, NoX (bLen x) := fun x z => by
  unfold bLen
  repeat' split
  all_goals exact fun w => by cases w
/-! ### tuple(..), list(..) -/
def bTuple : D → R D
  | .lst ds => .ok (.tup ds)
  | .tup ds => .ok (.tup ds)
  | _ => .stuck
theorem sem_tuple : Op1 K mg (rTupF K) bTuple := by
  intro Φ H x dx Q ex hx h
  unfold bTuple at h
  split at h
  · obtain ⟨p, vs, rfl, e, s⟩ := hx.lst ex
    exact ⟨p, vs, rfl, .inl ⟨.inl (.inl e), PostE.newT ex h s⟩⟩
  · obtain ⟨p, vs, rfl, e, e', s⟩ := hx.tup ex
    exact ⟨p, vs, rfl, .inr ⟨e, h.flat ex rfl (.tup e' s)⟩⟩
  · exact h.elim
theorem tuple_nx : ∀ x, NoX (bTuple x) := fun x z => by
  unfold bTuple
  repeat' split
  all_goals exact fun w => by cases w
theorem PostN.new {E : XK} {Φ H : Hp} {Q : VK} {ds : List D} {vs : List V} (ex : Ex Φ H) (h : PostN K mg E Φ H (.ok ds) Q) (s : SeeAll K mg Φ vs ds) : ∀ p, H p = none → Q (.ref p) (upd H p (.lst vs)) := fun p np =>
  h p vs Φ _ (Gr.newM ex np) np (Ex.none (e := ex) np) upd_same s
def bList : D → R (List D)
  | .lst ds => .ok ds
  | .tup ds => .ok ds
  | .scr ns => .ok (ns.map D.int)
  | _ => .stuck
abbrev rList (K : PySem.W.Frag) : List V → Hp → VK → Prop := fun xs H Q => ∃ p ys, xs = [.ref p] ∧ (SqL K H p ys ∨ SqT K H p ys) ∧ ∀ l, H l = none → Q (.ref l) (upd H l (.lst ys))
theorem cr_list : CallR X (.type "list") (rList X.K) := call_list_of
theorem sem_list : Op1N K mg (rList K) bList := by
  intro Φ H x dx Q ex hx h
  unfold bList at h
  split at h
  · obtain ⟨p, vs, rfl, e, s⟩ := hx.lst ex
    exact ⟨p, vs, rfl, .inl (.inl (.inl e)), PostN.new ex h s⟩
  · obtain ⟨p, vs, rfl, e, e', s⟩ := hx.tup ex
    exact ⟨p, vs, rfl, .inr e, PostN.new ex h s⟩
  · obtain ⟨p, rfl, e, _⟩ := hx.scr ex
    exact ⟨p, _, rfl, .inl e, PostN.new ex h (SeeAll.ofInts _)⟩
  · exact h.elim
theorem list_nx : ∀ x, NoX (bList x) := fun x z => by
  unfold bList
  repeat' split
  all_goals exact fun w => by cases w
/-! ### all, any, sum, abs, int -/
def D.bls : List D → Option (List Bool)
  | [] => some []
  | .bl b :: ds => (D.bls ds).map (b :: ·)
  | _ :: _ => none
theorem bls_see {Φ : Hp} : ∀ {ds : List D} {bs : List Bool} {vs : List V}, D.bls ds = some bs → SeeAll K mg Φ vs ds → vs = bs.map V.bl
  | [], _, _, h, s => by cases h; cases s; rfl
  | .bl b :: ds, bs, _, h, s => by
    have h : (D.bls ds).map (b :: ·) = some bs := h
    cases q : D.bls ds with
    | none => rw [q] at h; cases h
    | some cs =>
      rw [q] at h
      cases h
      cases s with
      | cons a t => cases a; rw [bls_see q t]; rfl
  | .non :: _, _, _, h, _ => by cases h
  | .int _ :: _, _, _, h, _ => by cases h
  | .str _ :: _, _, _, h, _ => by cases h
  | .tup _ :: _, _, _, h, _ => by cases h
  | .lst _ :: _, _, _, h, _ => by cases h
  | .pr _ :: _, _, _, h, _ => by cases h
  | .dic _ :: _, _, _, h, _ => by cases h
  | .dit _ :: _, _, _, h, _ => by cases h
  | .obj _ _ :: _, _, _, h, _ => by cases h
  | .exc _ _ :: _, _, _, h, _ => by cases h
  | .scr _ :: _, _, _, h, _ => by cases h
  | .fn _ :: _, _, _, h, _ => by cases h
def bAll : D → R D
  | .lst ds => match D.bls ds with
    | some bs => .ok (.bl (bs.all id))
    | none => .stuck
  | _ => .stuck
def bAny : D → R D
  | .lst ds => match D.bls ds with
    | some bs => .ok (.bl (bs.any id))
    | none => .stuck
  | _ => .stuck
theorem sem_all : Op1 K mg (rAll K) bAll := by
  intro Φ H x dx Q ex hx h
  unfold bAll at h
  split at h
  · split at h
    · rename_i bs e
      obtain ⟨p, vs, rfl, e1, s⟩ := hx.lst ex
      rw [bls_see e s] at e1
      exact ⟨p, bs, rfl, .inl (.inl e1), h.flat ex rfl (.bl _)⟩
    · exact h.elim
  · exact h.elim
theorem sem_any : Op1 K mg (rAny K) bAny := by
  intro Φ H x dx Q ex hx h
  unfold bAny at h
  split at h
  · split at h
    · rename_i bs e
      obtain ⟨p, vs, rfl, e1, s⟩ := hx.lst ex
      rw [bls_see e s] at e1
      exact ⟨p, bs, rfl, .inl (.inl e1), h.flat ex rfl (.bl _)⟩
    · exact h.elim
  · exact h.elim
theorem all_nx : ∀ x, NoX (bAll x) := fun x z => by
  unfold bAll
  repeat' split
  all_goals exact fun w => by cases w
theorem any_nx : ∀ x, NoX (bAny x) := fun x z => by
  unfold bAny
  repeat' split
  all_goals exact fun w => by cases w
def bSum : D → R D
  | .lst ds => match D.ints ds with
    | some ns => .ok (.int ns.sum)
    | none => .stuck
  | _ => .stuck
theorem sem_sum : Op1 K mg (rSum K) bSum := by
  intro Φ H x dx Q ex hx h
  unfold bSum at h
  split at h
  · split at h
    · rename_i ns e
      obtain ⟨p, vs, rfl, e1, s⟩ := hx.lst ex
      rw [ints_some e] at s
      rw [SeeAll.ints s] at e1
      exact ⟨p, ns, rfl, .inl (.inl e1), h.flat ex rfl (.int _)⟩
    · exact h.elim
  · exact h.elim
theorem sum_nx : ∀ x, NoX (bSum x) := fun x z => by
  unfold bSum
  repeat' split
  all_goals exact fun w => by cases w
def bAbs : D → R D
  | .int i => .ok (.int (if i < 0 then -i else i))
  | _ => .stuck
abbrev rAbs : List V → Hp → VK → Prop := fun xs H Q => ∃ i, xs = [.int i] ∧ Q (.int (if i < 0 then -i else i)) H
theorem sem_abs : Op1 K mg rAbs bAbs := by
  intro Φ H x dx Q ex hx h
  unfold bAbs at h
  split at h
  · cases hx.int
    exact ⟨_, rfl, h.flat ex rfl (.int _)⟩
  · exact h.elim
theorem abs_nx : ∀ x, NoX (bAbs x) := fun x z => by
  unfold bAbs
  repeat' split
  all_goals exact fun w => by cases w
def bInt : D → R D
  | .int i => .ok (.int i)
  | .bl b => .ok (.int (if b then 1 else 0))
  | _ => .stuck
abbrev rInt : List V → Hp → VK → Prop := fun xs H Q => (∃ i, xs = [.int i] ∧ Q (.int i) H) ∨ ∃ k, xs = [.bl k] ∧ Q (.int (if k then 1 else 0)) H
theorem sem_int : Op1 K mg rInt bInt := by
  intro Φ H x dx Q ex hx h
  unfold bInt at h
  split at h
  · cases hx.int
    exact .inl ⟨_, rfl, h.flat ex rfl (.int _)⟩
  · cases hx.bl
    exact .inr ⟨_, rfl, h.flat ex rfl (.int _)⟩
  · exact h.elim
theorem int_nx : ∀ x, NoX (bInt x) := fun x z => by
  unfold bInt
  repeat' split
  all_goals exact fun w => by cases w
/-! ### max, min of two -/
def bMax2 : List D → R D
  | [.int i, .int j] => .ok (.int (if j > i then j else i))
  | _ => .stuck
def bMin2 : List D → R D
  | [.int i, .int j] => .ok (.int (if j < i then j else i))
  | _ => .stuck
theorem sem_max2 : OpA K mg (fun xs H Q => ∃ i j, xs = [.int i, .int j] ∧ Q (.int (if j > i then j else i)) H) bMax2 := by
  intro Φ H vs ds Q ex sv z
  unfold bMax2 at z
  split at z
  · cases sv with
    | cons a t => cases a; cases t with
      | cons a t => cases a; cases t; exact ⟨_, _, rfl, z.flat ex rfl (.int _)⟩
  · exact z.elim
theorem sem_min2 : OpA K mg (fun xs H Q => ∃ i j, xs = [.int i, .int j] ∧ Q (.int (if j < i then j else i)) H) bMin2 := by
  intro Φ H vs ds Q ex sv z
  unfold bMin2 at z
  split at z
  · cases sv with
    | cons a t => cases a; cases t with
      | cons a t => cases a; cases t; exact ⟨_, _, rfl, z.flat ex rfl (.int _)⟩
  · exact z.elim
theorem max2_nx : ∀ x, NoX (bMax2 x) := fun x z => by
  unfold bMax2
  repeat' split
  all_goals exact fun w => by cases w
theorem min2_nx : ∀ x, NoX (bMin2 x) := fun x z => by
  unfold bMin2
  repeat' split
  all_goals exact fun w => by cases w
/-! ### sorted, numbers -/
def ins (x : Int) : List Int → List Int
  | [] => [x]
  | y :: ys => if x ≤ y then x :: y :: ys else y :: ins x ys
def isort : List Int → List Int
  | [] => []
  | x :: xs => ins x (isort xs)
theorem ins_perm (x : Int) : ∀ ys, (ins x ys).Perm (x :: ys)
  | [] => .refl _
  | y :: ys => by
    unfold ins
    split
    · exact .refl _
    · exact ((ins_perm x ys).cons y).trans (.swap x y ys)
theorem isort_perm : ∀ xs, (isort xs).Perm xs
  | [] => .refl _
  | x :: xs => (ins_perm x _).trans ((isort_perm xs).cons x)
theorem ins_sorted (x : Int) : ∀ {ys : List Int}, ys.Pairwise (· ≤ ·) → (ins x ys).Pairwise (· ≤ ·)
  | [], _ => by simp [ins]
  | y :: ys, h => by
    unfold ins
    rw [List.pairwise_cons] at h
    split
    · rename_i c
      rw [List.pairwise_cons]
      exact ⟨fun z m => by
        rcases List.mem_cons.mp m with rfl | m
        · exact c
        · exact Int.le_trans c (h.1 z m), List.pairwise_cons.mpr h⟩
    · rename_i c
      rw [List.pairwise_cons]
      refine ⟨fun z m => ?_, ins_sorted x h.2⟩
      rcases List.mem_cons.mp ((ins_perm x ys).mem_iff.mp m) with rfl | m
      · omega
      · exact h.1 z m
theorem isort_sorted : ∀ xs, (isort xs).Pairwise (· ≤ ·)
  | [] => .nil
  | x :: xs => ins_sorted x (isort_sorted xs)
theorem sorted_unique : ∀ {xs ys : List Int}, xs.Perm ys → xs.Pairwise (· ≤ ·) → ys.Pairwise (· ≤ ·) → xs = ys
  | [], ys, p, _, _ => (List.nil_perm.mp p).symm
  | x :: xs, [], p, _, _ => by have := p.length_eq; simp at this
  | x :: xs, y :: ys, p, h1, h2 => by
    rw [List.pairwise_cons] at h1 h2
    have e : x = y := by
      have m1 : x ∈ y :: ys := p.mem_iff.mp (by simp)
      have m2 : y ∈ x :: xs := p.mem_iff.mpr (by simp)
      rcases List.mem_cons.mp m1 with q | q
      · exact q
      · rcases List.mem_cons.mp m2 with q2 | q2
        · exact q2.symm
        · exact Int.le_antisymm (h1.1 y q2) (h2.1 x q)
    subst e
    rw [sorted_unique (List.Perm.cons_inv p) h1.2 h2.2]
def bSorted : D → R (List D)
  | .lst ds => match D.ints ds with
    | some ns => .ok ((isort ns).map D.int)
    | none => .stuck
  | _ => .stuck
theorem sem_sorted : Op1N K mg (rSortedI K) bSorted := by
  intro Φ H x dx Q ex hx h
  unfold bSorted at h
  split at h
  · split at h
    · rename_i ns e
      obtain ⟨p, vs, rfl, e1, s⟩ := hx.lst ex
      rw [ints_some e] at s
      rw [SeeAll.ints s] at e1
      refine ⟨p, ns, rfl, .inl (.inl e1), fun ns' q pm st nq => ?_⟩
      have en : ns' = isort ns := sorted_unique (pm.trans (isort_perm ns).symm) st (isort_sorted ns)
      rw [en]
      exact PostN.new ex h (SeeAll.ofInts _) q nq
    · exact h.elim
  · exact h.elim
theorem sorted_nx : ∀ x, NoX (bSorted x) := fun x z => by
  unfold bSorted
  repeat' split
  all_goals exact fun w => by cases w
end
/-! ### subscripts -/
section
variable {K : PySem.W.Frag} {mg : Str → Option Value} {T : List (Addr × Str)} {E : XK} {X : Cx} {a b c e : Expr} {es : List Expr} {ta tb te tc : TE} {f g : S → R D} {fm gm : S → M D} {pos p : Pos}
theorem atI_see {Φ : Hp} {vs : List V} {ds : List D} {i : Int} {d : D} (s : SeeAll K mg Φ vs ds) (h : atI ds i = some d) : ∃ v, atI vs i = some v ∧ See K mg Φ v d := by
  unfold atI at h ⊢
  rw [SeeAll.length s]
  cases q : ixN ds.length i with
  | none => rw [q] at h; cases h
  | some j =>
    rw [q] at h
    exact SeeAll.get s h
def opIx : D → D → R D
  | .lst ds, .int i => R.ofOpt (atI ds i)
  | .tup ds, .int i => R.ofOpt (atI ds i)
  | .scr ns, .int i => R.ofOpt ((atI ns i).map D.int)
  | .str z, .int i => if z.length ≤ sizeLine then R.ofOpt ((atI z.cps.toList i).map fun c => .str ⟨#[c]⟩) else .stuck
  | _, _ => .stuck
theorem sem_ix : Op2 K mg (rIx K) opIx := by
  intro Φ H x y dx dy Q ex hx hy h
  unfold opIx at h
  split at h
  · rename_i ds i
    obtain ⟨p, vs, rfl, e1, s⟩ := hx.lst ex
    cases hy.int
    cases q : atI ds i with
    | none => rw [q] at h; exact h.elim
    | some d =>
      rw [q] at h
      obtain ⟨v, e2, sv⟩ := atI_see s q
      exact .inl ⟨p, vs, i, v, rfl, rfl, .inl (.inl e1), e2, h.flat ex rfl sv⟩
  · rename_i ds i
    obtain ⟨p, vs, rfl, e1, _, s⟩ := hx.tup ex
    cases hy.int
    cases q : atI ds i with
    | none => rw [q] at h; exact h.elim
    | some d =>
      rw [q] at h
      obtain ⟨v, e2, sv⟩ := atI_see s q
      exact .inr (.inl ⟨p, vs, i, v, rfl, rfl, e1, e2, h.flat ex rfl sv⟩)
  · rename_i ns i
    obtain ⟨p, rfl, e1, _⟩ := hx.scr ex
    cases hy.int
    cases q : atI ns i with
    | none => rw [q] at h; exact h.elim
    | some d =>
      rw [q] at h
      refine .inl ⟨p, _, i, .int d, rfl, rfl, e1, ?_, h.flat ex rfl (.int d)⟩
      unfold atI at q ⊢
      rw [List.length_map]
      cases w : ixN ns.length i with
      | none => rw [w] at q; cases q
      | some j =>
        rw [w] at q
        show (ns.map V.int)[j]? = _
        rw [List.getElem?_map]
        have q : ns[j]? = some d := q
        rw [q]; rfl
  · split at h
    · rename_i z i hl
      cases hx.str
      cases hy.int
      cases q : atI z.cps.toList i with
      | none => rw [q] at h; exact h.elim
      | some c =>
        rw [q] at h
        exact .inr (.inr ⟨z, i, c, rfl, rfl, hl, q, h.flat ex rfl (.str _)⟩)
    · exact h.elim
  · exact h.elim
theorem ofOpt_nx {α : Type} (o : Option α) : NoX (R.ofOpt o) := fun x => by
  cases o <;> exact fun z => by cases z
theorem ix_nx : ∀ x y, NoX (opIx x y) := fun x y z => by
  unfold opIx
  repeat' split
  all_goals first
    | exact ofOpt_nx _ z
    | exact fun w => by cases w
theorem de_ix (ha : DB K mg E T X a ta f) (hb : DB K mg E T X b tb g) (hs : PlainIx b := by exact fun _ _ => rfl) : DE K mg E T X (.Subscript a b pos) (tOp (rIx K) ta tb) (d2 opIx f g) := by
  obtain ⟨k, m, p1, i1⟩ := ha
  subst k
  exact ⟨rfl, m, pe_ix ix_seq p1 hb.pe hs, imp_d2 sem_ix ix_nx i1 hb.imp⟩
theorem dm_ix (ha : DM K mg E T X a ta fm) (hb : DM K mg E T X b tb gm) (hs : PlainIx b := by exact fun _ _ => rfl) : DM K mg E T X (.Subscript a b pos) (tOp (rIx K) ta tb) (m2 opIx fm gm) := by
  obtain ⟨k, m, p1, i1⟩ := ha
  subst k
  exact ⟨rfl, m, pe_ix ix_seq p1 hb.pe hs, imp_m2 sem_ix ix_nx i1 hb.imp⟩
/-! ### slices -/
def cutL {α : Type} (xs : List α) (lo hi : Option Int) : List α := (xs.drop (HT.sIx xs.length 0 lo)).take (HT.sIx xs.length xs.length hi - HT.sIx xs.length 0 lo)
theorem cutL_see {Φ : Hp} {vs : List V} {ds : List D} (s : SeeAll K mg Φ vs ds) (lo hi : Option Int) : SeeAll K mg Φ (cutV vs lo hi) (cutL ds lo hi) := by
  unfold cutV cutL
  rw [SeeAll.length s]
  exact SeeAll.take _ (SeeAll.drop _ s)
def opSl (d : D) (lo hi : Option Int) : R D := match d with
  | .lst ds => .ok (.lst (cutL ds lo hi))
  | .tup ds => .ok (.tup (cutL ds lo hi))
  | .str z => if z.length ≤ sizeLine then .ok (.str (cutS z lo hi)) else .stuck
  | _ => .stuck
def opSlN (d : D) (lo hi : Option Int) : R (List D) := match d with
  | .lst ds => .ok (cutL ds lo hi)
  | _ => .stuck
abbrev rSl3 (K : PySem.W.Frag) : V → Option Int → Option Int → Hp → VK → Prop := fun x lo hi H Q => rSlL K x lo hi H Q ∨ rSlF K x lo hi H Q ∨ rSlS x lo hi H Q
theorem sl_3 : SlR X (rSl3 X.K) := sl_list.or (sl_tupF.or sl_str)
theorem sem_sl {Φ H : Hp} {x : V} {dx : D} {lo hi : Option Int} {Q : VK} (ex : Ex Φ H) (hx : SeeB K mg Φ H x dx) (h : PostE K mg (fun _ _ _ => False) Φ H (opSl dx lo hi) Q) : rSl3 K x lo hi H Q := by
  unfold opSl at h
  split at h
  · obtain ⟨p, vs, rfl, e1, s⟩ := hx.lst ex
    exact .inl ⟨p, vs, rfl, .inl (.inl e1), PostE.newL ex h (cutL_see s lo hi)⟩
  · obtain ⟨p, vs, rfl, e1, e1', s⟩ := hx.tup ex
    refine .inr (.inl ⟨p, vs, rfl, e1, fun z => ?_, fun _ => PostE.newT ex h (cutL_see s lo hi)⟩)
    have c := cutL_see s lo hi
    have ec : cutV vs lo hi = vs := by
      unfold cutV
      rw [z.1, z.2, List.drop_zero, Nat.sub_zero, List.take_length]
    rw [ec] at c
    exact h.flat ex rfl (.tup e1' c)
  · split at h
    · rename_i hl
      cases hx.str
      exact .inr (.inr ⟨_, rfl, hl, h.flat ex rfl (.str _)⟩)
    · exact h.elim
  · exact h.elim
theorem sl_nx : ∀ d lo hi, NoX (opSl d lo hi) := fun d lo hi z => by
  unfold opSl
  repeat' split
  all_goals exact fun w => by cases w
theorem slN_nx : ∀ d lo hi, NoX (opSlN d lo hi) := fun d lo hi z => by
  unfold opSlN
  repeat' split
  all_goals exact fun w => by cases w
def asO : D → R (Option Int)
  | .int i => .ok (some i)
  | _ => .stuck
theorem asO_nx : ∀ d, NoX (asO d) := fun d x => by cases d <;> exact fun z => by cases z
/-- a part of a slice -/
structure DO (K : PySem.W.Frag) (mg : Str → Option Value) (E : XK) (T : List (Addr × Str)) (X : Cx) (e : Option Expr) (t : TO) (f : S → R (Option Int)) : Prop where
  k : X.K = K
  m : X.mg = mg
  po : PO X e t
  imp : ∀ B Φ H σ ρ, SOk K mg T B Φ H σ ρ → ∀ (Q : Option Int → Hp → Prop), (match f ρ with
    | .ok o => ∀ Φ' H', Gr Φ H Φ' H' → Q o H'
    | .raise x => PostX K mg E Φ H x
    | .stuck => False) → t σ H Q
def oNone : S → R (Option Int) := fun _ => .ok none
def oSome (f : S → R D) : S → R (Option Int) := fun ρ => (f ρ).bind asO
theorem do_none (hk : X.K = K := by rfl) (hm : X.mg = mg := by rfl) : DO K mg E T X none tNoPart oNone := ⟨hk, hm, po_none, fun B Φ H σ ρ s Q z => z Φ H (Gr.refl s.ex)⟩
theorem do_some (h : DE K mg E T X e te f) : DO K mg E T X (some e) (tPart te) (oSome f) := by
  refine ⟨h.k, h.m, po_some h.pe, fun B Φ H σ ρ s Q z => h.imp B Φ H σ ρ s _ ?_⟩
  have z : match (f ρ).bind asO with
    | .ok o => ∀ Φ' H', Gr Φ H Φ' H' → Q o H'
    | .raise x => PostX K mg E Φ H x
    | .stuck => False := z
  cases q : f ρ with
  | ok d =>
    rw [q] at z
    intro v Φ' H' g sv
    cases d with
    | int i => cases sv; exact ⟨i, rfl, z Φ' H' g⟩
    | _ => exact False.elim z
  | raise x => rw [q] at z; exact z
  | stuck => rw [q] at z; exact z
def dSl (f : S → R D) (lo hi : S → R (Option Int)) : S → R D := fun ρ => (f ρ).bind fun d => (lo ρ).bind fun l => (hi ρ).bind fun h => opSl d l h
def dSlN (f : S → R D) (lo hi : S → R (Option Int)) : S → R (List D) := fun ρ => (f ρ).bind fun d => (lo ρ).bind fun l => (hi ρ).bind fun h => opSlN d l h
theorem de_slice {lo hi : Option Expr} {tl th : TO} {fl fh : S → R (Option Int)} {p2 : Pos} (ha : DB K mg E T X a ta f) (hl : DO K mg E T X lo tl fl) (hh : DO K mg E T X hi th fh) : DE K mg E T X (.Subscript a (.Slice lo hi none p2) pos) (tSl (rSl3 K) ta tl th) (dSl f fl fh) := by
  obtain ⟨k, m, p1, i1⟩ := ha
  subst k
  refine ⟨rfl, m, pe_slice sl_3 p1 hl.po hh.po, fun B Φ H σ ρ s Q z => i1 B Φ H σ ρ s _ ?_⟩
  refine PostB.bindE (r := f ρ) z fun d v Φ1 H1 g1 s1 z1 => hl.imp B Φ1 H1 σ ρ (s.grow g1) _ ?_
  cases q : fl ρ with
  | raise x => rw [q] at z1; exact z1
  | stuck => rw [q] at z1; exact z1
  | ok l =>
    rw [q] at z1
    intro Φ2 H2 g2
    refine hh.imp B Φ2 H2 σ ρ ((s.grow g1).grow g2) _ ?_
    have z1 : PostE X.K mg E Φ2 H2 ((fh ρ).bind fun h => opSl d l h) Q := PostE.grow g2 z1
    cases q2 : fh ρ with
    | raise x => rw [q2] at z1; exact z1
    | stuck => rw [q2] at z1; exact z1
    | ok h =>
      rw [q2] at z1
      intro Φ3 H3 g3
      exact sem_sl g3.ex ((s1.grow g2).grow g3) (PostE.noX (sl_nx _ _ _) (PostE.grow g3 z1))
theorem dn_slice {lo hi : Option Expr} {tl th : TO} {fl fh : S → R (Option Int)} {p2 : Pos} (ha : DB K mg E T X a ta f) (hl : DO K mg E T X lo tl fl) (hh : DO K mg E T X hi th fh) : DN K mg E T X (.Subscript a (.Slice lo hi none p2) pos) (tSl (rSl3 K) ta tl th) (dSlN f fl fh) := by
  obtain ⟨k, m, p1, i1⟩ := ha
  subst k
  refine ⟨rfl, m, pe_slice sl_3 p1 hl.po hh.po, fun B Φ H σ ρ s Q z => i1 B Φ H σ ρ s _ ?_⟩
  refine PostB.bindN (r := f ρ) z fun d v Φ1 H1 g1 s1 z1 => hl.imp B Φ1 H1 σ ρ (s.grow g1) _ ?_
  cases q : fl ρ with
  | raise x => rw [q] at z1; exact z1
  | stuck => rw [q] at z1; exact z1
  | ok l =>
    rw [q] at z1
    intro Φ2 H2 g2
    refine hh.imp B Φ2 H2 σ ρ ((s.grow g1).grow g2) _ ?_
    have z1 : PostN X.K mg E Φ2 H2 ((fh ρ).bind fun h => opSlN d l h) Q := PostN.grow g2 z1
    cases q2 : fh ρ with
    | raise x => rw [q2] at z1; exact z1
    | stuck => rw [q2] at z1; exact z1
    | ok h =>
      rw [q2] at z1
      intro Φ3 H3 g3
      have z1 := PostN.noX (slN_nx _ _ _) (PostN.grow g3 z1)
      unfold opSlN at z1
      split at z1
      · obtain ⟨p, vs, rfl, e1, s'⟩ := ((s1.grow g2).grow g3).lst g3.ex
        exact .inl ⟨p, vs, rfl, .inl (.inl e1), PostN.new g3.ex z1 (cutL_see s' l h)⟩
      · exact z1.elim
/-! ### fields of own objects that stay -/
def fldD (c : Str) (x : Str) : D → R D
  | .obj c' fs => if c' = c then R.ofOpt (fs.lookup x) else .stuck
  | _ => .stuck
theorem SeeF.look {Φ : Hp} (x : Str) : ∀ {vs : List (Str × V)} {ds : List (Str × D)} {d : D}, SeeF K mg Φ vs ds → ds.lookup x = some d → ∃ v, vs.lookup x = some v ∧ See K mg Φ v d
  | _, _, _, .nil, h => by cases h
  | _, _, d, .cons (k := k) (v := v) (d := d') r t, h => by
    cases q : (x == k) with
    | true =>
      simp only [List.lookup, q] at h ⊢
      cases h
      exact ⟨v, rfl, r⟩
    | false =>
      simp only [List.lookup, q] at h ⊢
      exact SeeF.look x t h
theorem fldD_ok {c x : Str} {d d' : D} (h : fldD c x d = .ok d') : ∃ fs, d = .obj c fs ∧ fs.lookup x = some d' := by
  unfold fldD at h
  split at h
  · rename_i c' fs
    split at h
    · rename_i ec
      subst ec
      cases w : fs.lookup x with
      | none => rw [w] at h; cases h
      | some e => rw [w] at h; cases h; exact ⟨fs, rfl, w⟩
    · cases h
  · cases h
theorem fld_nx {c x : Str} : ∀ d, NoX (fldD c x d) := fun d z => by
  unfold fldD
  repeat' split
  all_goals first
    | exact ofOpt_nx _ z
    | exact fun w => by cases w
/-- what a class's text tells of reading x -/
def ClsF (K : PySem.W.Frag) (mg : Str → Option Value) (c x : Str) : Prop := ∀ C, mg c = some (.ref C) → Cls K C ∧ NoAttr K C x
theorem de_fld {c x : Str} (TC : ClsF K mg c x) (ha : DE K mg E T X a ta f) (hb : attributeBase a x X.env (eval a X.env) = eval a X.env := by rfl) : DE K mg E T X (.Attribute a x pos) (tFld K ta x) (d1 (fldD c x) f) := by
  obtain ⟨k, m, p1, i1⟩ := ha
  subst k
  refine ⟨rfl, m, pe_fld p1 hb, fun B Φ H σ ρ s Q z => i1 B Φ H σ ρ s _ ?_⟩
  have z : PostE X.K mg E Φ H ((f ρ).bind (fldD c x)) Q := z
  cases q : f ρ with
  | raise x => rw [q] at z; exact z
  | stuck => rw [q] at z; exact z
  | ok d =>
    rw [q] at z
    intro v Φ1 H1 g1 sv
    have z : PostE X.K mg E Φ H (fldD c x d) Q := z
    cases w : fldD c x d with
    | raise x => exact absurd w (fld_nx d x)
    | stuck => rw [w] at z; exact z.elim
    | ok d' =>
      rw [w] at z
      have z2 : PostE X.K mg E Φ H (.ok d') Q := z
      obtain ⟨fs, rfl, e1⟩ := fldD_ok w
      cases sv with
      | obj hg hh hr =>
        obtain ⟨v', e2, e3⟩ := SeeF.look x hr e1
        obtain ⟨c1, c2⟩ := TC _ hg
        exact ⟨_, _, _, _, v', rfl, g1.ex _ _ hh, c1, c2, e2, z2 v' Φ1 H1 g1 e3⟩
theorem dm_fld {c x : Str} (TC : ClsF K mg c x) (ha : DM K mg E T X a ta fm) (hb : attributeBase a x X.env (eval a X.env) = eval a X.env := by rfl) : DM K mg E T X (.Attribute a x pos) (tFld K ta x) (fun ρ => (fm ρ).lift (fldD c x)) := by
  obtain ⟨k, m, p1, i1⟩ := ha
  subst k
  refine ⟨rfl, m, pe_fld p1 hb, fun B Φ H σ ρ s Q z => i1 B Φ H σ ρ s _ ?_⟩
  have z : PostM X.K mg E T B Φ σ ((fm ρ).bind fun d ρ => (fldD c x d).toM ρ) Q := z
  refine PostM.bind z fun d ρ1 v Φ1 H1 e1 s1 sv z => ?_
  cases w : fldD c x d with
  | raise x => exact absurd w (fld_nx d x)
  | stuck => rw [w] at z; exact z.elim
  | ok d' =>
    rw [w] at z
    obtain ⟨fs, rfl, e1⟩ := fldD_ok w
    cases sv with
    | obj hg hh hr =>
      obtain ⟨v', e2, e3⟩ := SeeF.look x hr e1
      obtain ⟨c1, c2⟩ := TC _ hg
      exact ⟨_, _, _, _, v', rfl, s1.ex _ _ hh, c1, c2, e2, z v' Φ1 H1 (Ex.refl _) s1 e3⟩
/-! ### methods of lists and tuples that are read: x.index(y) -/
def idxOf (p : D → Bool) : List D → Nat → Option Nat
  | [], _ => none
  | d :: ds, n => if p d then some n else idxOf p ds (n + 1)
def flatD : D → Bool
  | .non => true
  | .int _ => true
  | .str _ => true
  | _ => false
def eqF : D → D → Bool
  | .non, .non => true
  | .int i, .int j => i == j
  | .str i, .str j => i == j
  | _, _ => false
/-! ### methods that change a list of one's own -/
/-- xs.append(e), xs in slot i -/
def mAppend (i : Nat) (g : S → M D) : S → M D := fun ρ => match ρ[i]? with
  | some (some (.ml _)) => (g ρ).bind fun d ρ1 => match ρ1[i]? with
    | some (some (.ml ds)) => if ds.length < sizeLine then .ok .non (ρ1.set i (some (.ml (ds ++ [d])))) else .stuck
    | _ => .stuck
  | _ => .stuck
theorem slot_ml {B : Bs} {Φ H : Hp} {σ : L2.St} {ρ : S} {i : Nat} {ds : List D} (s : SOk K mg T B Φ H σ ρ) (h : ρ[i]? = some (some (.ml ds))) : ∃ p vs, σ[i]? = some (some (.ref p)) ∧ H p = some (.lst vs) ∧ SeeAll K mg Φ vs ds ∧ (∀ nd, NdOk K mg B Φ H σ ρ nd → p ∈ nd i) := by
  obtain ⟨nd, n⟩ := s.nds
  obtain ⟨v, e1, e2⟩ := n.at_ i _ h
  generalize hA : nd i = A at e2
  cases e2 with
  | ml q r => exact ⟨_, _, e1, q, r, fun nd' y => by rw [y.uniq n, hA]; simp⟩
theorem SOk.setMl {B : Bs} {Φ H : Hp} {σ : L2.St} {ρ : S} {i : Nat} {ds es : List D} {p : Addr} {vs : List V} (s : SOk K mg T B Φ H σ ρ) (h : ρ[i]? = some (some (.ml ds))) (hp : σ[i]? = some (some (.ref p))) (sv : SeeAll K mg Φ vs es) : SOk K mg T B Φ (L2.upd H p (.lst vs)) σ (ρ.set i (some (.ml es))) := by
  obtain ⟨p', vs', e1, e2, e3, e4⟩ := slot_ml s h
  rw [hp] at e1
  cases e1
  refine s.upd i hp e4 (fun A ⟨s0, q, r⟩ => ?_) ⟨_, h⟩ (fun ds _ => ⟨_, h⟩) fun _ z => by cases z
  rw [h] at q
  cases q
  cases r
  exact .ml upd_same sv
/-- how an argument with an effect on what one owns is followed by a change of slot i's list -/
theorem PostM.seqA {B : Bs} {Φ : Hp} {σ : L2.St} {r : M D} {k : D → S → M D} {Q : VK} {Q' : List V → Hp → Prop} (h : PostM K mg E T B Φ σ (r.bind k) Q) (q : ∀ d ρ v Φ' H', Ex Φ Φ' → SOk K mg T B Φ' H' σ ρ → See K mg Φ' v d → PostM K mg E T B Φ' σ (k d ρ) Q → Q' [v] H') : PostM K mg E T B Φ σ r (fun x H' => Q' [x] H') :=
  PostM.bind h fun d ρ v Φ' H' e s sv z => q d ρ v Φ' H' e s sv z
theorem dm_append (i : Nat) {x : Str} {pv' : Pos} {pl : Sem Bool} {apos : Pos} (ha : DM K mg E T X a ta fm) (hN : X.N[i]? = some x := by rfl) (hv : Vis X.env.scope x := by first | exact Or.inl rfl | exact Or.inr (Or.inl rfl) | exact Or.inr (Or.inr rfl))
    (hd : (x == ("__debug__" : Str)) = false := by decide) (hcd
            : (x == ("__classdict__" : Str)) = false := by decide)
    (hbase : attributeBase (.Name x pv') "append" X.env (eval (.Name x pv') X.env) = eval (.Name x pv') X.env := by rfl)
    (hfew : ((backTo pos (starEach (a :: []) X.env)).all (fun x => !x.1) && (backToKw pos (keywordEach [] X.env)).all (fun x => x.1.isSome)
      && decide ((a :: []).length + ([] : List Keyword).length + (if ([] : List Keyword).isEmpty then 0 else 1) < 30)) = true := by rfl)
    (hline : (apos.endLine == pos.line) = true := by rfl) (hs : starEach (a :: []) X.env = (false, eval a X.env) :: starEach [] X.env := by rfl) (hplain : (backTo pos (starEach ([] : List Expr) X.env)).any (·.1) = false := by rfl) :
    DM K mg E T X (.Call (.Attribute (.Name x pv') "append" apos) [a] [] pos) (tBM X.K "list" rAppend (tVar i) (tCons ta tNil)) (mAppend i fm) := by
  refine ⟨ha.k, ha.m, pe_bm PySem.F.plainAttrs_list PySem.F.slot_list_append PySem.F.type_list_append mt_append (pe_var hN hv hd hcd) (pa_cons ha.pe pa_nil hs) hbase hfew hline hs hplain, fun B Φ H σ ρ s Q z => ?_⟩
  unfold mAppend at z
  split at z
  · rename_i ds w
    obtain ⟨p, vs, e1, e2, e3, _⟩ := slot_ml s w
    refine ⟨_, e1, .inl ⟨rfl, vs, .inl (.inl e2)⟩, ha.imp B Φ H σ ρ s _ (PostM.bind z fun d ρ1 v Φ1 H1 e s1 sv z1 => ?_)⟩
    split at z1
    · rename_i ds1 w1
      split at z1
      · rename_i hl
        obtain ⟨p', vs1, f1, f2, f3, _⟩ := slot_ml s1 w1
        rw [e1] at f1
        cases f1
        exact ⟨p, vs1, v, rfl, rfl, f2, by rw [SeeAll.length f3]; exact hl, z1 .non Φ1 _ (Ex.refl _) (s1.setMl w1 e1 (f3.append (.cons sv .nil))) .non⟩
      · exact z1.elim
    · exact z1.elim
  · exact z.elim
/-- xs.pop(), xs.pop(e) -/
def mPop (i : Nat) : S → M D := fun ρ => match ρ[i]? with
  | some (some (.ml ds)) => match ds[ds.length - 1]? with
    | some d => .ok d (ρ.set i (some (.ml ds.dropLast)))
    | none => .stuck
  | _ => .stuck
theorem SeeAll.dropLast {Φ : Hp} {vs : List V} {ds : List D} (s : SeeAll K mg Φ vs ds) : SeeAll K mg Φ vs.dropLast ds.dropLast := by
  rw [List.dropLast_eq_take, List.dropLast_eq_take, SeeAll.length s]
  exact SeeAll.take _ s
theorem dm_pop0 (i : Nat) {x : Str} {pv' : Pos} {apos : Pos} (hN : X.N[i]? = some x := by rfl) (hv : Vis X.env.scope x := by first | exact Or.inl rfl | exact Or.inr (Or.inl rfl) | exact Or.inr (Or.inr rfl)) (hk : X.K = K := by rfl) (hm : X.mg = mg := by rfl)
    (hd₀ : (x == ("__debug__" : Str)) = false := by decide) (hcd : (x == ("__classdict__" : Str)) = false := by decide)
    (hbase : attributeBase (.Name x pv') "pop" X.env (eval (.Name x pv') X.env) = eval (.Name x pv') X.env := by rfl) (hline : (apos.endLine == pos.line) = true := by rfl) :
    DM K mg E T X (.Call (.Attribute (.Name x pv') "pop" apos) [] [] pos) (tBM0 X.K "list" rPop (tVar i)) (mPop i) := by
  refine ⟨hk, hm, pe_bm0 PySem.F.plainAttrs_list PySem.F.slot_list_pop PySem.F.type_list_pop mt_pop (pe_var hN hv hd₀ hcd) hbase hline, fun B Φ H σ ρ s Q z => ?_⟩
  unfold mPop at z
  split at z
  · rename_i ds w
    obtain ⟨p, vs, e1, e2, e3, _⟩ := slot_ml s w
    split at z
    · rename_i d hd₀
      obtain ⟨v, f1, f2⟩ := SeeAll.get e3 hd₀
      rw [← SeeAll.length e3] at f1
      exact ⟨_, e1, .inl ⟨rfl, vs, .inl (.inl e2)⟩, p, vs, v, rfl, rfl, e2, f1, z v Φ _ (Ex.refl _) (s.setMl w e1 (SeeAll.dropLast e3)) f2⟩
    · exact z.elim
  · exact z.elim
def mPopAt (i : Nat) (g : S → M D) : S → M D := fun ρ => match ρ[i]? with
  | some (some (.ml _)) => (g ρ).bind fun d ρ1 => match d, ρ1[i]? with
    | .int j, some (some (.ml ds)) => match ixN ds.length j with
      | some k => match ds[k]? with
        | some d => if j.natAbs < 2 ^ 63 then .ok d (ρ1.set i (some (.ml (ds.eraseIdx k)))) else .stuck
        | none => .stuck
      | none => .stuck
    | _, _ => .stuck
  | _ => .stuck
theorem dm_popAt (i : Nat) {x : Str} {pv' : Pos} {apos : Pos} (ha : DM K mg E T X a ta fm) (hN : X.N[i]? = some x := by rfl) (hv : Vis X.env.scope x := by first | exact Or.inl rfl | exact Or.inr (Or.inl rfl) | exact Or.inr (Or.inr rfl))
    (hd : (x == ("__debug__" : Str)) = false := by decide) (hcd
            : (x == ("__classdict__" : Str)) = false := by decide)
    (hbase : attributeBase (.Name x pv') "pop" X.env (eval (.Name x pv') X.env) = eval (.Name x pv') X.env := by rfl)
    (hfew : ((backTo pos (starEach (a :: []) X.env)).all (fun x => !x.1) && (backToKw pos (keywordEach [] X.env)).all (fun x => x.1.isSome)
      && decide ((a :: []).length + ([] : List Keyword).length + (if ([] : List Keyword).isEmpty then 0 else 1) < 30)) = true := by rfl)
    (hline : (apos.endLine == pos.line) = true := by rfl) (hs : starEach (a :: []) X.env = (false, eval a X.env) :: starEach [] X.env := by rfl) (hplain : (backTo pos (starEach ([] : List Expr) X.env)).any (·.1) = false := by rfl) :
    DM K mg E T X (.Call (.Attribute (.Name x pv') "pop" apos) [a] [] pos) (tBM X.K "list" rPopAt (tVar i) (tCons ta tNil)) (mPopAt i fm) := by
  refine ⟨ha.k, ha.m, pe_bm PySem.F.plainAttrs_list PySem.F.slot_list_pop PySem.F.type_list_pop mt_popAt (pe_var hN hv hd hcd) (pa_cons ha.pe pa_nil hs) hbase hfew hline hs hplain, fun B Φ H σ ρ s Q z => ?_⟩
  unfold mPopAt at z
  split at z
  · rename_i ds w
    obtain ⟨p, vs, e1, e2, e3, _⟩ := slot_ml s w
    refine ⟨_, e1, .inl ⟨rfl, vs, .inl (.inl e2)⟩, ha.imp B Φ H σ ρ s _ (PostM.bind z fun d ρ1 v Φ1 H1 e s1 sv z1 => ?_)⟩
    split at z1
    · rename_i j ds1 w1
      obtain ⟨p', vs1, f1, f2, f3, _⟩ := slot_ml s1 w1
      rw [e1] at f1
      cases f1
      split at z1
      · rename_i k hk
        split at z1
        · rename_i d' hd'
          split at z1
          · rename_i hb
            cases sv
            obtain ⟨v', g1, g2⟩ := SeeAll.get f3 hd'
            obtain ⟨q1, _⟩ := ixN_seq hk
            exact ⟨p, vs1, j, k, v', rfl, rfl, f2, by omega, by omega, by rw [SeeAll.length f3]; exact q1, g1, z1 v' Φ1 _ (Ex.refl _) (s1.setMl w1 e1 (SeeAll.eraseIdx k f3)) g2⟩
          · exact z1.elim
        · exact z1.elim
      · exact z1.elim
    · exact z1.elim
  · exact z.elim
end
end TP
set_option Elab.async false
set_option linter.all false
set_option maxRecDepth 100000
/-! Tree programs: defs that draw. -/
namespace TP
open PySem L2 PyProof.Rows PySem.Spec

/-- all but M stays, no table is lost -/
structure GrM (T : List (Addr × Str)) (M : List Addr) (Φ H Φ' H' : Hp) : Prop where
  p : Ex Φ Φ'
  h : ∀ a o, H a = some o → a ∉ M → H' a = some o
  ex : Ex Φ' H'
  nm : ∀ a, H a ≠ none → Φ a = none → Φ' a = none
  nn : ∀ a, H a ≠ none → H' a ≠ none
  tb : LamX.Tabs T H'
abbrev dM (T : List (Addr × Str)) (p q : Addr) : List Addr := p :: q :: T.map (·.1)
section
variable (K : PySem.W.Frag) (mg : Str → Option Value) (T : List (Addr × Str)) (p q : Addr) (Φ H : Hp)
def PostD (r : Option (D × Dr)) (Q : VK) : Prop := match r with
  | some (e, d) => ∀ v Φ' H', GrM T (dM T p q) Φ H Φ' H' → DrAt K Φ' H' p q d → See K mg Φ' v e → Q v H'
  | none => False
def PostDN (r : Option (List D × Dr)) (Q : VK) : Prop := match r with
  | some (es, d) => ∀ a vs Φ' H', GrM T (dM T p q) Φ H Φ' H' → DrAt K Φ' H' p q d → H a = none → Φ' a = none → H' a = some (.lst vs) → SeeAll K mg Φ' vs es → Q (.ref a) H'
  | none => False
end
section
variable (K : PySem.W.Frag) (mg : Str → Option Value) (T : List (Addr × Str))
/-- what stands at the entry of a def that draws -/
structure DrIn (Φ H : Hp) (p q : Addr) (d : Dr) : Prop where
  ex : Ex Φ H
  at_ : DrAt K Φ H p q d
  np : Φ p = none
  nq : Φ q = none
  tb : LamX.Tabs T H
  tn : ∀ x ∈ T, Φ x.1 = none
def spD (F : Dr → List D → Option (D × Dr)) : Sp := fun vs H Q _ => ∃ Φ p q d ws ds, vs = .ref p :: ws ∧ DrIn K T Φ H p q d ∧ SeeAll K mg Φ ws ds ∧ PostD K mg T p q Φ H (F d ds) Q
def spDN (F : Dr → List D → Option (List D × Dr)) : Sp := fun vs H Q _ => ∃ Φ p q d ws ds, vs = .ref p :: ws ∧ DrIn K T Φ H p q d ∧ SeeAll K mg Φ ws ds ∧ PostDN K mg T p q Φ H (F d ds) Q
end
def drOf (ρ : S) : Option Dr := match ρ[(0 : Nat)]? with
  | some (some (.dr d)) => some d
  | _ => none
def startD (N n : Nat) (d : Dr) (ds : List D) : S := some (.dr d) :: (ds.map (fun d => some (.fz d)) ++ List.replicate (N - n) none)
def runD (N n : Nat) (b : S → M Fl) (d : Dr) (ds : List D) : Option (D × Dr) := if ds.length + 1 = n then match b (startD N n d ds) with
  | .ok .nx ρ => (drOf ρ).map fun d => (.non, d)
  | .ok (.rt e) ρ => (drOf ρ).map fun d => (e, d)
  | .ok (.rn es) ρ => (drOf ρ).map fun d => (.lst es, d)
  | _ => none else none
def runDN (N n : Nat) (b : S → M Fl) (d : Dr) (ds : List D) : Option (List D × Dr) := if ds.length + 1 = n then match b (startD N n d ds) with
  | .ok (.rn es) ρ => (drOf ρ).map fun d => (es, d)
  | _ => none else none
section
variable {K : PySem.W.Frag} {mg : Str → Option Value} {T : List (Addr × Str)} {E : XK} {Φ H Φ' H' : Hp} {Q : VK} {N : List Str} {p q : Addr} {d : Dr}
abbrev bD (T : List (Addr × Str)) (Φ H : Hp) (p q : Addr) : Bs := { Φ0 := Φ, H0 := H, M := dM T p q, Dn := dM T p q, dp := p, dq := q }
theorem startD_ok {ws : List V} {ds : List D} {n : Nat} (hn : ds.length + 1 = n) (I : DrIn K T Φ H p q d) (s : SeeAll K mg Φ ws ds) : SOk K mg T (bD T Φ H p q) Φ H (L2.start N (.ref p :: ws)) (startD N.length n d ds) := by
  subst hn
  have hl := SeeAll.length s
  obtain ⟨⟨c, hc, hcl⟩, hq, ne⟩ := I.at_
  have at0 : ∀ (i : Nat) (s' : Sl), (startD N.length (ds.length + 1) d ds)[i + 1]? = some (some s') → ∃ e, ds[i]? = some e ∧ s' = .fz e := fun i s' e => by
    unfold startD at e
    rw [List.getElem?_cons_succ] at e
    by_cases lt : i < ds.length
    · rw [List.getElem?_append_left (by simpa using lt), List.getElem?_map] at e
      cases q : ds[i]? with
      | none => rw [q]
              at e; cases e
      | some d => rw [q] at e; cases e; exact ⟨d, rfl, rfl⟩
    · rw [List.getElem?_append_right (by simpa using Nat.le_of_not_lt lt)] at e
      have := List.mem_of_getElem? e
      rw [List.mem_replicate] at this
      cases this.2
  refine ⟨⟨I.ex, Ex.refl _, fun a o e _ => e, fun a _ e => e, fun a e => e, fun a m => ?_, I.tb, I.tn, fun x hx => List.mem_cons_of_mem _ (List.mem_cons_of_mem _ (List.mem_map.mpr ⟨x, hx, rfl⟩))⟩, ?_,
    fun i => if i = 0 then [p, q] else [], ⟨fun i s' e => ?_, fun i a m => ?_, fun i j a m1 m2 => ?_, fun i hi => ?_, fun i a es m e => ?_, fun i s' l e hl => ?_⟩⟩
  · rcases List.mem_cons.mp m with z | m
    · rw [z]; exact not_none hc
    · rcases List.mem_cons.mp m with z | m
      · rw [z]; exact not_none hq
      · obtain ⟨x, hx, z⟩ := List.mem_map.mp m
        rw [← z]; exact tab_nn I.tb hx
  · unfold L2.start startD
    simp [hl]
  · cases i with
    | zero =>
      cases e
      refine ⟨.ref p, rfl, ?_⟩
      rw [if_pos rfl]
      exact .dr ⟨⟨c, hc, hcl⟩, hq, ne⟩
    | succ i =>
      obtain ⟨e', h1, h2⟩ := at0 i s' e
      subst h2
      obtain ⟨v, e1, e2⟩ := SeeAll.get s h1
      have lt := (List.getElem?_eq_some_iff.mp h1).1
      refine ⟨v, ?_, by rw [if_neg (Nat.succ_ne_zero i)]; exact .fz e2⟩
      unfold L2.start
      rw [List.getElem?_append_left (by simp [hl, lt]), List.getElem?_map, List.getElem?_cons_succ, e1]
      rfl
  · by_cases z : i = 0
    · rw [if_pos z] at m
      rcases List.mem_cons.mp m with z | m
      · rw [z]; exact ⟨I.np, not_none hc, .inr (by simp)⟩
      · rw [List.mem_singleton.mp m]; exact ⟨I.nq, not_none hq, .inr (by simp)⟩
    · rw [if_neg z] at m; cases m
  · by_cases z : i = 0
    · by_cases z2 : j = 0
      · rw [z, z2]
      · rw [if_neg z2] at m2; cases m2
    · rw [if_neg z] at m1; cases m1
  · show (if i = 0 then [p, q] else []) = []
    by_cases z : i = 0
    · subst z
      exact absurd rfl (hi (.dr d))
    · rw [if_neg z]
  · by_cases z : i = 0
    · subst z; cases e
    · rw [if_neg z] at m; cases m
  · show (if i = 0 then [p, q] else []) = l
    cases i with
    | zero => cases e; cases hl; rfl
    | succ i =>
      obtain ⟨e', h1, h2⟩ := at0 i _ e
      cases h2
      cases hl
theorem grD_end {σ' : L2.St} {ρ' : S} (s : SOk K mg T (bD T Φ H p q) Φ' H' σ' ρ') : GrM T (dM T p q) Φ H Φ' H' := ⟨s.b1, fun a o e m => s.b2 a o e m, s.ex, fun a e n => s.b3 a e n, fun a e => s.b4 a e, s.tb⟩
theorem drOf_at {σ' : L2.St} {ρ' : S} {d' : Dr} (s : SOk K mg T (bD T Φ H p q) Φ' H' σ' ρ') (h : drOf ρ' = some d') : DrAt K Φ' H' p q d' := by
  unfold drOf at h
  split at h
  · rename_i d2 e
    cases h
    obtain ⟨nd, x⟩ := s.nds
    obtain ⟨v, e1, e2⟩ := x.at_ 0 _ e
    rw [x.dr0 0 _ _ e rfl] at e2
    generalize hA : [(bD T Φ H p q).dp, (bD T Φ H p q).dq] = A at e2
    cases e2 with
    | dr r =>
      injection hA with h1 h2
      injection h2 with h2 _
      rw [show p = _ from h1, show q = _ from h2]
      exact r
  · cases h
theorem bodyD_ok {ts : TS} {b : S → M Fl} {vs : List V} {n : Nat} (hp : ImpS K mg E T ts b) (h : spD K mg T (runD N.length n b) vs H Q E) : ts { nx := fun _ H' => Q .non H', rt := Q } (L2.start N vs) H := by
  obtain ⟨Φ, p, q, d, ws, ds, rfl, I, s, z⟩ := h
  unfold runD at z
  split at z
  · rename_i hn
    refine hp (bD T Φ H p q) Φ H _ _ rfl (startD_ok hn I s) _ ?_
    generalize b _ = r at z
    cases r with
    | ok fl ρ' =>
      cases fl with
      | nx =>
        intro Φ' H' σ' _ s'
        cases w : drOf ρ' with
        | none => simp only [w, Option.map_none] at z; exact z.elim
        | some d' => simp only [w, Option.map_some] at z; exact z .non Φ' H' (grD_end s') (drOf_at s' w) .non
      | bk => exact z.elim
      | ct => exact z.elim
      | rt e =>
        intro v Φ' H' σ' _ s' sv
        cases w : drOf ρ' with
        | none => simp only [w, Option.map_none] at z; exact z.elim
        | some d' => simp only [w, Option.map_some] at z; exact z v Φ' H' (grD_end s') (drOf_at s' w) sv
      | rn es =>
        intro a vs' Φ' H' σ' _ s' h0 hΦ hl sv
        cases w : drOf ρ' with
        | none => simp only [w, Option.map_none] at z; exact z.elim
        | some d' =>
          simp only [w, Option.map_some] at z
          have g := grD_end s'
          have D' := drOf_at s' w
          have na : H a = none := h0
          refine z (.ref a) (upd Φ' a (.lst vs')) H' ⟨g.p.trans (Ex.new hΦ), g.h, fun b o e => ?_, fun b e n => ?_, g.nn, g.tb⟩ ⟨?_, D'.great, D'.ne⟩ (.lst upd_same (SeeAll.mono (Ex.new hΦ) sv))
          · by_cases w : b = a
            · subst w; rw [upd_same] at e; cases e; exact hl
            · rw [upd_ne w] at e; exact g.ex b o e
          · rw [upd_ne (fun w => e (by rw [w]; exact na))]
            exact g.nm b e n
          · obtain ⟨c, c1, c2⟩ := D'.dict
            exact ⟨c, c1, Ex.new hΦ _ _ c2⟩
    | raise x ρ' => exact z.elim
    | stuck => exact z.elim
  · exact z.elim
theorem bodyD_okN {ts : TS} {b : S → M Fl} {vs : List V} {n : Nat} (hp : ImpS K mg E T ts b) (h : spDN K mg T (runDN N.length n b) vs H Q E) : ts { nx := fun _ H' => Q .non H', rt := Q } (L2.start N vs) H := by
  obtain ⟨Φ, p, q, d, ws, ds, rfl, I, s, z⟩ := h
  unfold runDN at z
  split at z
  · rename_i hn
    refine hp (bD T Φ H p q) Φ H _ _ rfl (startD_ok hn I s) _ ?_
    generalize b _ = r at z
    cases r with
    | ok fl ρ' =>
      cases fl with
      | nx => exact z.elim
      | bk => exact z.elim
      | ct => exact z.elim
      | rt e => exact z.elim
      | rn es =>
        intro a vs' Φ' H' σ' _ s' h0 hΦ hl sv
        cases w : drOf ρ' with
        | none => simp only [w, Option.map_none] at z; exact z.elim
        | some d' => simp only [w, Option.map_some] at z; exact z a vs' Φ' H' (grD_end s') (drOf_at s' w) h0 hΦ hl sv
    | raise x ρ' => exact z.elim
    | stuck => exact z.elim
  · exact z.elim
theorem runD_len {n k : Nat} {b : S → M Fl} {vs : List V} (h : spD K mg T (runD k n b) vs H Q E) : vs.length = n := by
  obtain ⟨Φ, p, q, d, ws, ds, rfl, I, s, z⟩ := h
  unfold runD at z
  split at z
  · rename_i hn; rw [List.length_cons, SeeAll.length s]; exact hn
  · exact z.elim
theorem runDN_len {n k : Nat} {b : S → M Fl} {vs : List V} (h : spDN K mg T (runDN k n b) vs H Q E) : vs.length = n := by
  obtain ⟨Φ, p, q, d, ws, ds, rfl, I, s, z⟩ := h
  unfold runDN at z
  split at z
  · rename_i hn; rw [List.length_cons, SeeAll.length s]; exact hn
  · exact z.elim
end
section
variable {P : Program} {w : World} {K : PySem.W.Frag} {mg : Str → Option Value} {T : List (Addr × Str)} {base : Heap}
theorem fn_okD {g : Bool} {x qual : Str} {st : Stmt} {f : Addr} {fd : FuncData} {N ps : List Str} {k n : Nat} {b : S → M Fl} (F : Fun K x qual st f fd) (sc : FnScope N ps (defScope st)) (hn : ps.length = n)
    (hbody : ∀ (cdv : Value) (A : Around) (outer : List Env) (s : Shared) (H : Hp) (E : XK), Room k (A.deeper (envOfC qual (defScope st) s.heap.objs.size f cdv)) → Gd g A → fd.code = cdv →
      ∃ t, DSs K mg E T (cxOf (L2.CX P w) P w K mg base N qual (defScope st) f cdv A outer s H E) (defBody st) t b) : FnG g P w K mg base (k + 1) f fd ps (spD K mg T (runD N.length n b)) := by
  refine Fun.okG F sc (fun vs H Q E h => (runD_len h).trans hn.symm) fun cdv A outer s H vs Q E hr hg hc h => ?_
  obtain ⟨t, d⟩ := hbody cdv A outer s H E hr hg hc
  exact ⟨t, d.ps, bodyD_ok (E := E) d.imp h⟩
theorem fn_okDN {g : Bool} {x qual : Str} {st : Stmt} {f : Addr} {fd : FuncData} {N ps : List Str} {k n : Nat} {b : S → M Fl} (F : Fun K x qual st f fd) (sc : FnScope N ps (defScope st)) (hn : ps.length = n)
    (hbody : ∀ (cdv : Value) (A : Around) (outer : List Env) (s : Shared) (H : Hp) (E : XK), Room k (A.deeper (envOfC qual (defScope st) s.heap.objs.size f cdv)) → Gd g A → fd.code = cdv →
      ∃ t, DSs K mg E T (cxOf (L2.CX P w) P w K mg base N qual (defScope st) f cdv A outer s H E) (defBody st) t b) : FnG g P w K mg base (k + 1) f fd ps (spDN K mg T (runDN N.length n b)) := by
  refine Fun.okG F sc (fun vs H Q E h => (runDN_len h).trans hn.symm) fun cdv A outer s H vs Q E hr hg hc h => ?_
  obtain ⟨t, d⟩ := hbody cdv A outer s H E hr hg hc
  exact ⟨t, d.ps, bodyD_okN (E := E) d.imp h⟩
end
/-! ### the caller -/
section
variable {K : PySem.W.Frag} {mg : Str → Option Value} {T : List (Addr × Str)} {E : XK} {B : Bs} {Φ Φ' H H' : Hp} {σ : L2.St} {ρ : S} {Q Q' : VK}
theorem slot_dr {i : Nat} {d : Dr} (s : SOk K mg T B Φ H σ ρ) (h : ρ[i]? = some (some (.dr d))) : σ[i]? = some (some (.ref B.dp)) ∧ DrIn K T Φ H B.dp B.dq d ∧ (∀ nd, NdOk K mg B Φ H σ ρ nd → nd i = [B.dp, B.dq]) := by
  obtain ⟨nd, x⟩ := id s.nds
  have e0 := x.dr0 i _ _ h rfl
  obtain ⟨v, e1, e2⟩ := x.at_ i _ h
  have o1 := x.own i B.dp (by rw [e0]; simp)
  have o2 := x.own i B.dq (by rw [e0]; simp)
  rw [e0] at e2
  generalize hA : [B.dp, B.dq] = A at e2
  cases e2 with
  | dr r =>
    injection hA with h1 h2
    injection h2 with h2 _
    subst h1; subst h2
    exact ⟨e1, ⟨s.ex, r, o1.1, o2.1, s.tb, s.tn⟩, fun nd' y => by rw [y.uniq x]; exact e0⟩
/-- behind a call that draws -/
theorem SOk.eff' {i : Nat} {d d' : Dr} (s : SOk K mg T B Φ H σ ρ) (hi : ρ[i]? = some (some (.dr d))) (g : GrM T (dM T B.dp B.dq) Φ H Φ' H') (hd : DrAt K Φ' H' B.dp B.dq d') : SOk K mg T B Φ' H' σ (ρ.set i (some (.dr d'))) ∧ ∀ nd, NdOk K mg B Φ H σ ρ nd → NdOk K mg B Φ' H' σ (ρ.set i (some (.dr d'))) nd := by
  obtain ⟨q1, _, q3⟩ := slot_dr s hi
  obtain ⟨b, len, nd, x⟩ := id s
  have hnd := q3 nd x
  have inM : ∀ a, a ∈ dM T B.dp B.dq → B.H0 a = none ∨ a ∈ B.M := fun a m => by
    rcases List.mem_cons.mp m with z₀ | m
    · exact (x.own i a (by rw [hnd, z₀]; simp)).2.2
    · rcases List.mem_cons.mp m with z₀ | m
      · exact (x.own i a (by rw [hnd, z₀]; simp)).2.2
      · obtain ⟨y, hy, z₀⟩ := List.mem_map.mp m
        rw [← z₀]; exact .inr (b.tM y hy)
  have out : ∀ j, j ≠ i → ∀ a ∈ nd j, a ∉ dM T B.dp B.dq := fun j hj a m z₀ => by
    have ni : a ∉ nd i := fun m2 => hj (x.inj j i a m m2)
    rw [hnd] at ni
    simp only [List.mem_cons, not_or] at ni
    rcases List.mem_cons.mp z₀ with z₀ | z₀
    · exact ni.1 z₀
    · rcases List.mem_cons.mp z₀ with z₀ | z₀
      · exact ni.2.1 z₀
      · obtain ⟨y, hy, z₀⟩ := List.mem_map.mp z₀
        obtain ⟨ps, e, _⟩ := b.tb y hy
        have pl : Plain H a := by
          by_cases w : ∃ s, ρ[j]? = some (some s)
          · obtain ⟨s0, e0⟩ := w
            obtain ⟨v, f1, f2⟩ := x.at_ j s0 e0
            exact f2.plain a m
          · rw [x.emp j fun s e => w ⟨s, e⟩] at m; cases m
        exact pl.tbl ps (by rw [← z₀]; exact e)
  have b' : BOk T B Φ' H' := by
    refine ⟨g.ex, b.b1.trans g.p, fun a o e m => g.h a o (b.b2 a o e m) fun z₀ => ?_, fun a e n => g.nm a (b.b4 a e) (b.b3 a e n), fun a e => g.nn a (b.b4 a e), fun a e => g.nn a (b.b5 a e), g.tb, fun y hy => g.nm _ (tab_nn b.tb hy) (b.tn y hy), b.tM⟩
    rcases inM a z₀ with w | w
    · rw [w] at e; cases e
    · exact m w
  have n' : NdOk K mg B Φ' H' σ (ρ.set i (some (.dr d'))) nd := by
    refine ⟨fun j s' e => ?_, fun j a m => ⟨g.nm a (x.own j a m).2.1 (x.own j a m).1, g.nn a (x.own j a m).2.1, (x.own j a m).2.2⟩, x.inj, fun j n => x.emp j fun s' e => ?_, fun j a ds m e => ?_, fun j s' l e hl => ?_⟩
    · by_cases z₀ : j = i
      · subst z₀
        rw [List.getElem?_set_self (List.getElem?_eq_some_iff.mp hi).1] at e
        cases e
        exact ⟨_, q1, by rw [hnd]; exact .dr hd⟩
      · rw [List.getElem?_set_ne (Ne.symm z₀)] at e
        obtain ⟨v, e1, e2⟩ := x.at_ j s' e
        exact ⟨v, e1, e2.mono g.p fun a m o e' => g.h a o e' (out j z₀ a m)⟩
    · by_cases z₀ : j = i
      · exact n (.dr d') (by rw [z₀]; exact List.getElem?_set_self (List.getElem?_eq_some_iff.mp hi).1)
      · exact n s' (by rw [List.getElem?_set_ne (Ne.symm z₀)]; exact e)
    · by_cases z₀ : j = i
      · subst z₀
        rw [List.getElem?_set_self (List.getElem?_eq_some_iff.mp hi).1] at e
        cases e
      · rw [List.getElem?_set_ne (Ne.symm z₀)] at e; exact x.own2 j a ds m e
    · by_cases z₀ : j = i
      · subst z₀
        rw [List.getElem?_set_self (List.getElem?_eq_some_iff.mp hi).1] at e
        cases e
        cases hl
        exact hnd
      · rw [List.getElem?_set_ne (Ne.symm z₀)] at e; exact x.dr0 j s' l e hl
  exact ⟨⟨b', by simpa using len, nd, n'⟩, fun nd2 y => by rw [y.uniq x]; exact n'⟩
theorem SOk.eff {i : Nat} {d d' : Dr} (s : SOk K mg T B Φ H σ ρ) (hi : ρ[i]? = some (some (.dr d))) (g : GrM T (dM T B.dp B.dq) Φ H Φ' H') (hd : DrAt K Φ' H' B.dp B.dq d') : SOk K mg T B Φ' H' σ (ρ.set i (some (.dr d'))) := (s.eff' hi g hd).1
/-- f(draw, ..) -/
def mD (i : Nat) (F : Dr → List D → Option (D × Dr)) (gs : S → M (List D)) : S → M D := fun ρ => match ρ[i]? with
  | some (some (.dr _)) => (gs ρ).bind fun ds ρ1 => match ρ1[i]? with
    | some (some (.dr d)) => match F d ds with
      | some (e, d') => .ok e (ρ1.set i (some (.dr d')))
      | none => .stuck
    | _ => .stuck
  | _ => .stuck
def mDN (i : Nat) (F : Dr → List D → Option (List D × Dr)) (gs : S → M (List D)) : S → M (List D) := fun ρ => match ρ[i]? with
  | some (some (.dr _)) => (gs ρ).bind fun ds ρ1 => match ρ1[i]? with
    | some (some (.dr d)) => match F d ds with
      | some (e, d') => .ok e (ρ1.set i (some (.dr d')))
      | none => .stuck
    | _ => .stuck
  | _ => .stuck
theorem PostMA.bindM {r : M (List D)} {k : List D → S → M D} {Q : VK} {Q' : List V → Hp → Prop} (h : PostM K mg E T B Φ σ (r.bind k) Q) (q : ∀ ds ρ vs Φ' H', Ex Φ Φ' → SOk K mg T B Φ' H' σ ρ → SeeAll K mg Φ' vs ds → PostM K mg E T B Φ' σ (k ds ρ) Q → Q' vs H') : PostMA K mg E T B Φ σ r Q' := by
  cases r with
  | ok ds ρ => exact fun vs Φ' H' e s sv => q ds ρ vs Φ' H' e s sv (PostM.ext e h)
  | raise x ρ => exact h
  | stuck => exact h
theorem PostMA.bindMN {r : M (List D)} {k : List D → S → M (List D)} {Q : VK} {Q' : List V → Hp → Prop} (h : PostMN K mg E T B Φ σ (r.bind k) Q) (q : ∀ ds ρ vs Φ' H', Ex Φ Φ' → SOk K mg T B Φ' H' σ ρ → SeeAll K mg Φ' vs ds → PostMN K mg E T B Φ' σ (k ds ρ) Q → Q' vs H') : PostMA K mg E T B Φ σ r Q' := by
  cases r with
  | ok ds ρ => exact fun vs Φ' H' e s sv => q ds ρ vs Φ' H' e s sv (PostMN.ext e h)
  | raise x ρ => exact h
  | stuck => exact h
variable {X : Cx} {es : List Expr} {pos p p2 : Pos} {ts : TA} {gs : S → M (List D)} {x y : Str} {fA : Addr} {fd : FuncData} {ps : List Str} {k : Nat}
theorem dm_dcall (i : Nat) {F : Dr → List D → Option (D × Dr)} (C : Callee X x fA fd ps (spD K mg T F)) (hx : Passes (L2.CX X.prog X.w) X E) (ha : DMA K mg E T X es ts gs) (hN : X.N[i]? = some y := by rfl)
    (hv : Vis X.env.scope y := by first | exact Or.inl rfl | exact Or.inr (Or.inl rfl) | exact Or.inr (Or.inr rfl)) (hd : (y == ("__debug__" : Str)) = false := by decide) (hcd : (y == ("__classdict__" : Str)) = false := by decide) (hg : Gl X x := by rfl)
    (hdb : (x == ("__debug__" : Str)) = false := by decide) (he : starEach (.Name y p2 :: es) X.env = (false, eval (.Name y p2) X.env) :: starEach es X.env := by rfl) (hpl : (backTo pos (starEach es X.env)).any (·.1) = false := by rfl) :
    DM K mg E T X (.Call (.Name x p) (.Name y p2 :: es) [] pos) (tCall (spD K mg T F) [] E (tCons (tVar i) ts)) (mD i F gs) := by
  refine ⟨ha.k, ha.m, pe_at C hg hx (pa_cons (pe_var hN hv hd hcd) ha.pe he) hdb he hpl, fun B Φ H σ ρ s Q z => ?_⟩
  unfold mD at z
  split at z
  · rename_i d e
    obtain ⟨e1, _, _⟩ := slot_dr s e
    refine ⟨_, e1, ha.imp B Φ H σ ρ s _ (PostMA.bindM z fun ds ρ1 vs Φ1 H1 e' s1 sv z1 => ?_)⟩
    split at z1
    · rename_i d1 w1
      obtain ⟨f1, I, _⟩ := slot_dr s1 w1
      refine ⟨Φ1, B.dp, B.dq, d1, vs, ds, by rw [List.append_nil], I, sv, ?_⟩
      split at z1
      · rename_i e2 d2 w2
        rw [w2]
        exact fun v Φ2 H2 g hd sv2 => z1 v Φ2 H2 g.p (s1.eff w1 g hd) sv2
      · exact z1.elim
    · exact z1.elim
  · exact z.elim
theorem dmn_dcall (i : Nat) {F : Dr → List D → Option (List D × Dr)} (C : Callee X x fA fd ps (spDN K mg T F)) (hx : Passes (L2.CX X.prog X.w) X E) (ha : DMA K mg E T X es ts gs) (hN : X.N[i]? = some y := by rfl)
    (hv : Vis X.env.scope y := by first | exact Or.inl rfl | exact Or.inr (Or.inl rfl) | exact Or.inr (Or.inr rfl)) (hd : (y == ("__debug__" : Str)) = false := by decide) (hcd : (y == ("__classdict__" : Str)) = false := by decide) (hg : Gl X x := by rfl)
    (hdb : (x == ("__debug__" : Str)) = false := by decide) (he : starEach (.Name y p2 :: es) X.env = (false, eval (.Name y p2) X.env) :: starEach es X.env := by rfl) (hpl : (backTo pos (starEach es X.env)).any (·.1) = false := by rfl) :
    DMN K mg E T X (.Call (.Name x p) (.Name y p2 :: es) [] pos) (tCall (spDN K mg T F) [] E (tCons (tVar i) ts)) (mDN i F gs) := by
  refine ⟨ha.k, ha.m, pe_at C hg hx (pa_cons (pe_var hN hv hd hcd) ha.pe he) hdb he hpl, fun B Φ H σ ρ s Q z => ?_⟩
  unfold mDN at z
  split at z
  · rename_i d e
    obtain ⟨e1, _, _⟩ := slot_dr s e
    refine ⟨_, e1, ha.imp B Φ H σ ρ s _ (PostMA.bindMN z fun ds ρ1 vs Φ1 H1 e' s1 sv z1 => ?_)⟩
    split at z1
    · rename_i d1 w1
      obtain ⟨f1, I, _⟩ := slot_dr s1 w1
      refine ⟨Φ1, B.dp, B.dq, d1, vs, ds, by rw [List.append_nil], I, sv, ?_⟩
      split at z1
      · rename_i e2 d2 w2
        rw [w2]
        intro a vs2 Φ2 H2 g hd n1 n2 hl sv2
        have s2 := s1.eff w1 g hd
        refine z1 a vs2 Φ2 H2 g.p s2 (fun nd y j m => ?_) ?_ (fun m => s1.b5 a m n1) n2 hl sv2
        · obtain ⟨nd1, x1⟩ := s1.nds
          rw [y.uniq ((s1.eff' w1 g hd).2 nd1 x1)] at m
          exact (x1.own j a m).2.1 n1
        · cases q : B.H0 a with
          | none => rfl
          | some o => exact absurd n1 (s1.b4 a (not_none q))
      · exact z1.elim
    · exact z1.elim
  · exact z.elim
end
end TP
set_option Elab.async false
set_option linter.all false
set_option maxRecDepth 100000
/-! Tree programs: the draws' dict. -/
namespace TP
open PySem L2 PyProof.Rows PySem.Spec
section
variable {K : PySem.W.Frag} {mg : Str → Option Value} {T : List (Addr × Str)} {E : XK} {B : Bs} {Φ Φ' H H' : Hp} {σ : L2.St} {ρ : S} {Q Q' : VK}
theorem SOk.setDr {i : Nat} {d d' : Dr} {a : Addr} {o : HO} (s : SOk K mg T B Φ H σ ρ) (hi : ρ[i]? = some (some (.dr d))) (ha : a = B.dp ∨ a = B.dq) (h : DrAt K Φ (L2.upd H a o) B.dp B.dq d') : SOk K mg T B Φ (L2.upd H a o) σ (ρ.set i (some (.dr d'))) := by
  obtain ⟨e1, I, hn⟩ := slot_dr s hi
  refine s.upd i e1 (fun nd y => ?_) (fun A ⟨s0, q, r⟩ => ?_) ⟨_, hi⟩ (fun _ z => by cases z) fun l hl => ⟨_, hi, hl⟩
  · rw [hn nd y]
    rcases ha with z | z <;> rw [z] <;> simp
  · rw [hi] at q
    cases q
    have e2 : A = [B.dp, B.dq] := r.nodes (.dr I.at_)
    rw [e2]
    exact .dr h
abbrev drKvs (q c : Addr) (rest turn : Int) : List (Key × V) := [(kLarge, .ref q), (kRest, .int rest), (kCells, .ref c), (kTurn, .int turn)]
theorem kne1 : ¬ kLarge = kRest := by decide
theorem kne2 : ¬ kLarge = kCells := by decide
theorem kne3 : ¬ kLarge = kTurn := by decide
theorem kne4 : ¬ kRest = kCells := by decide
theorem kne5 : ¬ kRest = kTurn := by decide
theorem kne6 : ¬ kCells = kTurn := by decide
theorem val_large {q c : Addr} {r t : Int} : valV (drKvs q c r t) kLarge = some (.ref q) := valV_pos rfl
theorem val_rest {q c : Addr} {r t : Int} : valV (drKvs q c r t) kRest = some (.int r) := by rw [valV_neg (fun z => kne1 z)]; exact valV_pos rfl
theorem val_cells {q c : Addr} {r t : Int} : valV (drKvs q c r t) kCells = some (.ref c) := by rw [valV_neg (fun z => kne2 z), valV_neg (fun z => kne4 z)]; exact valV_pos rfl
theorem val_turn {q c : Addr} {r t : Int} : valV (drKvs q c r t) kTurn = some (.int t) := by rw [valV_neg (fun z => kne3 z), valV_neg (fun z => kne5 z), valV_neg (fun z => kne6 z)]; exact valV_pos rfl
theorem put_rest {q c : Addr} {r t n : Int} : putK (drKvs q c r t) kRest (.int n) = drKvs q c n t := by
  unfold putK
  rw [if_pos (by simp)]
  simp only [List.map_cons, List.map_nil, if_neg kne1, if_neg (fun z : kCells = kRest => kne4 z.symm), if_neg (fun z : kTurn = kRest => kne5 z.symm), if_true]
theorem put_turn {q c : Addr} {r t n : Int} : putK (drKvs q c r t) kTurn (.int n) = drKvs q c r n := by
  unfold putK
  rw [if_pos (by simp)]
  simp only [List.map_cons, List.map_nil, if_neg kne3, if_neg kne5, if_neg kne6, if_true]
def dRest (i : Nat) : S → R D := fun ρ => match ρ[i]? with
  | some (some (.dr d)) => .ok (.int d.rest)
  | _ => .stuck
def dTurn (i : Nat) : S → R D := fun ρ => match ρ[i]? with
  | some (some (.dr d)) => .ok (.int d.turn)
  | _ => .stuck
def dCells (i : Nat) : S → R D := fun ρ => match ρ[i]? with
  | some (some (.dr d)) => .ok (.lst (d.cells.map D.int))
  | _ => .stuck
def dLarge (i : Nat) : S → R D := fun ρ => match ρ[i]? with
  | some (some (.dr d)) => .ok (.lst (d.large.map D.int))
  | _ => .stuck
variable {X : Cx} {e : Expr} {pos p p2 p3 apos : Pos} {te : TE} {fm : S → M D} {y : Str} {j : Nat}
section
variable (i : Nat) (hu : X.A.units + 64 < cLine) (hN : X.N[i]? = some y) (hv : Vis X.env.scope y) (hk : X.K = K) (hm : X.mg = mg) (hd : (y == ("__debug__" : Str)) = false) (hcd : (y == ("__classdict__" : Str)) = false)
include hu hN hv hk hm hd hcd
theorem dr_rest : DE K mg E T X (.Subscript (.Name y p) (.Constant (.str "rest") j p2) pos) (tDGet (tVar i) (tC (.str "rest"))) (dRest i) := by
  refine ⟨hk, hm, pe_dget (by omega) (pe_var hN hv hd hcd) pe_str (fun _ _ => rfl), fun B Φ H σ ρ s Q z => ?_⟩
  unfold dRest at z
  split at z
  · rename_i d e
    obtain ⟨e1, I, _⟩ := slot_dr s e
    obtain ⟨c, h1, h2⟩ := I.at_.dict
    exact ⟨_, e1, B.dp, _, rfl, val_rest (q := B.dq) (c := c) (t := d.turn) ▸ DGet.k (k := kRest) h1, z _ Φ H (Gr.refl s.ex) (.int _)⟩
  · exact z.elim
theorem dr_turn : DE K mg E T X (.Subscript (.Name y p) (.Constant (.str "turn") j p2) pos) (tDGet (tVar i) (tC (.str "turn"))) (dTurn i) := by
  refine ⟨hk, hm, pe_dget (by omega) (pe_var hN hv hd hcd) pe_str (fun _ _ => rfl), fun B Φ H σ ρ s Q z => ?_⟩
  unfold dTurn at z
  split at z
  · rename_i d e
    obtain ⟨e1, I, _⟩ := slot_dr s e
    obtain ⟨c, h1, h2⟩ := I.at_.dict
    exact ⟨_, e1, B.dp, _, rfl, val_turn (q := B.dq) (c := c) (r := d.rest) ▸ DGet.k (k := kTurn) h1, z _ Φ H (Gr.refl s.ex) (.int _)⟩
  · exact z.elim
theorem dr_cells : DE K mg E T X (.Subscript (.Name y p) (.Constant (.str "cells") j p2) pos) (tDGet (tVar i) (tC (.str "cells"))) (dCells i) := by
  refine ⟨hk, hm, pe_dget (by omega) (pe_var hN hv hd hcd) pe_str (fun _ _ => rfl), fun B Φ H σ ρ s Q z => ?_⟩
  unfold dCells at z
  split at z
  · rename_i d e
    obtain ⟨e1, I, _⟩ := slot_dr s e
    obtain ⟨c, h1, h2⟩ := I.at_.dict
    exact ⟨_, e1, B.dp, _, rfl, val_cells (q := B.dq) (r := d.rest) (t := d.turn) ▸ DGet.k (k := kCells) h1, z _ Φ H (Gr.refl s.ex) (.lst h2 (SeeAll.ofInts _))⟩
  · exact z.elim
theorem dr_large : DB K mg E T X (.Subscript (.Name y p) (.Constant (.str "large") j p2) pos) (tDGet (tVar i) (tC (.str "large"))) (dLarge i) := by
  refine ⟨hk, hm, pe_dget (by omega) (pe_var hN hv hd hcd) pe_str (fun _ _ => rfl), fun B Φ H σ ρ s Q z => ?_⟩
  unfold dLarge at z
  split at z
  · rename_i d e
    obtain ⟨e1, I, _⟩ := slot_dr s e
    obtain ⟨c, h1, h2⟩ := I.at_.dict
    exact ⟨_, e1, B.dp, _, rfl, val_large (c := c) (r := d.rest) (t := d.turn) ▸ DGet.k (k := kLarge) h1, z _ Φ H (Gr.refl s.ex) (.ml I.at_.great (SeeAll.ofInts _))⟩
  · exact z.elim
end
/-- draw["rest"] = e -/
def sRest (i : Nat) (f : S → M D) : S → M Fl := fun ρ => (f ρ).bind fun e ρ1 => match e, ρ1[i]? with
  | .int n, some (some (.dr d)) => .ok .nx (ρ1.set i (some (.dr { d with rest := n })))
  | _, _ => .stuck
def sTurn (i : Nat) (f : S → M D) : S → M Fl := fun ρ => (f ρ).bind fun e ρ1 => match e, ρ1[i]? with
  | .int n, some (some (.dr d)) => .ok .nx (ρ1.set i (some (.dr { d with turn := n })))
  | _, _ => .stuck
theorem PostM.toS {r : M D} {k : D → S → M Fl} {D' : Ends} {Q' : VK} (h : PostS K mg E T B Φ D' (r.bind k)) (q : ∀ d ρ v Φ' H', Ex Φ Φ' → SOk K mg T B Φ' H' σ ρ → See K mg Φ' v d → PostS K mg E T B Φ' D' (k d ρ) → Q' v H') : PostM K mg E T B Φ σ r Q' := by
  cases r with
  | ok d ρ => exact fun v Φ' H' e s sv => q d ρ v Φ' H' e s sv (PostS.ext K mg E T e h)
  | raise x ρ => exact PostXM.toS h
  | stuck => exact h
section
variable (i : Nat) (hu : X.A.units + 64 < cLine) (hN : X.N[i]? = some y) (hv : Vis X.env.scope y) (hd : (y == ("__debug__" : Str)) = false) (hcd : (y == ("__classdict__" : Str)) = false)
  (ha : DM K mg E T X e te fm) (hs : swapsWith e (some (.Subscript (.Name y p) (.Constant (.str "rest") j p2) p3)) pos.line X.env = pure false)
  (ht : swapsWith e (some (.Subscript (.Name y p) (.Constant (.str "turn") j p2) p3)) pos.line X.env = pure false)
include hu hN hv hd hcd ha
include hs in
theorem dr_setRest : DS K mg E T X (.Assign [.Subscript (.Name y p) (.Constant (.str "rest") j p2) p3] e pos) (sDPut (tVar i) (tC (.str "rest")) te) (sRest i fm) := by
  refine ⟨ha.k, ha.m, ps_dput (by omega) (pe_var hN hv hd hcd) pe_str ha.pe hs, fun B Φ H σ ρ hM s D z => ha.imp B Φ H σ ρ s _ (PostM.toS z fun d ρ1 v Φ1 H1 e1 s1 sv z1 => ?_)⟩
  split at z1
  · rename_i n dr w
    cases sv
    obtain ⟨f1, I, _⟩ := slot_dr s1 w
    obtain ⟨c, h1, h2⟩ := I.at_.dict
    have hp := DPut.k (k := kRest) (v := .int n) h1 (by rw [sizeLine_eq]; show 4 < _; decide)
    rw [put_rest] at hp
    have ne := I.at_.ne
    refine ⟨_, f1, B.dp, _, rfl, hp, z1 Φ1 _ σ (Ex.refl _) (s1.setDr w (.inl rfl) ⟨⟨c, upd_same, h2⟩, ?_, ne⟩)⟩
    rw [upd_ne (Ne.symm ne)]; exact I.at_.great
  · exact z1.elim
include ht in
theorem dr_setTurn : DS K mg E T X (.Assign [.Subscript (.Name y p) (.Constant (.str "turn") j p2) p3] e pos) (sDPut (tVar i) (tC (.str "turn")) te) (sTurn i fm) := by
  refine ⟨ha.k, ha.m, ps_dput (by omega) (pe_var hN hv hd hcd) pe_str ha.pe ht, fun B Φ H σ ρ hM s D z => ha.imp B Φ H σ ρ s _ (PostM.toS z fun d ρ1 v Φ1 H1 e1 s1 sv z1 => ?_)⟩
  split at z1
  · rename_i n dr w
    cases sv
    obtain ⟨f1, I, _⟩ := slot_dr s1 w
    obtain ⟨c, h1, h2⟩ := I.at_.dict
    have hp := DPut.k (k := kTurn) (v := .int n) h1 (by rw [sizeLine_eq]; show 4 < _; decide)
    rw [put_turn] at hp
    have ne := I.at_.ne
    refine ⟨_, f1, B.dp, _, rfl, hp, z1 Φ1 _ σ (Ex.refl _) (s1.setDr w (.inl rfl) ⟨⟨c, upd_same, h2⟩, ?_, ne⟩)⟩
    rw [upd_ne (Ne.symm ne)]; exact I.at_.great
  · exact z1.elim
end
/-- draw["large"].pop(0) -/
def mPopL (i : Nat) : S → M D := fun ρ => match ρ[i]? with
  | some (some (.dr d)) => match d.large with
    | n :: ns => .ok (.int n) (ρ.set i (some (.dr { d with large := ns })))
    | [] => .stuck
  | _ => .stuck
theorem dr_pop (i : Nat) {j0 : Nat} {p4 : Pos} (hu : X.A.units + 64 < cLine) (hN : X.N[i]? = some y) (hv : Vis X.env.scope y) (hk : X.K = K) (hm : X.mg = mg) (hd : (y == ("__debug__" : Str)) = false) (hcd : (y == ("__classdict__" : Str)) = false)
    (hbase : attributeBase (.Subscript (.Name y p) (.Constant (.str "large") j p2) p3) "pop" X.env (eval (.Subscript (.Name y p) (.Constant (.str "large") j p2) p3) X.env) = eval (.Subscript (.Name y p) (.Constant (.str "large") j p2) p3) X.env)
    (hfew : ((backTo pos (starEach (Expr.Constant (.int 0) j0 p4 :: []) X.env)).all (fun x => !x.1) && (backToKw pos (keywordEach [] X.env)).all (fun x => x.1.isSome)
      && decide ((Expr.Constant (.int 0) j0 p4 :: []).length + ([] : List Keyword).length + (if ([] : List Keyword).isEmpty then 0 else 1) < 30)) = true)
    (hline : (apos.endLine == pos.line) = true) (hs : starEach (.Constant (.int 0) j0 p4 :: []) X.env = (false, eval (.Constant (.int 0) j0 p4) X.env) :: starEach [] X.env) (hplain : (backTo pos (starEach ([] : List Expr) X.env)).any (·.1) = false) :
    DM K mg E T X (.Call (.Attribute (.Subscript (.Name y p) (.Constant (.str "large") j p2) p3) "pop" apos) [.Constant (.int 0) j0 p4] [] pos) (tBM X.K "list" rPopAt (tDGet (tVar i) (tC (.str "large"))) (tCons (tC (.int 0)) tNil)) (mPopL i) := by
  refine ⟨hk, hm, pe_bm PySem.F.plainAttrs_list PySem.F.slot_list_pop PySem.F.type_list_pop mt_popAt (pe_dget (by omega) (pe_var hN hv hd hcd) pe_str (fun _ _ => rfl)) (pa_cons pe_int pa_nil hs) hbase hfew hline hs hplain, fun B Φ H σ ρ s Q z => ?_⟩
  unfold mPopL at z
  split at z
  · rename_i d e
    split at z
    · rename_i n ns el
      obtain ⟨e1, I, _⟩ := slot_dr s e
      obtain ⟨c, h1, h2⟩ := I.at_.dict
      have hg := I.at_.great
      rw [el] at hg
      have ne := I.at_.ne
      refine ⟨_, e1, B.dp, .ref B.dq, rfl, val_large (c := c) (r := d.rest) (t := d.turn) ▸ DGet.k (k := kLarge) h1, .inl ⟨rfl, _, .inl (.inl hg)⟩, B.dq, _, 0, 0, .int n, rfl, rfl, hg, by decide, by decide, ?_, rfl, z _ Φ _ (Ex.refl _) (s.setDr e (.inr rfl) ⟨⟨c, ?_, h2⟩, upd_same, ne⟩) (.int _)⟩
      · unfold seqIndex?
        simp
      · rw [upd_ne ne]; exact h1
    · exact z.elim
  · exact z.elim
end
end TP
set_option Elab.async false
set_option linter.all false
set_option maxRecDepth 100000
set_option maxHeartbeats 4001234
/-! Tree programs: exceptions as values, isinstance. -/
namespace TP
section
open PySem PySem.Spec
        PySem.Calls PyProof.Rows PySem.W
variable {prog : Program} {w : World} {A : Around} {E : Value → Shared → Prop} {s : Shared} {K : Frag} {x D : Addr} {ox : Obj} {od : Option Obj}
theorem xfind_data {C : Addr} {nm : Str} {a g : Value} (k1 : (clsIn K C).isSome = true) (k2 : findIn K (.ref C) nm = some (some a)) (k3 : specialIn K a "__get__" = some (some g)) (k4 : takesIn K a = some true) : findObj K C od nm = some (.bind g a) := by
  obtain ⟨cd, k1⟩ := Option.isSome_iff_exists.mp k1
  simp [findObj, k1, k2, k3, k4]
/-- what an own exception class must tell -/
structure ExF (K : Frag) (D : Addr) : Prop where
  c : L2.ExcC K D
/-- x.__class__, x an exception of the own class D, with or without a dict -/
theorem xcls (Fx : L2.ExcC K D) (X : K.In s.heap) (I : InstAt s.heap x ox D od) {Q : Option Value → Shared → Prop} (h : Q (some (.ref D)) { s with toks := s.toks + 1 }) : wpAny (model prog w) A (getAttr? (.ref x) "__class__") Q E s := by
  have found : findObj K D od "__class__" = some (.bind (.builtin "getset_descriptor.__get__") (.builtin "object.__class__")) := xfind_data (by obtain ⟨cd, hc, _⟩ := any_some Fx.hd; rw [hc]; rfl) Fx.ha Fx.hn Fx.ht
  obtain ⟨hp, gn, dr, tk, os⟩ := s
  have l0 := I.type (M := model prog w)
  have l1 := looks_findIn (M := model prog w) X Fx.hg
  have l2 := looks_findIn (M := model prog w) X Fx.hk
  have l3 := looks_find (M := model prog w) X I found
  have isx : Looks (model prog w) hp (isInstance (.ref x) (.type "BaseException")) true := l0.andThen (looks_subIn X Fx.hs)
  have ne2 : (Value.builtin "BaseException.__getattribute__" == Value.builtin "object.__getattribute__") = false := by decide +kernel
  have ne1 : (onTheHeap (Value.ref D) && Value.builtin "BaseException.__getattribute__" == Value.builtin "object.__getattribute__") = false := by rw [ne2]; rfl
  unfold getAttr?
          getAttrBy? getAttrBy
  refine wpAny_bind (wpAny_mkText (wpAny_bind (wpAny_attempt (wpAny_holding (wpAny_bind (l0.at (wpAny_bind (l1.at ?_))))))))
  show wpAny _ _ (if (onTheHeap (Value.ref D) && Value.builtin "BaseException.__getattribute__" == Value.builtin "object.__getattribute__") = true then _ else _)
    _ _ _
  rw [if_neg (by rw [ne1]; decide)]
  unfold getAttrByItsOwn
          hookBefore
  refine wpAny_bind ?_
  rw [if_pos (by rfl : onTheHeap (Value.ref D) = true)]
  refine l2.at ?_
  refine wpAny_bind (wpAny_attempt
          (wpAny_holding ?_))
  unfold callGetattribute
  rw [if_neg (by decide : ¬ (false && onTheHeap (Value.builtin "BaseException.__getattribute__")) = true)]
  unfold boundAndCalled
  rw [F.excAttr_ValueError.ga.bind (.ref x)]
  refine wpAny_bind
          (wpAny_pure ?_)
  show wpAny _ _
    (call (.builtin "BaseException.__getattribute__") [.ref x, .str "__class__" tk]) _ _ _
  refine wpAny_call (codeAny_call_builtin F.excAttr_ValueError.ga.plain F.entry_bexc_ga ?_)
  refine @check_slot (model prog w) _ _ ⟨hp, gn, dr, tk + 1, os⟩ "BaseException.__getattribute__" "BaseException" "__getattribute__" (.ref x) [.str "__class__" tk] [] _ (by decide +kernel) (by decide +kernel) isx (F.args_bexc_ga _ _) ?_
  unfold
          Builtin.«object.__getattribute__»
  refine wpAny_bind (wpAny_of_eq (a := ((Value.ref x : Value), [Value.str "__class__" tk])) (by first | rfl | (simp only [slotArgs]; rfl)) ?_)
  refine wpAny_bind (wpAny_pure (wpAny_bind (l0.at (wpAny_bind (l3.at ?_)))))
  show wpAny _ _
    (holding [Value.builtin "object.__class__"] (call (.builtin "getset_descriptor.__get__") [.builtin "object.__class__", .ref x, .ref D]) >>= ret) _ _ _
  refine wpAny_bind (wpAny_holding (wpAny_call (class_get (s := ⟨hp, gn, dr, tk + 1, os⟩) (ox := ox) (od := od) X I Fx.hm ?_)))
  refine wpAny_pure ?_
  show wpAny _ _ (handedOut
          (.ref D)) _ _ _
  rw [handedOut_of (by rfl : handedIn (Value.ref D) = true)]
  first
    | exact wpAny_pure h
    | exact wpAny_pure
            (wpAny_pure h)
    | exact wpAny_pure (wpAny_bind
            (wpAny_pure (wpAny_pure h)))
theorem xkit (F : L2.ExcC K D) : KitX K (.ref x) (.ref D) (fun h => InstAt h x ox D od) where
  ty := fun _ _ _ I => I.type
  it := fun _ _ X₀ _ => by
    obtain ⟨c1, k1, _⟩ := any_some F.hd
    unfold clsIn at k1
    split at k1
    · rename_i c' d' cd' sl' ho
      intro A' Q' E' s' k₀ q₀
      exact wpAny_bind (wpAny_loadPart (k₀ _ _ (X₀ _ _ ho)) (wpAny_pure q₀))
    · cases k1
  ne := fun h tp dd its n₀ sl X₀ htp => by
    obtain ⟨c1, k1, _⟩ := any_some F.hd
    refine Bool.eq_false_iff.mpr fun q₀ => ?_
    have e : D = tp := Value.ref.inj (beq_iff_eq.mp q₀)
    subst e
    unfold clsIn at k1
    split at k1
    · rename_i c' d' cd' sl' ho
      have z := (X₀ _ _ ho).symm.trans htp
      cases z
    · cases k1
  ca := fun X₀ I k₀ => xcls F X₀ I k₀
end
open PySem L2 PyProof.Rows PySem.Spec
/-- kinds -/
inductive Cn where
  | ty (n : String) | own (c : Str)
deriving DecidableEq
def Cn.val (mg : Str → Option Value) : Cn → Option Value
  | .ty n => some (.type n)
  | .own c => match mg c with
    | some (.ref C) => some (.ref C)
    | _ => none
def D.cn : D → Cn
  | .non => .ty "NoneType"
  | .bl _ => .ty "bool"
  | .int _ => .ty "int"
  | .str _ => .ty "str"
  | .tup _ => .ty "tuple"
  | .pr _ => .ty "tuple"
  | .lst _ => .ty "list"
  | .dic _ => .ty "dict"
  | .dit _ => .ty "dict"
  | .obj c _ => .own c
  | .exc c _ => .own c
  | .scr _ => .ty "list"
  | .fn _ => .ty "function"
/-- the class of an own object, of an exception, as isinstance asks it -/
structure InsF (K : PySem.W.Frag) (C : Addr) : Prop where
  cl : Cls K C
  ha : PySem.W.findIn K (.ref C) "__class__"
          = some (some (.builtin "object.__class__"))
  hn : PySem.W.specialIn K (.builtin "object.__class__")
          "__get__" = some (some (.builtin "getset_descriptor.__get__"))
  htk : PySem.W.takesIn K (.builtin
          "object.__class__") = some true
  hm : PySem.W.mroIn K C
          (.type "object") = some true
/-- a value's kind, as isinstance sees it -/
inductive KiV (K : PySem.W.Frag) (H : Hp) : V → Value → Prop
  | pl {x : V} {t : Value} (h : TyX K H x t) : KiV K H x t
  | x0 {a C : Addr} (e : H a = some (XcO (.ref C) none a)) (F : L2.ExcC K C) : KiV K H (.ref a) (.ref C)
  | x1 {a C d : Addr} {fs : List (Str × V)} (e : H a = some (XcO (.ref C) (some d) a)) (ed : H d = some (.xd fs)) (F : L2.ExcC K C) : KiV K H (.ref a) (.ref C)
section
variable {X : Cx} {pins : List (Addr ×
        Obj)} {σ : L2.St} {H : Hp} {s : Shared}
theorem xc_at {cls : Value} {d : Option Addr} {a : Addr} (I : Inv X pins σ H s) (e : H a = some (XcO cls d a)) : ∃ (oe : Obj) (vs : Array Value), s.heap.get? a = some oe ∧ Zc cls d oe ∧ oe.data = .fields vs := (I.hok a _ e).1
theorem xd_at {d : Addr} {fs : List (Str × V)} (I : Inv X pins σ H s) (e : H d = some (.xd fs)) : ∃ mA, s.heap.Ns1 d mA ∧ ∀ y, RelO (fs.lookup y) (mA y) := I.hok d _ e
theorem kiv_kit {x : V} {u t : Value} (I : Inv X pins σ H s) (rx : RelV x u) (ty : KiV X.K H x t) : ∃ P : Heap → Prop, PySem.W.KitX X.K u t P ∧ P s.heap ∧ u ≠ .builtin "__main__.__loader__#opaque" := by
  cases ty with
  | pl h => exact kit_of I rx h
  | x0 e F =>
    obtain rfl : u = _ := rx
    obtain ⟨oe, vs, h1, ⟨h2, h3⟩, h4⟩ := xc_at I e
    exact ⟨_, xkit (ox := oe) (od := none) F, ⟨h1, h2, by unfold PySem.W.notCls; rw [h4] <;> rfl, by rw [h3]; trivial⟩, fun z => nomatch z⟩
  | x1 e ed F =>
    obtain rfl : u = _ := rx
    obtain ⟨oe, vs, h1, ⟨h2, h3⟩, h4⟩ := xc_at I e
    obtain ⟨mA, hns, _⟩ := xd_at I ed
    obtain ⟨od, ho, _⟩ := lookIn_ns hns
    exact ⟨_, xkit (ox := oe) (od := some od) F, ⟨h1, h2, by unfold PySem.W.notCls; rw [h4] <;> rfl, by rw [h3]; exact ho⟩, fun z => nomatch z⟩
/-- isinstance(x, c); isinstance(x, (c, ..)) -/
def rKi (K : PySem.W.Frag) : List V → Hp → VK → Prop := fun xs H Q => ∃ (x c : V) (t u : Value) (b : Bool), xs = [x, c] ∧ ClsV c u ∧ KiV K H x t ∧ PySem.W.kitOne K t u = some b ∧ Q (.bl b) H
def rKiT (K : PySem.W.Frag) : List V → Hp → VK → Prop := fun xs H Q => ∃ (x : V) (tp : Addr) (o : Obj) (cs : List V) (t : Value) (us : List Value) (b : Bool), xs = [x, .ref tp] ∧ H tp = some (.frz o (.tup cs)) ∧ Paired ClsV cs us ∧ KiV K H x t ∧ PySem.W.kitAny K t us = some b ∧ Q (.bl b) H
theorem cr_ki : CallR X (.builtin "isinstance") (rKi X.K) := by
  intro pins s₀ σ H xs us Q I r h
  obtain ⟨x₀, c, t, u, b, rfl, k, ty, e, q⟩ := h
  obtain ⟨v1, v2, rfl, r1, r2⟩ := vals2 r
  have e2 := k.eq r2
  subst e2
  obtain ⟨P, Z, hp, hx⟩ := kiv_kit I r1 ty
  exact PySem.W.kia_one Z I.kIn hp e hx fun tk => ⟨.bl b, H, I.tok tk, rfl, q⟩
theorem cr_kiT : CallR X (.builtin "isinstance") (rKiT X.K) := by
  intro pins s₀ σ H xs us Q I r h
  obtain ⟨x, tp, ob, cs, t, ws, b, rfl, hT, k, ty, e, q⟩ := h
  obtain ⟨v1, v2, rfl, r1, r2⟩ := vals2 r
  cases (show v2 = Value.ref tp from r2)
  obtain ⟨P, Z, hp, hx⟩ := kiv_kit I r1 ty
  obtain ⟨_, _, its, rv, o, h1, h2, n, h3⟩ := (show ObjOk X.prog X.w H s₀.heap tp (.frz ob (.tup cs)) from I.hok tp _ hT)
  have e3 := ClsV.all k rv
  subst e3
  obtain ⟨oc, od, dt, sl⟩ := o
  simp only at h2 h3
  subst h2 h3
  exact PySem.W.kia_tup Z I.kIn hp h1 e hx fun tk => ⟨.bl b, H, I.tok tk, rfl, q⟩
end
section
variable {K : PySem.W.Frag} {mg : Str → Option Value} {Φ H : Hp}
/-- of the own kinds: what they must tell -/
def OwnF (K : PySem.W.Frag) (mg : Str → Option Value) (os xs : List Str) : Prop := (∀ c ∈ os, ∀ C, mg c = some (.ref C) → InsF K C) ∧ ∀ c ∈ xs, ∀ C, mg c = some (.ref C) → L2.ExcC K C
/-- may be asked: plain, or of an own kind that tells -/
def D.ask (os xs : List Str) : D → Bool
  | .obj c _ => os.contains c
  | .exc c _ => xs.contains c
  | .fn _ => false
  | _ => true
theorem SeeB.kind {v : V} {d : D} {os xs : List Str} (ex : Ex Φ H) (O : OwnF K mg os xs) (h : SeeB K mg Φ H v d) (a : d.ask os xs = true) : ∃ t, d.cn.val mg = some t ∧ KiV K H v t := by
  cases h with
  | ml e r => exact ⟨_, rfl, .pl (.base (.lst e))⟩
  | md e r => exact ⟨_, rfl, .pl (.base (.dK e))⟩
  | mt e r => exact ⟨_, rfl, .pl (.base (.dT e))⟩
  | fz h =>
    cases h with
    | non => exact ⟨_, rfl, .pl (.base .non)⟩
    | bl b => exact ⟨_, rfl, .pl (.base (.bl b))⟩
    | int b => exact ⟨_, rfl, .pl (.base (.int b))⟩
    | str b => exact ⟨_, rfl, .pl (.base (.str b))⟩
    | tup h r =>
      refine ⟨_, rfl, .pl ?_⟩
      rcases h with ⟨o, h, _⟩ | ⟨o, its, n, h1, h2, _⟩
      · exact .fTuple (ex _ _ h)
      · exact .kTuple h1 h2
    | pr h r => exact ⟨_, rfl, .pl (.base (.tup (ex _ _ h)))⟩
    | lst h r => exact ⟨_, rfl, .pl (.base (.lst (ex _ _ h)))⟩
    | dic h r => exact ⟨_, rfl, .pl (.base (.dK (ex _ _ h)))⟩
    | dit h r => exact ⟨_, rfl, .pl (.base (.dT (ex _ _ h)))⟩
    | obj g h r =>
      have q := O.1 _ (List.contains_iff_mem.mp a) _ g
      exact ⟨_, by simp [D.cn, Cn.val, g], .pl (.base (.ins (ex _ _ h) q.cl q.ha q.hn q.htk q.hm))⟩
    | exc0 g h => exact ⟨_, by simp [D.cn, Cn.val, g], .x0 (ex _ _ h) (O.2 _ (List.contains_iff_mem.mp a) _ g)⟩
    | exc1 g h hd r => exact ⟨_, by simp [D.cn, Cn.val, g], .x1 (ex _ _ h) (ex _ _ hd) (O.2 _ (List.contains_iff_mem.mp a) _ g)⟩
    | fn g => exact absurd a Bool.false_ne_true
    | scr h =>
      refine ⟨_, rfl, .pl ?_⟩
      rcases h with (h | ⟨o, h⟩) | ⟨o, its, n, h1, h2, _⟩
      · exact .base (.lst (ex _ _ h))
      · exact .base (.frz (ex _ _ h))
      · exact .kList h1 h2
end
end TP
set_option Elab.async false
set_option linter.all false
set_option maxRecDepth 100000
/-! Tree programs: isinstance; attributes of exceptions. -/
namespace TP
open PySem L2 PyProof.Rows PySem.Spec
/-- a class that is named -/
structure DC (mg : Str → Option Value) (X : Cx) (e : Expr) (v : V) (u : Cn) : Prop where
  pe : PE X e (tC v)
  is : ∃ t, ClsV v t ∧ u.val mg = some t
/-- what isinstance(.., u) answers for these kinds -/
def KoF (K : PySem.W.Frag) (mg : Str → Option Value) (ks : List Cn) (u : Cn) (sub : Cn → Bool) : Prop := ∀ k ∈ ks, ∀ t w, k.val mg = some t → u.val mg = some w → PySem.W.kitOne K t w = some (sub k)
def isiD (os xs : List Str) (ks : List Cn) (sub : Cn → Bool) (d : D) : R D := if d.ask os xs = true ∧ ks.contains d.cn = true then .ok (.bl (sub d.cn)) else .stuck
theorem isi_nx {os xs : List Str} {ks : List Cn} {sub : Cn → Bool} : ∀ d, NoX (isiD os xs ks sub d) := fun d z => by
  unfold isiD
  split <;> exact fun w => by cases w
section
variable {K : PySem.W.Frag} {mg : Str → Option Value} {T : List (Addr × Str)} {E : XK} {X : Cx} {a b c e ec ec2 : Expr} {ta tb : TE} {f : S → R D} {fm : S → M D} {pos p p2 : Pos} {vc vc2 : V} {uc uc2 : Cn} {os xs : List Str} {ks : List Cn} {sub sub2 : Cn → Bool}
theorem dc_ty {x : Str} {n : String} (hm : mg x = none) (hv : bootBuiltins x = some (.type n)) (hk : X.mg = mg) (hg : Gl X x := by rfl) (hn : x ≠ "__name__" := by decide) (hd : (x == ("__debug__" : Str)) = false := by decide) : DC mg X (.Name x pos) (.ty n) (.ty n) :=
  ⟨pe_bltn hg (by rw [hk]; exact hm) hv rfl hn hd, _, .ty n, rfl⟩
theorem dc_own {x : Str} {C : Addr} (hm : mg x = some (.ref C)) (hk : X.mg = mg) (hg : Gl X x := by rfl) (hd : (x == ("__debug__" : Str)) = false := by decide) : DC mg X (.Name x pos) (.ref C) (.own x) :=
  ⟨pe_glob hg (by rw [hk]; exact hm) rfl hd, _, .own C, by simp [Cn.val, hm]⟩
theorem isi_at {Φ H : Hp} {Q : VK} {v : V} {d : D} (ex : Ex Φ H) (O : OwnF K mg os xs) (kf : KoF K mg ks uc sub) (hc : ∃ t, ClsV vc t ∧ uc.val mg = some t) (s : SeeB K mg Φ H v d) (z : PostE K mg (fun _ _ _ => False) Φ H (isiD os xs ks sub d) Q) : rKi K [v, vc] H Q := by
  unfold isiD at z
  split at z
  · rename_i h
    obtain ⟨t, ht, kv⟩ := s.kind ex O h.1
    obtain ⟨w, hw, uw⟩ := hc
    exact ⟨v, vc, t, w, _, rfl, hw, kv, kf _ (List.contains_iff_mem.mp h.2) t w ht uw, z.flat ex rfl (.bl _)⟩
  · exact z.elim
theorem isi_at2 {Φ H : Hp} {Q : VK} {v : V} {d : D} {tp : Addr} {o : Obj} (ex : Ex Φ H) (O : OwnF K mg os xs) (k1 : KoF K mg ks uc sub) (k2 : KoF K mg ks uc2 sub2) (h1 : ∃ t, ClsV vc t ∧ uc.val mg = some t) (h2 : ∃ t, ClsV vc2 t ∧ uc2.val mg = some t) (ht : H tp = some (.frz o (.tup [vc, vc2])))
    (s : SeeB K mg Φ H v d) (z : PostE K mg (fun _ _ _ => False) Φ H (isiD os xs ks (fun k => sub k || sub2 k) d) Q) : rKiT K [v, .ref tp] H Q := by
  unfold isiD at z
  split at z
  · rename_i h
    obtain ⟨t, ht', kv⟩ := s.kind ex O h.1
    obtain ⟨w, hw, uw⟩ := h1
    obtain ⟨w2, hw2, uw2⟩ := h2
    have e1 := k1 _ (List.contains_iff_mem.mp h.2) t w ht' uw
    have e2 := k2 _ (List.contains_iff_mem.mp h.2) t w2 ht' uw2
    refine ⟨v, tp, o, _, t, [w, w2], _, rfl, ht, .cons hw (.cons hw2 .nil), kv, ?_, z.flat ex rfl (.bl (sub d.cn || sub2 d.cn))⟩
    refine kitAny_cons e1 (fun q => ?_) fun q => by rw [q]; rfl
    rw [q]
    exact kitAny_cons e2 (fun q2 => by rw [q2]; exact kitAny_nil) fun q2 => by rw [q2]; rfl
  · exact z.elim
section
variable (O : OwnF K mg os xs) (hm : mg "isinstance" = none) (hg : Gl X "isinstance") (hs : starEach (a :: [ec]) X.env = (false, eval a X.env) :: starEach [ec] X.env) (hs2 : starEach (ec :: []) X.env = (false, eval ec X.env) :: starEach [] X.env)
  (hpl : (backTo pos (starEach [ec] X.env)).any (·.1) = false)
include O hm hg hs hs2 hpl
theorem de_isi (kf : KoF K mg ks uc sub) (ha : DB K mg E T X a ta f) (hc : DC mg X ec vc uc) : DE K mg E T X (.Call (.Name "isinstance" p) [a, ec] [] pos) (tCB (rKi K) (tCons ta (tCons (tC vc) tNil))) (d1 (isiD os xs ks sub) f) := by
  obtain ⟨k, m, pe, imp⟩ := ha
  subst k
  refine ⟨rfl, m, pe_callB cr_ki hg (by rw [m]; exact hm) (by decide +kernel) (pa_cons pe (pa_cons hc.pe pa_nil hs2) hs) (by decide) (by decide) hs hpl, fun B Φ H σ ρ s Q z => ?_⟩
  refine imp B Φ H σ ρ s _ (PostB.bindE z fun d v Φ1 H1 g1 s1 z1 => ?_)
  exact isi_at g1.ex O kf hc.is s1 (PostE.noX (isi_nx _) z1)
theorem dm_isi (kf : KoF K mg ks uc sub) (ha : DM K mg E T X a ta fm) (hc : DC mg X ec vc uc) : DM K mg E T X (.Call (.Name "isinstance" p) [a, ec] [] pos) (tCB (rKi K) (tCons ta (tCons (tC vc) tNil))) (fun ρ => (fm ρ).lift (isiD os xs ks sub)) := by
  obtain ⟨k, m, pe, imp⟩ := ha
  subst k
  refine ⟨rfl, m, pe_callB cr_ki hg (by rw [m]; exact hm) (by decide +kernel) (pa_cons pe (pa_cons hc.pe pa_nil hs2) hs) (by decide) (by decide) hs hpl, fun B Φ H σ ρ s Q z => ?_⟩
  refine imp B Φ H σ ρ s _ (PostM.bind z fun d ρ1 v Φ1 H1 e1 s1 sv z1 => ?_)
  exact isi_at s1.ex O kf hc.is (.fz sv) (PostM.ofR (isi_nx _) s1 z1)
end
section
variable {es : List Expr} {k1 : Pos} {nx : Nat} (O : OwnF K mg os xs) (hm : mg "isinstance" = none) (hg : Gl X "isinstance") (hs : starEach (a :: [.Tuple [ec, ec2] nx k1]) X.env = (false, eval a X.env) :: starEach [.Tuple [ec, ec2] nx k1] X.env)
  (hs2 : starEach (.Tuple [ec, ec2] nx k1 :: []) X.env = (false, eval (.Tuple [ec, ec2] nx k1) X.env) :: starEach [] X.env) (hs3 : starEach (ec :: [ec2]) X.env = (false, eval ec X.env) :: starEach [ec2] X.env) (hs4 : starEach (ec2 :: []) X.env = (false, eval ec2 X.env) :: starEach [] X.env)
  (hpl : (backTo pos (starEach [.Tuple [ec, ec2] nx k1] X.env)).any (·.1) = false)
include O hm hg hs hs2 hs3 hs4 hpl
theorem de_isi2 (kf : KoF K mg ks uc sub) (kf2 : KoF K mg ks uc2 sub2) (ha : DB K mg E T X a ta f) (hc : DC mg X ec vc uc) (hc2 : DC mg X ec2 vc2 uc2) :
    DE K mg E T X (.Call (.Name "isinstance" p) [a, .Tuple [ec, ec2] nx k1] [] pos) (tCB (rKiT K) (tCons ta (tCons (tTupF (tCons (tC vc) (tCons (tC vc2) tNil))) tNil))) (d1 (isiD os xs ks fun k => sub k || sub2 k) f) := by
  obtain ⟨k, m, pe, imp⟩ := ha
  subst k
  refine ⟨rfl, m, pe_callB cr_kiT hg (by rw [m]; exact hm) (by decide +kernel) (pa_cons pe (pa_cons (pe_tupF (pa_cons hc.pe (pa_cons hc2.pe pa_nil hs4) hs3)) pa_nil hs2) hs) (by decide) (by decide) hs hpl, fun B Φ H σ ρ s Q z => ?_⟩
  refine imp B Φ H σ ρ s _ (PostB.bindE z fun d v Φ1 H1 g1 s1 z1 => ?_)
  refine ⟨by show 2 ≤ _; rw [sizeLine_eq]; decide, fun tp o np nd => ?_⟩
  have g2 := Gr.new (o := .frz o (.tup [vc, vc2])) g1.ex np
  exact isi_at2 g2.ex O kf kf2 hc.is hc2.is upd_same (s1.grow g2) (PostE.noX (isi_nx _) (PostE.grow g2 z1))
end
/-! ### err.f -/
/-- what reading f of an exception of the kind c asks -/
def XfF (K : PySem.W.Frag) (mg : Str → Option Value) (c f : Str) : Prop := ∀ C, mg c = some (.ref C) → XfC K C ∧ PySem.W.findIn K (.ref C) f = some none
def tXA (K : PySem.W.Frag) (te : TE) (n : Str) : TE := fun σ H Q => te σ H fun x H1 => ∃ (a C d : Addr) (fs : List (Str × V)) (v : V), x = .ref a ∧ H1 a = some (XcO (.ref C) (some d) a) ∧ H1 d = some (.xd fs) ∧ XfC K C ∧ PySem.W.findIn K (.ref C) n = some none ∧ fs.lookup n = some v ∧ Q v H1
theorem pe_xa {te : TE} {n : Str} (he : PE X e te) (hb : attributeBase e n X.env (eval e X.env) = eval e X.env) : PE X (.Attribute e n pos) (tXA X.K te n) := by
  refine ⟨fun pins s₀ σ H Q I h => ?_⟩
  refine attr_of hb (thn (he.run pins s₀ σ H _ I h) fun u₀ s1 hh => ?_)
  obtain ⟨x, H1, I1, rx, a, C, d, fs, v, rfl, ea, ed, Fx, hno, l, q⟩ := hh
  obtain rfl : u₀ = Value.ref a := rx
  obtain ⟨oe, vs, h1, ⟨h2, h3⟩, h4⟩ := xc_at I1 ea
  obtain ⟨mA, hns, hr⟩ := xd_at I1 ed
  obtain ⟨od₀, ho, hl⟩ := lookIn_ns hns
  obtain ⟨u₀, hu, ru⟩ := RelO.some_of (v := v) (o := mA n) (by rw [← l]; exact hr n)
  have J : PySem.W.InstAt s1.heap a oe C (some od₀) := ⟨h1, h2, by unfold PySem.W.notCls; rw [h4] <;> rfl, by rw [h3]; exact ho⟩
  exact HandSPX.exc_get I1.kIn J Fx.ga Fx.gg Fx.exC (PySem.W.findObj_own Fx.hdC hno rfl (by rw [hl, hu])) (handed_of ru) ⟨v, H1, I1.tok _, ru, q⟩
def xfD (xs : List Str) (n : Str) : D → R D
  | .exc c fs => if xs.contains c = true then R.ofOpt (fs.lookup n) else .stuck
  | _ => .stuck
theorem xfD_ok {xs : List Str} {n : Str} {d d' : D} (h : xfD xs n d = .ok d') : ∃ c fs, d = .exc c fs ∧ c ∈ xs ∧ fs.lookup n = some d' := by
  unfold xfD at h
  split at h
  · rename_i c fs
    split at h
    · rename_i hc
      cases w : fs.lookup n with
      | none => rw [w] at h; cases h
      | some e => rw [w] at h; cases h; exact ⟨c, fs, rfl, List.contains_iff_mem.mp hc, w⟩
    · cases h
  · cases h
theorem xf_nx {xs : List Str} {n : Str} : ∀ d, NoX (xfD xs n d) := fun d z => by
  unfold xfD
  repeat' split
  all_goals first
    | exact ofOpt_nx _ z
    | exact fun w => by cases w
theorem xa_at {Φ H : Hp} {Q : VK} {n : Str} {v : V} {d : D} (ex : Ex Φ H) (TC : ∀ c ∈ xs, XfF K mg c n) (s : See K mg Φ v d) (z : PostE K mg (fun _ _ _ => False) Φ H (xfD xs n d) Q) :
    ∃ (a C d : Addr) (fs : List (Str × V)) (w : V), v = .ref a ∧ H a = some (XcO (.ref C) (some d) a) ∧ H d = some (.xd fs) ∧ XfC K C ∧ PySem.W.findIn K (.ref C) n = some none ∧ fs.lookup n = some w ∧ Q w H := by
  cases w : xfD xs n d with
  | raise x => exact absurd w (xf_nx d x)
  | stuck => rw [w] at z; exact z.elim
  | ok d' =>
    rw [w] at z
    obtain ⟨c, fs, rfl, hc, e1⟩ := xfD_ok w
    cases s with
    | exc0 g h => cases e1
    | exc1 g h hd hr =>
      obtain ⟨v', e2, e3⟩ := SeeF.look n hr e1
      obtain ⟨c1, c2⟩ := TC c hc _ g
      exact ⟨_, _, _, _, v', rfl, ex _ _ h, ex _ _ hd, c1, c2, e2, z v' Φ H (Gr.refl ex) e3⟩
theorem de_xa {n : Str} (TC : ∀ c ∈ xs, XfF K mg c n) (ha : DE K mg E T X a ta f) (hb : attributeBase a n X.env (eval a X.env) = eval a X.env) : DE K mg E T X (.Attribute a n pos) (tXA K ta n) (d1 (xfD xs n) f) := by
  obtain ⟨k, m, p1, i1⟩ := ha
  subst k
  refine ⟨rfl, m, pe_xa p1 hb, fun B Φ H σ ρ s Q z => i1 B Φ H σ ρ s _ ?_⟩
  have z : PostE X.K mg E Φ H ((f ρ).bind (xfD xs n)) Q := z
  cases q : f ρ with
  | raise x => rw [q] at z; exact z
  | stuck => rw [q] at z; exact z
  | ok d =>
    rw [q] at z
    exact fun v Φ1 H1 g1 sv => xa_at g1.ex TC sv (PostE.noX (xf_nx _) (PostE.grow g1 z))
theorem dm_xa {n : Str} (TC : ∀ c ∈ xs, XfF K mg c n) (ha : DM K mg E T X a ta fm) (hb : attributeBase a n X.env (eval a X.env) = eval a X.env) : DM K mg E T X (.Attribute a n pos) (tXA K ta n) (fun ρ => (fm ρ).lift (xfD xs n)) := by
  obtain ⟨k, m, p1, i1⟩ := ha
  subst k
  refine ⟨rfl, m, pe_xa p1 hb, fun B Φ H σ ρ s Q z => i1 B Φ H σ ρ s _ ?_⟩
  exact PostM.bind z fun d ρ1 v Φ1 H1 e1 s1 sv z => xa_at s1.ex TC sv (PostM.ofR (xf_nx _) s1 z)
end
end TP
set_option Elab.async false
set_option linter.all false
set_option maxRecDepth 100000
set_option maxHeartbeats 4001234
/-! Tree programs: own errors that are made: super().__init__("..") and one attribute. -/
namespace TP
open PySem PySem.Spec
        PySem.Calls PyProof.Rows PySem.W
/-- the body of such an __init__ -/
abbrev errBody (par attr text : Str) (j : Nat) (p0 p1 p2 p3 p4 p5 p6 p7 p8 p9 : Pos) : List Stmt :=
  [.Expr (.Call (.Attribute (.Call (.Name "super" p0) [] [] p1) "__init__" p2) [.Constant (.str text) j p3] [] p4) p5, .Assign [.Attribute (.Name "self" p6) attr p7] (.Name par p8) p9]
/-- what the class at C and its __init__ must tell -/
structure ErrK (P : Program) (K : Frag) (C fI : Addr) (par attr : Str) : Prop where
  T : L2.OexC K C
  iC : findIn K (.ref C) "__init__"
          = some (some (.ref fI))
  tI : typeIn K (.ref fI) = some (.type "function")
  fn : ∃ (oc : Value) (od : Option Addr) (osl : Array (Option Value)) (qual : Str) (params : Arguments) (scope : Scope) (dV kV doc pm : Value) (an : Option Addr) (ct : Value) (cda cc : Addr) (text : Str) (j : Nat) (p0 p1 p2 p3 p4 p5 p6 p7 p8 p9 : Pos) (ar : Arg),
    K.lookup fI = some ⟨oc, od, .func (ksFn "__init__" qual params (errBody par attr text j p0 p1 p2 p3 p4 p5 p6 p7 p8 p9) scope dV kV doc pm an (.ref cda) ct cc), osl⟩ ∧ codeIn K (.ref cda) qual = true ∧
    (∀ us : List Value, us.length = 2 → bindArgs (ksFn "__init__" qual params (errBody par attr text j p0 p1 p2 p3 p4 p5 p6 p7 p8 p9) scope dV kV doc pm an (.ref cda) ct cc) ⟨us, []⟩ = pure ([("self" : Str), par].zip us)) ∧
    (∀ u v : Value, bindArgs (ksFn "__init__" qual params (errBody par attr text j p0 p1 p2 p3 p4 p5 p6 p7 p8 p9) scope dV kV doc pm an (.ref cda) ct cc) ⟨[u], [(par, v)]⟩ = pure ([("self" : Str), par].zip [u, v])) ∧
    (∃ c1 d1 vs s1 file tf, K.lookup cda = some ⟨c1, d1, .fields vs, s1⟩ ∧ vs[2]? = some (.str file tf) ∧ ((P.main.file : Str) == file) = true) ∧ (∃ c1 d1 s1, K.lookup cc = some ⟨c1, d1, .cell (some (.ref C)), s1⟩) ∧
    (params.posonlyargs ++ params.args).head? = some ar ∧ ar.arg = "self" ∧ scope.names.lookup ("super" : Str) = some .globalImplicit ∧ scope.names.lookup ("__class__" : Str) = some .free ∧ scope.names.lookup ("self" : Str) = some .local ∧ scope.names.lookup par = some .local ∧
    (∀ x ∈ scope.names, x.2 ≠ .cell) ∧ scope.kind = .function ∧ scope.isCoroutine = false ∧ scope.isGenerator = false ∧ (p2.endLine == p4.line) = true
  sup : nsIn K mainGlobals "super" = some none
  along : ∀ cd, clsIn K C = some cd → alongIn K "__init__" ((cd.mro.dropWhile (· != .ref C)).drop 1) = some (some (.builtin "ValueError.__init__"))
  hB : subIn K (.ref C) (.type "ValueError") = some true
  hno : findIn K (.ref C) attr = some none
  ho : nsIn K cStatics "thirdparty.any" = some none
  top : (P.main.scope.names.lookup ("super" : Str)).isSome = false
  par : par ≠ "self" ∧ (par == ("__debug__" : Str)) = false
section
variable {prog : Program} {w : World} {A : Around} {E : Value → Shared → Prop} {R : Result → Shared → Prop} {h : Heap} {g : Array GenState} {d : Drawn} {t : Nat} {os : OsState} {K : Frag} {C fI e t0 : Addr} {par attr : Str} {v : Value}
theorem mw_check {nm q : Str} {N : Addr} {bs bm : List Value} {hdct : Bool} {sn : List Str} {sub : List Value} {ab : Bool} {col : Option Bool} {dd : Option Addr} {k0 k1 k2 k3 k5 : Option Value} {rest : List Value} {Q : Value → Shared → Prop} {u : Addr}
    (hC : h.get? C = some (excClassObj nm q C N bs bm hdct sn sub ab col dd k0 k1 k2 k3 k5 "ValueError.__new__")) (he : h.get? e = some (HandSPX.excO C t0)) (hu : h.get? u = some (kxs_mw "ValueError.__init__" e)) (hz : rest.length ≤ sizeLine)
    (hq : ∀ h' t1, (∀ b o, b ≠ e → h.get? b = some o → h'.get? b = some o) → h'.get? e = some (HandSPX.excO C t1) → Q .none ⟨h', g, d, t, os⟩) : wpAny (model prog w) A (call (.ref u) rest) Q E ⟨h, g, d, t, os⟩ := by
  have FB := PySem.F.excBase_ValueError
  refine wpAny_call
          (codeAny_of_tree ?_)
  show wpAny _ A.in1 (callAny
          (.ref u) ⟨rest, []⟩) _ _ _
  simp only [callAny]
  refine wpAny_bind
          (wpAny_load hu ?_)
  simp only [kxs_mw, (by decide : (Value.type "method-wrapper" == Value.type "method" || Value.type "method-wrapper" == Value.type "builtin_function_or_method" || Value.type "method-wrapper" == Value.type "method-wrapper") = true), if_true]
  refine KFB.if_so
          (by decide) ?_
  refine wpAny_bind (check_bound_init
          FB.toExcCallFacts hC he rfl ?_)
  refine wpAny_bind
          (wpAny_pure (wpAny_pure ?_))
  refine ⟨Code.quiet_builtin _ (by decide +kernel), codeAny_builtin FB.initEntry ?_⟩
  rw [Around.under_plainId FB.init.plain _]
  wp_walk
  refine hq _ h.objs.size (fun b o hb ho₀ => ?_) ?_
  · rw [Heap.get?_update_other _ _ (Ne.symm hb)]; exact Heap.get?_push_of_some _ ho₀
  · rw [Heap.get?_update_self _ (Heap.get?_push_of_some _ he) rfl]; rfl
/-- the globals and built-ins of the heap -/
structure GlbH (mg : Str → Option Value) (h : Heap) : Prop where
  g : h.Ns mainGlobals mg
  b : ∃ mb, h.Ns builtinsNs mb ∧ ∀ x : Str, x ≠ "__name__" → mb x = bootBuiltins x
  lim : h.NoLimit
theorem GlbH.keeps {mg : Str → Option Value} {h h' : Heap} (G : GlbH mg h) (k : ∀ b o, h.get? b = some o → h'.get? b = some o) : GlbH mg h' :=
  ⟨G.g.keeps k, let ⟨mb, h1, h2⟩ := G.b; ⟨mb, h1.keeps k, h2⟩, G.lim.keeps k⟩
/-- __init__ of such a class -/
theorem err_initA {mg : Str → Option Value} {args : Args} (ha : args = ⟨[.ref e, v], []⟩ ∨ args = ⟨[.ref e], [(par, v)]⟩) (F : ErrK prog K C fI par attr) (X : K.In h) (G : GlbH mg h) (hroom : A.depth < recursionLimit) (hk : K.lookup e = none) (he : h.get? e = some (HandSPX.excO C t0))
    (hq : ∀ h' t' t1 dx, (∀ b o, b ≠ e → h.get? b = some o → h'.get? b = some o) → h.objs.size ≤ dx → dx ≠ e → h'.get? e = some { cls := .ref C, dict := some dx, data := .fields #[.ref t1, .none, .none, .none, .bool false, .none] } →
      h'.Ns1 dx (fun y => if y = attr then some v else none) → R (.ok (.ret .none)) ⟨h', g, d, t', os⟩) : codeAny (model prog w) A (.call (.ref fI) args) R ⟨h, g, d, t, os⟩ := by
  obtain ⟨oc, od, osl, qual, params, scope, dV, kV, doc, pm, an, ct, cda, cc, text, j, p0, p1, p2, p3, p4, p5, p6, p7, p8, p9, ar, lk, hcd, hbind, hbindK, ⟨c1, d1, vs, s1, file, tf, kc, kv, kf⟩, ⟨c2, d2, s2, kcell⟩, hhead, har, n1, n2, n3, n4, n5, n6, n7, n8, n9⟩ := F.fn
  obtain ⟨nm, q, N₀, bs, bm, sn, sub, ab, col, dd, k0, k1, k2, k3, k5, hC, hbm⟩ := F.T.cls
  have hcl : clsIn K C = some { name := nm, bases := bs, mro := .ref C :: bm, ns := N₀, qualname := q, hasDict := true, slotNames := sn, subclasses := sub, abstract := ab, collection := col, hasDel := false } := by unfold clsIn; rw [hC] <;> rfl
  obtain ⟨np1, np2⟩ := F.par
  refine ks_codeAny_call_defAt (binds := [("self", .ref e), (par, v)]) hroom (X _ _ lk) rfl G.lim (codeRec_of X hcd) rfl (.of_eq (by rcases ha with rfl | rfl; exact hbind [.ref e, v] rfl; exact hbindK (.ref e) v)) n5 (fun y hy => ?_) (fun h1 hns kp => ?_) n7 n8 n6
  · rcases List.mem_cons.mp hy with z | hy
    · rw [z]; exact n3
    · rw [List.mem_singleton.mp hy]; exact n4
  have X1 : K.In h1 := fun b o z => kp _ _ (X b o z)
  have G1 : GlbH mg h1 := G.keeps kp
  have he1 := kp _ _ he
  have mSelf : ([("self", .ref e), (par, v)] : List (Str × Value)).reverse.lookup ("self" : Str) = some (.ref e) := by
    have z : (("self" : Str) == par) = false := by simpa using fun z => np1 z.symm
    simp [List.lookup, z]
  have mPar : ([("self", .ref e), (par, v)] : List (Str × Value)).reverse.lookup par = some v := by simp [List.lookup]
  have hint : interactive (callEnv (ksFn "__init__" qual params (errBody par attr text j p0 p1 p2 p3 p4 p5 p6 p7 p8 p9) scope dV kV doc pm an (.ref cda) ct cc) h.objs.size fI) = false := by
    unfold interactive
    have z : (callEnv (ksFn "__init__" qual params (errBody par attr text j p0 p1 p2 p3 p4 p5 p6 p7 p8 p9) scope dV kV doc pm an (.ref cda) ct cc) h.objs.size fI).scope.kind = .function := n6
    rw [z]; rfl
  refine ks_wpAt_execs_cons (ks_wpAt_Expr_any (ks_wpAt_MethodCall (pl := L2.plainOf (.Call (.Name "super" p0) [] [] p1) (callEnv (ksFn "__init__" qual params (errBody par attr text j p0 p1 p2 p3 p4 p5 p6 p7 p8 p9) scope dV kV doc pm an (.ref cda) ct cc) h.objs.size fI)) ?_ ?_) hint)
  rotate_left
  · rw [arm_eval_Call]
    refine congrArg (bind _) (funext fun ov => congrArg (bind _) (funext fun _ => ?_))
    exact L2.mcall_line rfl n9
  have hD : h1.get? C = some (excClassObj nm q C N₀ bs bm true sn sub ab col dd k0 k1 k2 k3 k5 "ValueError.__new__") := X1 _ _ hC
  refine ks_wpAt_super_base (f := fI) (cc := cda) (ar := ar) n1 n2 (by decide) rfl (X1 _ _ lk) rfl hhead rfl (X1 _ _ kc) rfl kv kf F.top ?_
  obtain ⟨mb, hb1, hb2⟩ := G1.b
  refine ks_loadName_global n6 n1 (loadGlobal_builtin G1.g (mg_none_of X1 G1.g F.sup) hb1 ((hb2 _ (by decide)).trans (by decide +kernel)) ⟨rfl, ?_⟩)
  refine wpAny_loadName_free n6 n2 rfl ⟨_, X1 _ _ kcell, rfl⟩ ?_
  rw [har]
  refine wpAny_loadName_local n6 n3 hns mSelf ?_
  refine ks_wpAny_isType_cls hD rfl ⟨rfl, ?_⟩
  have hmro : mroIn K C (.ref C) = some true := by unfold mroIn; rw [hcl]; simp
  refine ks_wpAny_call_super hD rfl he1 rfl (fun c z => by cases z) (looks_mroIn X1 hmro) (fun h2 e2 k2 => ?_)
  have X2 : K.In h2 := fun b o z => k2 _ _ (X1 b o z)
  have he2 := k2 _ _ he1
  have I2 : InstAt h2 e (HandSPX.excO C t0) C none := ⟨he2, rfl, rfl, trivial⟩
  refine kxs_getMethod kxs_ValueError e2 (looks_opaque X2 F.ho) (l₀ := .ref C :: bm) (fun A Q E s k q => wpAny_bind ((looks_clsIn X2 hcl) A _ E s k (wpAny_pure q))) rfl X2 (F.along _ hcl) (I2.type.andThen (looks_subIn X2 F.hB)) (ks_ne X2 I2 hcl) (by decide) ?_
  have k3 : ∀ b o, h2.get? b = some o → (h2.push (kxs_mw "ValueError.__init__" e)).get? b = some o := fun b o z => Heap.get?_push_of_some _ z
  have hmw : (h2.push (kxs_mw "ValueError.__init__" e)).get? h2.objs.size = some (kxs_mw "ValueError.__init__" e) := Heap.get?_push_size _ rfl
  refine kxs_callWith (i := "ValueError.__init__") (x := e) rfl (evalArgs_plain ?_)
  refine Calls.spliced_cons (wpAny_Constant_str (k := j) (pos := p3) ?_)
  refine Calls.spliced_nil ⟨hmw, mw_check (X2.keeps k3 _ _ hC) (k3 _ _ he2) hmw (by show 1 ≤ sizeLine; rw [sizeLine_eq]; decide) fun h4 t1 k4 he4 => ?_⟩
  have K4 : ∀ b o, b ≠ e → h1.get? b = some o → h4.get? b = some o := fun b o z y => k4 b o z (k3 _ _ (k2 _ _ y))
  have eL : h.objs.size ≠ e := Nat.ne_of_gt (Heap.lt_size he)
  have hns4 : h4.Ns h.objs.size (fun y => ([("self", .ref e), (par, v)] : List (Str × Value)).reverse.lookup y) := by
    obtain ⟨o, es, ep, q1, q2⟩ := hns
    exact ⟨o, es, ep, K4 _ _ eL q1, q2⟩
  have X4 : K.In h4 := fun b o z => by
    by_cases hb : b = e
    · rw [hb] at z
      rw [hk] at z
      cases z
    · exact K4 b o hb (X1 b o z)
  refine ks_wpAt_execs_cons (wpAt_of_wpAny (plainObj_wpAny_Assign_Attribute ?_))
  refine wpAny_Name (wpAny_loadName_local n6 n4 hns4 mPar ?_) np2
  refine wpAny_Name (wpAny_loadName_local n6 n3 hns4 mSelf ?_) (by decide)
  refine set_plain X4 (ox := HandSPX.excO C t1) (od := none) ⟨he4, rfl, rfl, trivial⟩ F.T.sa (HandSPX.exc_osa X4 he4 hcl hbm rfl F.hno fun h5 tk5 dx k5 dn dne hx hn => ?_)
  refine wpAt_of_wpAny (wpAny_execs_nil ?_)
  refine hq h5 tk5 t1 dx (fun b o hb z => k5 b o hb (K4 b o hb (kp _ _ z))) ?_ dne hx hn
  obtain ⟨o, es, ep, q1, q2⟩ := hns4
  exact Nat.le_of_lt (Nat.lt_of_lt_of_le (Heap.lt_size q1) dn)
theorem err_init {mg : Str → Option Value} (F : ErrK prog K C fI par attr) (X : K.In h) (G : GlbH mg h) (hroom : A.depth < recursionLimit) (hk : K.lookup e = none) (he : h.get? e = some (HandSPX.excO C t0))
    (hq : ∀ h' t' t1 dx, (∀ b o, b ≠ e → h.get? b = some o → h'.get? b = some o) → h.objs.size ≤ dx → dx ≠ e → h'.get? e = some { cls := .ref C, dict := some dx, data := .fields #[.ref t1, .none, .none, .none, .bool false, .none] } →
      h'.Ns1 dx (fun y => if y = attr then some v else none) → R (.ok (.ret .none)) ⟨h', g, d, t', os⟩) : codeAny (model prog w) A (.call (.ref fI) ⟨[.ref e, v], []⟩) R ⟨h, g, d, t, os⟩ := err_initA (.inl rfl) F X G hroom hk he hq
end
open L2
/-- C(e), C such a class -/
def tErr (C : Addr) (attr : Str) (te : TE) : L2.St → Hp → XK → Prop := fun σ H Q => tCons te tNil σ H fun vs H1 => ∃ v, vs = [v] ∧ ∀ d, H1 d = none → Q (.ref C) (some d) (L2.upd H1 d (.xd [(attr, v)]))
theorem glb_of {X : Cx} {pins : List (Addr × Obj)} {σ : L2.St} {H : Hp} {s : Shared} (I : Inv X pins σ H s) : GlbH X.mg s.heap :=
  ⟨I.mod.glob.keeps I.bk, let ⟨mb, h1, h2⟩ := I.mod.blt; ⟨mb, h1.keeps I.bk, h2⟩, I.nolimit⟩
theorem pmk_err {X : Cx} {C fI : Addr} {par attr x : Str} {k : Nat} {e : Expr} {te : TE} {p pos : Pos} (F : ErrK X.prog X.K C fI par attr) (hr : Room (k + 1) X.A) (hg : Gl X x) (hm : X.mg x = some (.ref C)) (ha : PE X e te)
    (hdb : (x == ("__debug__" : Str)) = false := by decide) (he : starEach [e] X.env = (false, eval e X.env) :: starEach [] X.env := by rfl) (hpl : (backTo pos (starEach ([] : List Expr) X.env)).any (·.1) = false := by rfl) :
    PMk X (.Call (.Name x p) [e] [] pos) (tErr C attr te) := by
  intro pins s σ H Q I₀ h
  obtain ⟨nm, q, N, bs, bm, sn, sub, ab, col, dd, k0, k1, k2, k3, k5, hC, hbm⟩ := F.T.cls
  refine wpAny_Call_Name_kw (ld_glob I₀ hg hm ?_ hdb)
  refine PySem.W.callWith_K (h₀ := X.base) I₀.ok.mod.kin F.T.kC (thn ((pa_cons ha pa_nil he).run pos pins s σ H _ I₀ h) fun us s1 ⟨vs, H1, I1, r1, v, ev, q1⟩ => ⟨I1.kIn, ?_⟩) he hpl
  subst ev
  obtain ⟨u₀, rfl, ru⟩ := vals1 r1
  show wpAny _ _ (call (.ref C) [u₀]) _ _ _
  obtain ⟨hp, g₀, dr, tk, os⟩ := s1
  have kk : ∀ b o, hp.get? b = some o → ((hp.push (PySem.W.kdv_tup [u₀])).push (HandSPX.excO C hp.objs.size)).get? b = some o := fun b o z => Heap.get?_push_of_some _ (Heap.get?_push_of_some _ z)
  have hget : ((hp.push (PySem.W.kdv_tup [u₀])).push (HandSPX.excO C hp.objs.size)).get? (hp.objs.size + 1) = some (HandSPX.excO C hp.objs.size) := by heap_get
  have hK : X.K.lookup (hp.objs.size + 1) = none := by
    cases z : X.K.lookup (hp.objs.size + 1) with
    | none => rfl
    | some o => exact absurd (Heap.lt_size (I1.kIn _ _ z)) (by show ¬ hp.objs.size + 1 < hp.objs.size; omega)
  have rm : (X.A.under (.builtin "type.__call__" ⟨.ref C :: [u₀], []⟩)).depth < recursionLimit := (hr.make C [u₀] []).depth
  refine wpAny_call (HandSPX.call_own PySem.F.excBase_ValueError (fun Y => HandSPX.refsVE_contains Y bm hbm) (I1.kIn _ _ hC) (looks_findIn I1.kIn F.iC) (fun self => bind_fn I1.kIn self F.tI) (by show 1 ≤ sizeLine; rw [sizeLine_eq]; decide)
    (err_init F (I1.kIn.keeps kk) ((glb_of I1).keeps kk) rm hK hget fun h' t' t1 dx k dn dne hx hn => ?_))
  obtain ⟨G, g1, g2⟩ := restrict h' fun b => decide (b ≠ hp.objs.size + 1)
  have gk : ∀ b, b ≠ hp.objs.size + 1 → G.get? b = h'.get? b := fun b hb => g1 b (decide_eq_true hb)
  have ge : G.get? (hp.objs.size + 1) = none := g2 _ (by simp)
  have nha : ∀ {b : Addr} {o : Obj}, hp.get? b = some o → b ≠ hp.objs.size + 1 := fun {b o} z => Nat.ne_of_lt (Nat.lt_succ_of_lt (Heap.lt_size z))
  have kG : ∀ b o, hp.get? b = some o → G.get? b = some o := fun b o z => (gk b (nha z)).trans (k b o (nha z) (kk b o z))
  have ld : hp.objs.size ≤ dx := Nat.le_trans (by rw [Heap.size_push, Heap.size_push]; omega) dn
  have hd1 : H1 dx = none := I1.hok.fresh ld
  have J : Inv X pins σ (L2.upd H1 dx (.xd [(attr, v)])) ⟨G, g₀, dr, t', os⟩ := I1.laid (t' := t') (h' := G) kG ld (by
    refine ⟨_, hn.at fun o z => (gk _ dne).trans z, fun y => ?_⟩
    by_cases hy : y = attr
    · subst hy
      rw [if_pos rfl]
      have z : ([(y, v)] : List (Str × V)).lookup y = some v := by simp [List.lookup]
      rw [z]; exact ru
    · have z : (y == attr) = false := by simpa using hy
      rw [if_neg hy]
      simp [List.lookup, z, RelO])
  refine ⟨rfl, hp.objs.size + 1, _, _, ⟨G, g₀, dr, t', os⟩, _, .ref C, some dx, rfl, J, fun b o z => ?_, ge, hx, ⟨rfl, rfl⟩, rfl, rfl, ?_, rfl, I1.bare, raises_own F.T.exC F.T.tyC, q1 dx hd1⟩
  · by_cases hb : b = hp.objs.size + 1
    · rw [hb, ge] at z; cases z
    · exact (gk b hb).symm.trans z
  · rw [upd_ne (Ne.symm dne)]; exact I1.hok.fresh (Nat.le_succ _)
end TP
set_option Elab.async false
set_option linter.all false
set_option maxRecDepth 100000
set_option maxHeartbeats 4001234
/-! Tree programs: raise; try .. except x as n with the exception known behind it. -/
namespace TP
open PySem L2 PyProof.Rows PySem.Spec
section
variable {X : Cx} {ps : List (Addr × Obj)} {σ : L2.St} {H : Hp} {sI s : Shared} {a : Addr} {o : HO}
/-- an object that came after the state sI is known from now on -/
theorem inv_track (I0 : Inv X ps σ H sI) (n0 : sI.heap.get? a = none) (nf : a ∉ X.fs) (hex : X.ex = []) (I : Inv X ps σ H s) (new : ObjOk X.prog X.w (L2.upd H a o) s.heap a o) (na : H a = none) : Inv X ps σ (L2.upd H a o) s := by
  have ne : ∀ {b u}, H b = some u → b ≠ a := fun {b u} e₀ => ne_of_none e₀ na
  have nL : X.env.locals ≠ a := fun z => by
    obtain ⟨m, ⟨ob, es, ep, e₀, _⟩, _⟩ := I0.loc
    rw [z, n0] at e₀; cases e₀
  refine ⟨I.ok, I.os, I.bare, ⟨I.base.keep, I.base.slot, fun b ob e₀ n hx => ?_, I.base.there, fun b xs e₀ => ?_, fun b ob xs e₀ => ?_, fun b ps e₀ => ?_⟩, I.loc, I.cell, ?_, fun y c e₀ => ?_, fun p hp => ?_, ?_, I.len⟩
  · have kb : b ≠ a := fun z => by
      obtain ⟨o', q⟩ := I0.base.there b ob e₀ (by rw [hex]; simp)
      rw [z, n0] at q; cases q
    rw [upd_ne kb]; exact I.base.free b ob e₀ n hx
  · have q := I.base.tups b xs e₀
    rw [upd_ne (ne q)]; exact q
  · have q := I.base.frzs b ob xs e₀
    rw [upd_ne (ne q)]; exact q
  · obtain ⟨more, q⟩ := I.base.tbls b ps e₀
    exact ⟨more, by rw [upd_ne (ne q)]; exact q⟩
  · rw [upd_ne nL]; exact I.free
  · have kb : c ≠ a := fun z => by
      obtain ⟨v, ob, q, _⟩ := I0.cell y c e₀
      rw [z, n0] at q; cases q
    rw [upd_ne kb]; exact I.freeC y c e₀
  · obtain ⟨e1, e2, e3⟩ := I.pin p hp
    have kb : p.1 ≠ a := fun z => by
      have q := (I0.pin p hp).1
      rw [z, n0] at q; cases q
    exact ⟨e1, by rw [upd_ne kb]; exact e2, e3⟩
  · intro b u e₀
    by_cases hbody : b = a
    · subst hbody; rw [upd_same] at e₀; cases e₀; exact new
    · rw [upd_ne hbody] at e₀
      exact (I.hok b u e₀).stay (fun d v _ q => q) (fun d q => by rw [upd_ne (ne q)]; exact q) fun d xs q => by rw [upd_ne (ne q)]; exact q
theorem inv_suite0 (I : Inv X ps σ H s) : Inv (X.suite a (X.pn ++ ps)) [] σ H s :=
  ⟨I.ok.suite a _, I.os, I.bare, I.base, I.loc, I.cell, I.free, I.freeC, fun p hp => I.pin p (by have hp' : p ∈ (X.pn ++ ps) ++ [] := hp; rw [List.append_nil] at hp'; exact hp'), I.hok, I.len⟩
theorem inv_unsuite0 {pn' : List (Addr × Obj)} (I : Inv (X.suite a (X.pn ++ ps)) pn' σ H s) (ok : X.Ok) : Inv X ps σ H s :=
  ⟨ok, I.os, I.bare, I.base, I.loc, I.cell, I.free, I.freeC, fun p₀ hp => I.pin p₀ (List.mem_append_left _ hp), I.hok, I.len⟩
end
/-- the clause's wish: the exception is of a kind that it takes, and is known in the suite and behind it -/
def wTrk (K : PySem.W.Frag) (n : Nat) (c : Value) (i : Nat) (ts : TS) (D : Ends) : WX := fun cls d σ H => PySem.W.exmOne K cls c = some true ∧ (σ.length = n → ∀ a, H a = none →
  ts { nx := fun σ' H' => D.nx (σ'.set i none) H', rt := D.rt, bk := fun σ' H' => D.bk (σ'.set i none) H', ct := fun σ' H' => D.ct (σ'.set i none) H' } (σ.set i (some (.ref a))) (L2.upd H a (XcO cls d a)))
section
variable {X : Cx} {x n : Str} {c : Value} {i : Nat} {body suite : List Stmt} {b₀ : Stmt} {np pos pos' : Pos} {tb : WX → TS} {ts : TS}
theorem ps_try_trk (hs : X.stack = X.env :: X.outer) (hf : X.env.frame = some X.env.locals) (hex : X.ex = []) (hN : X.N.Nodup) (hi : X.N[i]? = some n) (hln : X.env.kindOf n = some .local) (hcls : Names X x c)
    (hbody : ∀ (W : WX) (pn : List (Addr × Obj)) (xe : Value → Shared → Prop), Takes (X.tr pn xe) W → PSs (X.tr pn xe) body (tb W))
    (hsu : ∀ (a : Addr) (pn : List (Addr × Obj)), PSs (X.suite a pn) (b₀ :: suite) ts) :
    PS X (.Try body [.ExceptHandler (some (.Name x np)) (some n) (b₀ :: suite) pos'] [] [] pos) (fun D σ H => tb (wTrk X.K X.N.length c i ts D) D σ H) := by
  refine ⟨fun ps s σ H D I h => ?_⟩
  have ok := I.ok
  have fr : X.A.frames = some (X.env :: X.outer) := by rw [ok.frames, hs]
  have hl : Loc X.env.scope n := .inl hln
  refine wpAny_Try_except ?_
  refine wpAny_mono ((hbody (wTrk X.K X.N.length c i ts D) (X.pn ++ ps) (fun e₀ t1 => wpAny (model X.prog X.w) X.A (noteFrame e₀ X.env) (fun _ t2 => wpAny (model X.prog X.w) X.A (setFlight e₀ none)
    (fun _ t3 => wpAny (model X.prog X.w) X.A (handleBy e₀ X.env [.ExceptHandler (some (.Name x np)) (some n) (b₀ :: suite) pos']) (SP X ps D) X.xe t3) X.xe t2) X.xe t1)
    (fun u s' xx => ?_)).run [] s σ H D (I.toTry _) h) (fun f s1 sp => ?_) (fun e₀ s1 he => he)
  · obtain ⟨a, B, sI, pins', σ', H', cls, d, rfl, Y', kb, ut, sk, na, os, ag, hb1, hyes⟩ := xx
    have J : Inv X ps σ' H' sI := Y'.ofTry ok
    have sky' : Sky B (X.env :: X.outer) a (Zc cls d) X.env.locals s'.heap := by rw [← hs]; exact sk
    show wpAny (model X.prog X.w) X.A
            (noteFrame (.ref a) X.env) _ _ _
    have nB : B.get? a = none := by
      rcases sky' with ⟨_, q₀, _⟩ | ⟨_, q₀, _⟩ | ⟨_, q₀, _⟩ <;> exact q₀
    refine Sky.land Zc.steady fr hf sky' fun h3 w3 v3 => ?_
    have L3 : Inv X ps σ' H' { s' with heap := h3 } := J.landed kb w3.1 (ut.trans v3) os ag
    obtain ⟨oe3, vs3, e3, z3, d3⟩ := w3.there
    have nfr : a ∉ frs (X.env :: X.outer) := fun hm => by
      obtain ⟨_, o', e', hnf⟩ := w3.2.2.1.mem hm
      rw [e3] at e'; cases e'
      exact hnf _ d3
    have nsI : sI.heap.get? a = none := by
      cases q₀ : sI.heap.get? a with
      | none => rfl
      | some oq =>
        have z := kb a oq q₀ (by rw [hs]; exact nfr)
        rw [nB] at z; cases z
    have nf1 : a ∉ X.fs := fun hm => by
      obtain ⟨e₀, he, q₀⟩ := List.mem_filterMap.mp hm
      exact nfr (List.mem_filterMap.mpr ⟨e₀, List.mem_cons_of_mem _ he, q₀⟩)
    refine wpAny_handleBy_cons (codeAny_handlers_test ?_) (by intro q₀; cases q₀)
    have lt1 : PySem.W.Looks (model X.prog X.w) h3 (typeOf (.ref a)) cls := fun A Q E s k q₀ => wpAny_typeOf_ref (k _ _ e3) (by rw [z3.1]; exact q₀)
    have lm1 := PySem.W.exm_one (M := model X.prog X.w) (L3.kIn) lt1 hb1
    have test : ∀ {Q : Value → Shared → Prop} {E : Value → Shared → Prop}, Q c { s' with heap := h3 } → wpAny (model X.prog X.w) (X.A.mark (some (.ref a))) (eval (.Name x np) X.env) Q E { s' with heap := h3 } := fun {Q E} q₀ => by
      obtain ⟨hg, hdbg, hm | ⟨hm, hv, hnn⟩⟩ := hcls
      · exact ld_glob (X := X.suite a (X.pn ++ ps)) (inv_suite0 L3) hg hm q₀ hdbg
      · exact ld_blt (X := X.suite a (X.pn ++ ps)) (inv_suite0 L3) hg hm hv q₀ hnn hdbg
    refine test (lm1.here ?_)
    refine
            codeAny_handlers_suite_as ?_
    refine HandSPX.lands_againZ w3 fun h4 w4 v4 => ?_
    have L4 : Inv X ps σ' H' { s' with heap := h4 } := J.landed kb w4.1 ((ut.trans v3).trans v4) os ag
    obtain ⟨oe4, vs4, e4, z4, d4⟩ := w4.there
    have JT : Inv X ps σ' (L2.upd H' a (XcO cls d a)) { s' with heap := h4 } := inv_track J nsI nf1 hex L4 ⟨⟨oe4, vs4, e4, z4, d4⟩, ⟨_, e4⟩, fun h1 h2 ⟨oe, vs, q1, q2, q3⟩ k => ⟨oe, vs, k _ q1, q2, q3⟩⟩ na
    refine store_ok (X := X.suite a (X.pn ++ ps)) (v := .ref a) (inv_suite0 JT) hN hi hl rfl (fun s5 Z5 => ?_) (.inr hln)
    refine wpAny_mono ((hsu a (X.pn ++ ps)).run [] s5 _ _ _ Z5 (hyes J.len a na)) (fun f t6 sp => ?_) (fun _ _ z => False.elim z)
    have fin : ∀ {τ6 : L2.St} {G6 : Hp} {Q : Shared → Prop}, Inv (X.suite a (X.pn ++ ps)) [] τ6 G6 t6 → (∀ t7, Inv X ps (τ6.set i none) G6 t7 → Q t7) →
      wpAny (model X.prog X.w) X.A (do bindName X.env n .none; unbindBehindTheSuite X.env n pos') (fun _ t7 => Q t7) X.xe t6 := fun {τ6 G6 Q} Z6 hq => gone_ok (inv_unsuite0 Z6 ok) hN hi hln hq
    cases f with
    | next =>
      obtain ⟨τ6, G6, Z6, y6⟩ := sp
      exact fin Z6 fun t7 Z7 => ⟨_, _, Z7, y6⟩
    | brk =>
      obtain ⟨τ6, G6, Z6, y6⟩ := sp
      exact fin Z6 fun t7 Z7 => ⟨_, _, Z7, y6⟩
    | cont =>
      obtain ⟨τ6, G6, Z6, y6⟩ := sp
      exact fin Z6 fun t7 Z7 => ⟨_, _, Z7, y6⟩
    | ret u =>
      obtain ⟨v6, τ6, G6, Z6, r6, y6⟩ := sp
      exact fin Z6 fun t7 Z7 => ⟨_, _, _, Z7, r6, y6⟩
  · cases f with
    | next =>
      obtain ⟨σ', H', Y', q₀⟩ := sp
      exact wpAny_execs_nil ⟨σ', H', Y'.ofTry ok, q₀⟩
    | brk =>
      obtain ⟨σ', H', Y', q₀⟩ := sp
      exact ⟨σ', H', Y'.ofTry ok, q₀⟩
    | cont =>
      obtain ⟨σ', H', Y', q₀⟩ := sp
      exact ⟨σ', H', Y'.ofTry ok, q₀⟩
    | ret u =>
      obtain ⟨v, σ', H', Y', r, q₀⟩ := sp
      exact ⟨v, σ', H', Y'.ofTry ok, r, q₀⟩
end
end TP
set_option Elab.async false
set_option linter.all false
set_option maxRecDepth 100000
set_option maxHeartbeats 4001234
/-! Tree programs: a lambda handed to a def that catches. -/
namespace TP
open PySem L2 PyProof.Rows PySem.Spec LamX
/-- all but P stays -/
def ExtP (P : Addr) (H H' : Hp) : Prop := ∀ b o, b ≠ P → H b = some o → H' b = some o
section
variable {X : Cx} {pn0 : List (Addr × Obj)} {σ : L2.St} {H : Hp} {s : Shared}
theorem lam_make3 {T : List (Addr × Str)} {c P : Addr} {params : Arguments} {body : Expr} {scope : Scope} {pos : Pos} {E : Value → Shared → Prop} {Q : Value → Shared → Prop} (I : Inv X pn0 σ H s) (TB : TabB X.base X.mg c P) (hcode : X.env.code = .ref c)
    (hm : (P, X.env.qual ++ "<lambda>") ∈ T) (hu : ∀ p ∈ T, p.1 = P → p.2 = X.env.qual ++ "<lambda>") (tabs : Tabs T H) (hdef : defaultsOf params X.env = ([], [])) (hfree : ∀ y ∈ scope.names, y.2 = .free → ∃ c, X.env.cells.lookup y.1 = some c)
    (h : ∀ (f c' : Addr) (pm cv2 : Value) (H1 : Hp) (s' : Shared), Inv X pn0 σ H1 s' → ExtP P H H1 → Tabs T H1 → s'.heap.get? f = some (PySem.W.kla_obj "<lambda>" (X.env.qual ++ "<lambda>") params body scope (cloFrom X.env.cells scope.names []) pm c' cv2) →
      H1 f = none → f ∉ frs X.stack → H1 c' = some (CodeO c' (X.env.qual ++ "<lambda>")) → Q (.ref f) s') : wpAny (model X.prog X.w) X.A (eval (.Lambda params body scope pos) X.env) Q E s := by
  obtain ⟨qs, hat, ht, ha⟩ := tabs _ hm
  refine PySem.W.kla_eval
          hdef ?_
  have bp : s.heap.BuiltinsAt X.mg P := TB.bm.keeps I.bk
  have hp' : s.heap.get? P = some { cls := .none, data := .fields qs } := I.hok P _ hat
  have nfr : ∀ f, s.heap.objs.size ≤ f → f ∉ frs X.stack := fun f hf₀ z₀ => by
    rcases List.mem_cons.mp (I.stkSub _ z₀) with e₀ | e₀
    · have h1 := I.lt
      rw [← e₀] at h1
      exact Nat.lt_irrefl _ (Nat.lt_of_lt_of_le h1 hf₀)
    · exact I.nofs hf₀ e₀
  cases hco1 : codeAmong pos qs.toList with
  | some cv =>
    obtain ⟨c', e₀, hco⟩ := ha pos cv hco1
    subst e₀
    refine PySem.W.kla_makeFunctionHit (mg := X.mg) (c := c) (P := P) (ps := qs) (closure_ok hfree) I.ok.glob (I.mod.glob.keeps I.bk) hcode (TB.code.keeps I.bk) hp' ht hco1 bp fun cv2 h' tk1 hx1 sz => ?_
    have J1 : Inv X pn0 σ H { s with heap := h'.push (PySem.W.kla_obj "<lambda>" (X.env.qual ++ "<lambda>") params body scope (cloFrom X.env.cells scope.names []) ((X.mg "__name__").getD .none) c' cv2), toks := tk1 } := I.kept fun b o e₀ => Heap.get?_push_of_some _ (hx1 b o e₀)
    exact h h'.objs.size c' ((X.mg "__name__").getD .none) cv2 H _ J1 (fun _ _ _ e₀ => e₀) tabs (Heap.get?_push_size _ rfl) (I.hok.fresh sz) (nfr _ sz) hco
  | none =>
    refine PySem.W.kla_makeFunction (mg := X.mg) (c := c) (P := P) (ps := qs) (closure_ok hfree) I.ok.glob (I.mod.glob.keeps I.bk) hcode (TB.code.keeps I.bk) hp' ht hco1 TB.gP bp fun c' cv2 h' tk1 hx1 ge1 lt1 hrec htb => ?_
    obtain ⟨c2, oc, vs, t, e2₀, hoc1, hd, hv⟩ := hrec
    cases e2₀
    have sz : s.heap.objs.size ≤ h'.objs.size := Nat.le_trans ge1 (Nat.le_of_lt lt1)
    have nc : H c' = none := I.hok.fresh ge1
    have J1 := inv_table (t' := tk1) (more := #[rawInt pos.line, rawInt pos.col, .ref c']) (h' := h'.push (PySem.W.kla_obj "<lambda>" (X.env.qual ++ "<lambda>") params body scope (cloFrom X.env.cells scope.names []) ((X.mg "__name__").getD .none) c' cv2)) I hat
      (fun b o hb e₀ => Heap.get?_push_of_some _ (hx1 b o hb e₀)) (Heap.get?_push_of_some _ htb) ge1 ⟨oc, vs, t, Heap.get?_push_of_some _ hoc1, hd, hv⟩
    have he1 : ExtP P H (L2.upd (L2.upd H P (.tbl (qs ++ #[rawInt pos.line, rawInt pos.col, .ref c']))) c' (CodeO c' (X.env.qual ++ "<lambda>"))) := fun b o n e₀ => by
      rw [upd_ne (ne_of_none e₀ nc), upd_ne n]; exact e₀
    have nP : ∀ {b q}, H b = some (CodeO b q) → b ≠ P := fun {b q} e₀ z₀ => by
      rw [z₀, hat] at e₀
      unfold CodeO at e₀
      cases e₀
    have el : (qs ++ #[rawInt pos.line, rawInt pos.col, .ref c']).toList = qs.toList ++ [rawInt pos.line, rawInt pos.col, .ref c'] := by simp
    refine h h'.objs.size c' ((X.mg "__name__").getD .none) cv2 _ _ J1 he1 (fun p hp => ?_) (Heap.get?_push_size _ rfl) ?_ (nfr _ sz) upd_same
    · by_cases hb : p.1 = P
      · rw [hu p hp hb, hb]
        refine ⟨_, by rw [upd_ne (ne_of_none hat nc), upd_same], by rw [el]; exact PySem.TriplesOk_snoc _ _ _ _ ht, fun p' cv hcv => ?_⟩
        rw [el] at hcv
        rcases among_app _ ht hcv with z₀ | z₀
        · obtain ⟨c0, e1, e2₀⟩ := ha p' cv z₀
          exact ⟨c0, e1, he1 _ _ (nP e2₀) e2₀⟩
        · exact ⟨c', z₀, upd_same⟩
      · obtain ⟨qs', a1, a2, a3⟩ := tabs p hp
        refine ⟨qs', he1 _ _ hb a1, a2, fun p' cv hcv => ?_⟩
        obtain ⟨c0, e1, e2₀⟩ := a3 p' cv hcv
        exact ⟨c0, e1, he1 _ _ (nP e2₀) e2₀⟩
    · have k1 : h'.objs.size ≠ c' := Nat.ne_of_gt lt1
      have k2 : h'.objs.size ≠ P := Nat.ne_of_gt (Nat.lt_of_lt_of_le (Heap.lt_size hp') sz)
      rw [upd_ne k1, upd_ne k2]
      exact I.hok.fresh sz
end
/-- the reading of x(lambda: ..) -/
def tLam3 (T : List (Addr × Str)) (P : Addr) (Tr : (XK → Hp → VK → Prop) → Hp → VK → Prop) (t : XK → TE) : TE := fun σ H Q => Tabs T H ∧ ∀ H1, ExtP P H H1 → Tabs T H1 → Tr (fun E H' Q' => t E σ H' Q') H1 Q
section
variable {X : Cx}
theorem pe_lam3 {T : List (Addr × Str)} {Tr : (XK → Hp → VK → Prop) → Hp → VK → Prop} {x a : Str} {g c P : Addr} {k : Nat} {pr : Arguments} {bd : List Stmt} {sc : Scope} {dV kV doc pm cdv ct oc : Value} {an od : Option Addr} {osl : Array (Option Value)} {Nm : List Str}
    {params : Arguments} {body : Expr} {scope : Scope} {t : XK → TE} {p lpos pos : Pos}
            (hg : Gl X x) (hm : X.mg x = some (.ref g)) (hk : PySem.W.keepIn X.K (.ref g) = true)
    (lkp : X.K.lookup g = some ⟨oc, od, .func (PySem.W.fnOf x x pr bd sc dV kV doc pm an cdv ct), osl⟩) (hcg : PySem.W.codeIn X.K cdv x = true) (hb : L2.Binds X.K (PySem.W.fnOf x x pr bd sc dV kV doc pm an cdv ct) [a] []) (Sg : FnScope Nm [a] sc) (hNg : Nm[0]? = some a) (hva : Vis sc a)
    (hG : GivesTo X Nm x sc g cdv bd a (X.env.qual ++ "<lambda>") Tr) (TB : TabB X.base X.mg c P) (hcode : X.env.code = .ref c) (hmT : (P, X.env.qual ++ "<lambda>") ∈ T) (hu : ∀ p ∈ T, p.1 = P → p.2 = X.env.qual ++ "<lambda>") (hr : Room (k + 2) X.A) (L : LamS X.env.scope scope)
    (hdef : defaultsOf params X.env = ([], [])) (hbind : ∀ (q : Str) (cl : List (Str × Addr)) (pm cv cv2 : Value), bindArgs (PySem.W.kla_fn "<lambda>" q params body scope cl pm cv cv2) ⟨[], []⟩ = pure [])
    (hbd : ∀ (A : Around) (outer : List Env) (s : Shared) (H : Hp) (E : XK) (f c' : Addr), Room k (A.deeper (lamEnv X scope s.heap.objs.size f c')) → PE (lamCx X A outer s H E scope f c') body (t E))
    (hdb : (x == ("__debug__" : Str)) = false) (hd : (a == ("__debug__" : Str)) = false) (hcd : (a == ("__classdict__" : Str)) = false) : PE X (.Call (.Name x p) [.Lambda params body scope lpos] [] pos) (tLam3 T P Tr t) := by
  refine ⟨fun pn0 s σ H Q I₀ h => ?_⟩
  obtain ⟨tabs, h⟩ := h
  refine wpAny_Call_Name_kw (ld_glob I₀ hg hm ?_ hdb)
  refine PySem.W.callWith_K (h₀ := X.base) I₀.ok.mod.kin hk ?_ (by rfl) (by rfl)
  show wpAny _ _ (spliced ((false, eval (.Lambda params body
          scope lpos) X.env) :: backTo pos (starEach [] X.env))) _ _ s
  refine Calls.spliced_cons (lam_make3 I₀ TB hcode hmT hu tabs hdef (L.has I₀.ok) fun f c' pm' cv2 H1 s' J1 eN T1 hf hfn hfr hco => ?_)
  refine Calls.spliced_nil ⟨J1.kIn, ?_⟩
  have rcall : codeAny (model X.prog X.w) X.A (.call (.ref g) ⟨[.ref f], []⟩) (CR C8.CX0 X.stack X.prog X.w H1 s' Q C8.E0) s' := by
    refine run_ofS (N := Nm) (ps := [a]) (us := [.ref f]) (vs := [.ref f]) lkp hcg Sg hr J1.env0 (hb s' [.ref f] J1.kIn rfl) (.cons rfl .nil) rfl fun hr' => ?_
    obtain ⟨t', ht', hq'⟩ := hG f c' s' H1 Q (fun E H' Q' => t E σ H' Q') (fun W pn xe E p1 p2 tk1 hW => pe_act (i := 0) J1 L hf hfn hfr (hbind _ _ _ _ _) tk1 hW hr' (fun A outer s H hr2 => hbd A outer s H E f c' hr2) hNg hva hd hcd) hco (h H1 eN T1)
    exact ⟨t', ht'.nox, hq'⟩
  refine wpAny_call (codeAny_mono rcall fun r s2 hz => ?_)
  cases r with
  | error e => exact (show False from hz).elim
  | ok fl =>
    cases fl with
    | ret u => exact J1.after hz
    | next => exact False.elim hz
    | brk => exact False.elim hz
    | cont => exact False.elim hz
end
end TP
set_option Elab.async false
set_option linter.all false
set_option maxRecDepth 100000
set_option maxHeartbeats 4001234
/-! Tree programs: raise, catching. -/
namespace TP
open PySem L2 PyProof.Rows PySem.Spec LamX
section
variable {K : PySem.W.Frag} {mg : Str → Option Value} {T : List (Addr × Str)} {E : XK} {B : Bs} {Φ Φ' H H' : Hp} {σ : L2.St} {ρ : S} {Q Q' : VK}
/-- behind the making of a lambda -/
theorem SOk.lam {P : Addr} {q : Str} (s : SOk K mg T B Φ H σ ρ) (hp : (P, q) ∈ T) (e : ExtP P H H') (t : Tabs T H') : SOk K mg T B Φ H' σ ρ := by
  obtain ⟨b, len, nd, x⟩ := s
  have nP : ∀ a, a = P → H' a ≠ none := fun a z => by
    obtain ⟨ps, w, _⟩ := t _ hp
    rw [z]; exact not_none w
  have nn : ∀ a, H a ≠ none → H' a ≠ none := fun a w => by
    by_cases z : a = P
    · exact nP a z
    · obtain ⟨o, w⟩ := of_not_none w
      exact not_none (e a o z w)
  have tn := b.tn _ hp
  obtain ⟨ps, hP, _⟩ := b.tb _ hp
  refine ⟨⟨fun a o w => e a o (fun z => by rw [z, tn] at w; cases w) (b.ex a o w), b.b1, fun a o w m => e a o (fun z => m (by rw [z]; exact b.tM _ hp)) (b.b2 a o w m), b.b3, fun a w => nn a (b.b4 a w), fun a w => nn a (b.b5 a w), t, b.tn, b.tM⟩, len, nd,
    ⟨fun i s' w => ?_, fun i a m => ⟨(x.own i a m).1, nn a (x.own i a m).2.1, (x.own i a m).2.2⟩, x.inj, x.emp, x.own2, x.dr0⟩⟩
  obtain ⟨v, e1, e2⟩ := x.at_ i s' w
  have pl := e2.plain
  exact ⟨v, e1, e2.mono (Ex.refl _) fun a m o w => e a o (fun z => (pl a m).tbl ps (by rw [z]; exact hP)) w⟩
variable {X : Cx} {e : Expr} {te : TE} {fm : S → M D} {pos p p2 : Pos}
/-- raise C(e) -/
def sRaise (c attr : Str) (f : S → M D) : S → M Fl := fun ρ => (f ρ).bind fun d ρ1 => .raise ⟨c, [(attr, d)]⟩ ρ1
theorem imp_err {C : Addr} {c attr : Str} (hm : mg c = some (.ref C)) (hi : ImpM K mg E T te fm) (s : SOk K mg T B Φ H σ ρ) {D : Ends} (z : PostS K mg E T B Φ D (sRaise c attr fm ρ)) : tErr C attr te σ H E := by
  refine hi B Φ H σ ρ s _ (PostM.toS z fun d ρ1 v Φ1 H1 e1 s1 sv z1 => ?_)
  refine ⟨v, rfl, fun dx nd => ?_⟩
  have g := Gr.new (o := .xd [(attr, v)]) s1.ex nd
  exact z1 _ _ σ (.ref C) (some dx) g.p (s1.grow g) ⟨C, hm, rfl, .inr ⟨dx, [(attr, v)], rfl, upd_same, .cons (See.mono g.p sv) .nil⟩⟩
theorem ds_raise {C fI : Addr} {par attr x : Str} {k : Nat} (F : ErrK X.prog X.K C fI par attr) (hr : Room (k + 1) X.A) (hc : X.calm = true) (tk : Takes X fun c d _ H => E c d H) (hm : X.mg x = some (.ref C)) (ha : DM K mg E T X e te fm) (hg : Gl X x := by rfl)
    (hdb : (x == ("__debug__" : Str)) = false := by decide) (he : starEach [e] X.env = (false, eval e X.env) :: starEach [] X.env := by rfl) (hpl : (backTo p2 (starEach ([] : List Expr) X.env)).any (·.1) = false := by rfl) :
    DS K mg E T X (.Raise (some (.Call (.Name x p) [e] [] p2)) none pos) (fun _ σ H => tErr C attr te σ H E) (sRaise x attr fm) := by
  refine ⟨ha.k, ha.m, ps_raise hc tk (pmk_err F hr hg hm ha.pe hdb he hpl), fun B Φ H σ ρ hM s D z => ?_⟩
  exact imp_err (by rw [← ha.m]; exact hm) ha.imp s z
end
/-- def x(a): caught = None; try: a() except R as error: caught = error; return caught -/
def TTc (K : PySem.W.Frag) (CS : Addr) : (XK → Hp → VK → Prop) → Hp → VK → Prop := fun tl H Q =>
  tl (fun cls d H' => PySem.W.exmOne K cls (.ref CS) = some true ∧ ∀ a, H' a = none → Q (.ref a) (L2.upd H' a (XcO cls d a))) H fun _ H' => ∃ v, some (some V.non) = some (some v) ∧ Q v H'
abbrev catchBody (r : Str) (j : Nat) (p1 p2 p3 p4 p5 p6 p7 p8 p9 p10 p11 p12 p13 p14 : Pos) : List Stmt :=
  [.Assign [.Name "caught" p1] (.Constant .none j p2) p3, .Try [.Expr (.Call (.Name "work" p4) [] [] p5) p6] [.ExceptHandler (some (.Name r p7)) (some "error") [.Assign [.Name "caught" p8] (.Name "error" p9) p10] p11] [] [] p12, .Return (some (.Name "caught" p13)) p14]
theorem three {α : Type} {l : List α} (h : l.length = 3) : ∃ a b c, l = [a, b, c] := by
  match l, h with
  | [a, b, c], _ => exact ⟨a, b, c, rfl⟩
theorem caught_gives {X : Cx} {x q r : Str} {sg : Scope} {g CS : Addr} {cdg : Value} {j : Nat} {p1 p2 p3 p4 p5 p6 p7 p8 p9 p10 p11 p12 p13 p14 : Pos} (hN : (["work", "caught", "error"] : List Str).Nodup) (h1 : sg.names.lookup ("caught" : Str) = some .local) (h2 : sg.names.lookup ("error" : Str) = some .local)
    (hge : sg.names.lookup r = some .globalImplicit) (hme : X.mg r = some (.ref CS)) (hde : (r == ("__debug__" : Str)) = false) :
    GivesTo X ["work", "caught", "error"] x sg g cdg (catchBody r j p1 p2 p3 p4 p5 p6 p7 p8 p9 p10 p11 p12 p13 p14) "work" q (TTc X.K CS) := by
  intro f c' s H Q tl act hc h
  have hgl : Gl (cxOf C8.CX0 X.prog X.w X.K X.mg X.base ["work", "caught", "error"] x sg g cdg X.A X.stack s H C8.E0).nox r := hge
  refine ⟨_, pss_cons (ps_set (i := 1) hN rfl (.inl h1) pe_non (by rfl) (.inr h1)) (pss_cons (ps_try_trk (X := (cxOf C8.CX0 X.prog X.w X.K X.mg X.base ["work", "caught", "error"] x sg g cdg X.A X.stack s H C8.E0).nox) (i := 2) (c := .ref CS)
      (tb := fun W D₀ σ H => ∃ Ech : XK, (∀ cls d σ' H', Ech cls d H' → W cls d σ' H') ∧ σ[0]? = some (some (.ref f)) ∧ H c' = some (CodeO c' q) ∧ tl Ech H fun _ H' => D₀.nx σ H')
      rfl rfl rfl hN rfl h2 ⟨hgl, hde, .inl hme⟩ (fun W pn xe tk => ?_) (fun a pn => pss_one (ps_set (i := 1) hN rfl (.inl h1) (pe_var (i := 2) rfl (.inl h2) (by decide) (by decide)) (by rfl) (.inr h1))))
    (pss_one (ps_ret (pe_var (i := 1) rfl (.inl h1) (by decide) (by decide))))), ?_⟩
  · refine ⟨fun pins s' σ H' D₀ I h' => ?_⟩
    obtain ⟨Ech, hW, k1, k2, k3⟩ := h'
    have hp := act W pn xe Ech p4 p5 tk hW
    exact (pss_one (ps_expr (pos := p6) hp (by rfl))).run pins s' σ H' D₀ I ⟨k1, k2, k3⟩
  · refine ⟨fun cls d H' => PySem.W.exmOne X.K cls (.ref CS) = some true ∧ ∀ a, H' a = none → Q (.ref a) (L2.upd H' a (XcO cls d a)), fun cls d σ' H' ⟨e1, e2⟩ => ⟨e1, fun hl a na => ?_⟩, rfl, hc, ?_⟩
    · obtain ⟨u0, u1, u2, rfl⟩ := three hl
      exact ⟨_, rfl, _, rfl, e2 a na⟩
    · refine (show tl _ _ _ from ?_)
      exact h
/-- x(lambda: body), x such a def -/
def mCaught (errs : List Str) (f : S → M D) : S → M D := fun ρ => match f ρ with
  | .ok _ ρ' => .ok .non ρ'
  | .raise x ρ' => if errs.contains x.c = true then .ok (.exc x.c x.fs) ρ' else .stuck
  | .stuck => .stuck
section
variable {K : PySem.W.Frag} {mg : Str → Option Value} {T : List (Addr × Str)} {E : XK} {X : Cx}
theorem dm_caught {errs : List Str} {CS : Addr} {x : Str} {g c P : Addr} {k : Nat} {pg : Arguments} {sg : Scope} {dV kV doc pm cdv ct oc : Value} {an od : Option Addr} {osl : Array (Option Value)} {r : Str} {j : Nat} {p1 p2 p3 p4 p5 p6 p7 p8 p9 p10 p11 p12 p13 p14 : Pos}
    {params : Arguments} {body : Expr} {scope : Scope} {t : XK → TE} {fm : S → M D} {p lpos pos : Pos} (hK : X.K = K) (hmg : X.mg = mg) (hE : ∀ c ∈ errs, ∀ C, mg c = some (.ref C) → PySem.W.exmOne K (.ref C) (.ref CS) = some true)
    (hg : Gl X x) (hm : X.mg x = some (.ref g)) (hk : PySem.W.keepIn X.K (.ref g) = true)
    (lk : X.K.lookup g = some ⟨oc, od, .func (PySem.W.fnOf x x pg (catchBody r j p1 p2 p3 p4 p5 p6 p7 p8 p9 p10 p11 p12 p13 p14) sg dV kV doc pm an cdv ct), osl⟩) (hcg : PySem.W.codeIn X.K cdv x = true)
    (hb : L2.Binds X.K (PySem.W.fnOf x x pg (catchBody r j p1 p2 p3 p4 p5 p6 p7 p8 p9 p10 p11 p12 p13 p14) sg dV kV doc pm an cdv ct) ["work"] []) (Sg : FnScope ["work", "caught", "error"] ["work"] sg) (hva : Vis sg "work")
    (h1 : sg.names.lookup ("caught" : Str) = some .local) (h2 : sg.names.lookup ("error" : Str) = some .local) (hge : sg.names.lookup r = some .globalImplicit) (hme : X.mg r = some (.ref CS)) (hde : (r == ("__debug__" : Str)) = false)
    (TB : TabB X.base X.mg c P) (hcode : X.env.code = .ref c) (hmT : (P, X.env.qual ++ "<lambda>") ∈ T) (hu : ∀ p ∈ T, p.1 = P → p.2 = X.env.qual ++ "<lambda>") (hr : Room (k + 2) X.A) (L : LamS X.env.scope scope)
    (hdef : defaultsOf params X.env = ([], [])) (hbind : ∀ (q : Str) (cl : List (Str × Addr)) (pm cv ctv : Value), bindArgs (PySem.W.kla_fn "<lambda>" q params body scope cl pm cv ctv) ⟨[], []⟩ = pure [])
    (hbody : ∀ (A : Around) (outer : List Env) (s : Shared) (H : Hp) (E : XK) (f c' : Addr), Room k (A.deeper (lamEnv X scope s.heap.objs.size f c')) → DM K mg E T (lamCx X A outer s H E scope f c') body (t E) fm)
    (s0 : Shared) (hdb : (x == ("__debug__" : Str)) = false) : DM K mg E T X (.Call (.Name x p) [.Lambda params body scope lpos] [] pos) (tLam3 T P (TTc K CS) t) (mCaught errs fm) := by
  subst hK
  refine ⟨rfl, hmg, pe_lam3 hg hm hk lk hcg hb Sg rfl hva (caught_gives (by decide) h1 h2 hge hme hde) TB hcode hmT hu hr L hdef hbind (fun A outer s H E f c' h => (hbody A outer s H E f c' h).pe) hdb (by decide) (by decide), fun B Φ H σ ρ s Q z => ⟨s.tb, fun H1 e1 t1 => ?_⟩⟩
  have s1 := s.lam hmT e1 t1
  have rm : Room (k + 1) (X.A.deeper X.env) := hr.deeper X.env
  refine (hbody (X.A.deeper X.env) [] s0 (fun _ => none) _ 0 0 (rm.deeper _)).imp B Φ H1 σ ρ s1 _ ?_
  unfold mCaught at z
  cases w : fm ρ with
  | stuck => rw [w] at z; exact z.elim
  | ok d ρ' =>
    rw [w] at z
    exact fun v Φ' H' e s' sv => ⟨_, rfl, z .non Φ' H' e s' .non⟩
  | raise y ρ' =>
    rw [w] at z
    simp only at z
    split at z
    · rename_i hc
      intro Φ' H' cc dd e s' xo
      obtain ⟨C, hC, rfl, hx⟩ := xo
      refine ⟨hE _ (List.contains_iff_mem.mp hc) C hC, fun a na => ?_⟩
      have gg := Gr.new (o := XcO (.ref C) dd a) s'.ex na
      refine z _ _ _ (e.trans gg.p) (s'.grow gg) ?_
      rcases hx with ⟨e1, e2⟩ | ⟨d, fs, e1, e2, e3⟩
      · rw [e1]
        exact .exc0 hC (by rw [← e2]; exact upd_same)
      · exact .exc1 hC (by rw [← e1]; exact upd_same) (gg.p _ _ e2) (SeeF.mono gg.p e3)
    · exact z.elim
end
end TP
set_option Elab.async false
set_option linter.all false
set_option maxRecDepth 100000
/-! Tree programs: own objects that are made. -/
namespace TP
open PySem L2 PyProof.Rows PySem.Spec
def putD (f : Str) (v : D) : List (Str × D) → List (Str × D)
  | [] => [(f, v)]
  | (g, x) :: r => if g = f then (g, v) :: r else (g, x) :: putD f v r
section
variable {K : PySem.W.Frag} {mg : Str → Option Value} {Φ : Hp}
theorem SeeF.put {f : Str} {v : V} {d : D} (h : See K mg Φ v d) : ∀ {vs : List (Str × V)} {ds : List (Str × D)}, SeeF K mg Φ vs ds → SeeF K mg Φ (putF f v vs) (putD f d ds)
  | _, _, .nil => .cons h .nil
  | _, _, .cons (k := k) r t => by
    unfold putF putD
    by_cases z : k = f
    · rw [if_pos z, if_pos z]; exact .cons h t
    · rw [if_neg z, if_neg z]; exact .cons r (SeeF.put h t)
theorem SeeF.length : ∀ {vs : List (Str × V)} {ds : List (Str × D)}, SeeF K mg Φ vs ds → vs.length = ds.length
  | _, _, .nil => rfl
  | _, _, .cons _ t => by simp [SeeF.length t]
end
section
variable (K : PySem.W.Frag) (mg : Str → Option Value) (C : Addr) (a : Addr) (Φ H : Hp)
def PostI (E : XK) (r : R (List (Str × D))) (Q : VK) : Prop := match r with
  | .ok gs => ∀ Φ' H' dx fs, GrM [] [a] Φ H Φ' H' → H' a = some (.ins C dx fs) → Φ' a = none → SeeF K mg Φ' fs gs → Q .non H'
  | .raise x => ∀ Φ' H' c dd, GrM [] [a] Φ H Φ' H' → Φ' a = none → XOk K mg Φ' x c dd → E c dd H'
  | .stuck => False
end
def spI (K : PySem.W.Frag) (mg : Str → Option Value) (c : Str) (F : List D → R (List (Str × D))) : Sp := fun vs H Q E => ∃ Φ a C dx ws ds, vs = .ref a :: ws ∧ mg c = some (.ref C) ∧ Ex Φ H ∧ Φ a = none ∧ H a = some (.ins C dx []) ∧ SeeAll K mg Φ ws ds ∧ PostI K mg C a Φ H E (F ds) Q
def miOf (c : Str) (ρ : S) : R (List (Str × D)) := match ρ[(0 : Nat)]? with
  | some (some (.mi x gs)) => if x = c then .ok gs else .stuck
  | _ => .stuck
def startI (N n : Nat) (c : Str) (ds : List D) : S := some (.mi c []) :: (ds.map (fun d => some (.fz d)) ++ List.replicate (N - n) none)
def runI (N n : Nat) (c : Str) (b : S → M Fl) (ds : List D) : R (List (Str × D)) := if ds.length + 1 = n then match b (startI N n c ds) with
  | .ok .nx ρ => miOf c ρ
  | .raise x _ => .raise x
  | _ => .stuck else .stuck
section
variable {K : PySem.W.Frag} {mg : Str → Option Value} {E : XK} {Φ H Φ' H' : Hp} {Q : VK} {N : List Str} {a C dx : Addr} {c : Str}
abbrev bI (Φ H : Hp) (a : Addr) : Bs := { Φ0 := Φ, H0 := H, M := [a], Dn := [a], dp := a }
theorem startI_ok {ws : List V} {ds : List D} {n : Nat} (hn : ds.length + 1 = n) (g : mg c = some (.ref C)) (ex : Ex Φ H) (na : Φ a = none) (ha : H a = some (.ins C dx [])) (s : SeeAll K mg Φ ws ds) : SOk K mg [] (bI Φ H a) Φ H (L2.start N (.ref a :: ws)) (startI N.length n c ds) := by
  subst hn
  have hl := SeeAll.length s
  have at0 : ∀ (i : Nat) (s' : Sl), (startI N.length (ds.length + 1) c ds)[i + 1]? = some (some s') → ∃ e, ds[i]? = some e ∧ s' = .fz e := fun i s' e => by
    unfold startI at e
    rw [List.getElem?_cons_succ] at e
    by_cases lt : i < ds.length
    · rw [List.getElem?_append_left (by simpa using lt), List.getElem?_map] at e
      cases q : ds[i]? with
      | none => rw [q]
              at e; cases e
      | some d => rw [q] at e; cases e; exact ⟨d, rfl, rfl⟩
    · rw [List.getElem?_append_right (by simpa using Nat.le_of_not_lt lt)] at e
      have m := List.mem_of_getElem? e
      rw [List.mem_replicate] at m
      cases m.2
  refine ⟨⟨ex, Ex.refl _, fun a o e _ => e, fun a _ e => e, fun a e => e, fun b m => by rw [List.mem_singleton.mp m]; exact not_none ha, fun p m => (by cases m), fun p m => (by cases m), fun p m => (by cases m)⟩, ?_,
    fun i => if i = 0 then [a] else [], ⟨fun i s' e => ?_, fun i b m => ?_, fun i j b m1 m2 => ?_, fun i hi => ?_, fun i b es m e => ?_, fun i s' l e hl => ?_⟩⟩
  · unfold L2.start startI
    simp [hl]
  · cases i with
    | zero =>
      cases e
      exact ⟨.ref a, rfl, by rw [if_pos rfl]; exact .mi g ha .nil⟩
    | succ i =>
      obtain ⟨e', h1, h2⟩ := at0 i s' e
      subst h2
      obtain ⟨v, e1, e2⟩ := SeeAll.get s h1
      have lt := (List.getElem?_eq_some_iff.mp h1).1
      refine ⟨v, ?_, by rw [if_neg (Nat.succ_ne_zero i)]; exact .fz e2⟩
      unfold L2.start
      rw [List.getElem?_append_left (by simp [hl, lt]), List.getElem?_map, List.getElem?_cons_succ, e1]
      rfl
  · by_cases z : i = 0
    · rw [if_pos z] at m
      rw [List.mem_singleton.mp m]; exact ⟨na, not_none ha, .inr (by simp)⟩
    · rw [if_neg z] at m; cases m
  · by_cases z : i = 0
    · by_cases z2 : j = 0
      · rw [z, z2]
      · rw [if_neg z2] at m2; cases m2
    · rw [if_neg z] at m1; cases m1
  · show (if i = 0 then [a] else []) = []
    by_cases z : i = 0
    · subst z; exact absurd rfl (hi (.mi c []))
    · rw [if_neg z]
  · by_cases z : i = 0
    · subst z; cases e
    · rw [if_neg z] at m; cases m
  · show (if i = 0 then [a] else []) = l
    cases i with
    | zero => cases e; cases hl; rfl
    | succ i =>
      obtain ⟨e', h1, h2⟩ := at0 i _ e
      cases h2
      cases hl
theorem grI_end {σ' : L2.St} {ρ' : S} (s : SOk K mg [] (bI Φ H a) Φ' H' σ' ρ') : GrM [] [a] Φ H Φ' H' := ⟨s.b1, fun b o e m => s.b2 b o e m, s.ex, fun b e n => s.b3 b e n, fun b e => s.b4 b e, s.tb⟩
/-- the class of a slot's object, kept -/
theorem bodyI_ok {ts : TS} {b : S → M Fl} {vs : List V} {n : Nat} (hp : ImpS K mg E [] ts b) (h : spI K mg c (runI N.length n c b) vs H Q E) : ts { nx := fun _ H' => Q .non H', rt := Q } (L2.start N vs) H := by
  obtain ⟨Φ, a, C, dx, ws, ds, rfl, g, ex, na, ha, s, z⟩ := h
  unfold runI at z
  split at z
  · rename_i hn
    have st := startI_ok (N := N) hn g ex na ha s
    refine hp (bI Φ H a) Φ H _ _ rfl st _ ?_
    cases r : b (startI N.length n c ds) with
    | ok fl ρ' =>
      rw [r] at z
      cases fl with
      | nx =>
        intro Φ' H' σ' _ s'
        replace z : PostI K mg C a Φ H E (miOf c ρ') Q := z
        unfold miOf at z
        split at z
        · rename_i x gs e
          split at z
          rotate_left
          · exact z.elim
          rename_i hx
          obtain ⟨nd, y⟩ := id s'.nds
          obtain ⟨v, e1, e2⟩ := y.at_ 0 _ e
          have e0 := y.dr0 0 _ _ e rfl
          have ow := y.own 0 a (by rw [e0]; simp)
          rw [e0] at e2
          subst hx
          generalize hA : [(bI Φ H a).dp] = A at e2
          cases e2 with
          | mi g' h' r' =>
            injection hA with h1 _
            rw [g] at g'
            cases g'
            exact z Φ' H' _ _ (grI_end s') (by rw [show a = _ from h1]; exact h') ow.1 r'
        · exact z.elim
      | bk => exact z.elim
      | ct => exact z.elim
      | rt e => exact z.elim
      | rn es => exact z.elim
    | raise x ρ' =>
      rw [r] at z
      intro Φ' H' σ' c' dd _ s' xo
      exact z Φ' H' c' dd (grI_end s') (s'.b3 a (not_none ha) na) xo
    | stuck => rw [r] at z; exact z.elim
  · exact z.elim
theorem runI_len {n k : Nat} {b : S → M Fl} {vs : List V} (h : spI K mg c (runI k n c b) vs H Q E) : vs.length = n := by
  obtain ⟨Φ, a, C, dx, ws, ds, rfl, g, ex, na, ha, s, z⟩ := h
  unfold runI at z
  split at z
  · rename_i hn; rw [List.length_cons, SeeAll.length s]; exact hn
  · exact z.elim
end
section
variable {P : Program} {w : World} {K :
        PySem.W.Frag} {mg : Str → Option Value} {base : Heap}
theorem fn_okI {g : Bool} {c x qual : Str} {st : Stmt} {f : Addr} {fd : FuncData} {N ps : List Str} {k n : Nat} {b : S → M Fl} (F : Fun K x qual st f fd) (sc : FnScope N ps (defScope st)) (hn : ps.length = n)
    (hbody : ∀ (cdv : Value) (A : Around) (outer : List Env) (s : Shared) (H : Hp) (E : XK), Room k (A.deeper (envOfC qual (defScope st) s.heap.objs.size f cdv)) → Gd g A → fd.code = cdv →
      ∃ t, DSs K mg E [] (cxOf (L2.CX P w) P w K mg base N qual (defScope st) f cdv A outer s H E) (defBody st) t b) : FnG g P w K mg base (k + 1) f fd ps (spI K mg c (runI N.length n c b)) := by
  refine Fun.okG F sc (fun vs H Q E h => (runI_len h).trans hn.symm) fun cdv A outer s H vs Q E hr hg hc h => ?_
  obtain ⟨t, d⟩ := hbody cdv A outer s H E hr hg hc
  exact ⟨t, d.ps, bodyI_ok (E := E) d.imp h⟩
end
/-! ### self.f = e -/
def sFldD (i : Nat) (c f : Str) (g : S → M D) : S → M Fl := fun ρ => (g ρ).bind fun d ρ1 => match ρ1[i]? with
  | some (some (.mi c' fs)) => if c' = c ∧ fs.length < 1000 then .ok .nx (ρ1.set i (some (.mi c' (putD f d fs)))) else .stuck
  | _ => .stuck
section
variable {K : PySem.W.Frag} {mg : Str → Option Value} {T : List (Addr × Str)} {E : XK} {X : Cx} {e : Expr} {te : TE} {fm : S → M D} {pos p p2 p3 : Pos} {y f c : Str}
theorem slot_mi {B : Bs} {Φ H : Hp} {σ : L2.St} {ρ : S} {i : Nat} {gs : List (Str × D)} (s : SOk K mg T B Φ H σ ρ) (h : ρ[i]? = some (some (.mi c gs))) : ∃ p C dx vs, σ[i]? = some (some (.ref p)) ∧ mg c = some (.ref C) ∧ H p = some (.ins C dx vs) ∧ SeeF K mg Φ vs gs ∧ (∀ nd, NdOk K mg B Φ H σ ρ nd → p ∈ nd i) := by
  obtain ⟨nd, n⟩ := s.nds
  obtain ⟨v, e1, e2⟩ := n.at_ i _ h
  generalize hA : nd i = A at e2
  cases e2 with
  | mi g q r => exact ⟨_, _, _, _, e1, g, q, r, fun nd' y => by rw [y.uniq n, hA]; simp⟩
theorem ds_fld (i : Nat) (TC : ClsF K mg c f) (ha : DM K mg E T X e te fm) (hN : X.N[i]? = some y) (hv : Vis X.env.scope y) (hd : (y == ("__debug__" : Str)) = false) (hcd : (y == ("__classdict__" : Str)) = false)
    (hs : swapsWith e (some (.Attribute (.Name y p) f p2)) pos.line X.env = pure false) : DS K mg E T X (.Assign [.Attribute (.Name y p) f p2] e pos) (sFld K (tVar i) te f) (sFldD i c f fm) := by
  obtain ⟨k, m, pe, imp⟩ := ha
  subst k
  refine ⟨rfl, m, ps_fld (pe_var hN hv hd hcd) pe hs, fun B Φ H σ ρ hM s D z => imp B Φ H σ ρ s _ (PostM.toS z fun d ρ1 v Φ1 H1 e1 s1 sv z1 => ?_)⟩
  split at z1
  · rename_i c' fs w
    split at z1
    · rename_i hh
      obtain ⟨rfl, hl⟩ := hh
      obtain ⟨q, C, dx, vs, f1, f2, f3, f4, f5⟩ := slot_mi s1 w
      obtain ⟨c1, c2⟩ := TC _ f2
      refine ⟨_, f1, q, C, dx, vs, rfl, f3, c1, c2, by rw [SeeF.length f4]; exact hl, z1 Φ1 _ σ (Ex.refl _) ?_⟩
      refine s1.upd i f1 f5 (fun A ⟨s0, q1, q2⟩ => ?_) ⟨_, w⟩ (fun _ z => by cases z) fun l hl => ⟨_, w, hl⟩
      rw [w] at q1
      cases q1
      cases q2
      exact .mi f2 upd_same (SeeF.put sv f4)
    · exact z1.elim
  · exact z1.elim
/-! ### C(e, ..) -/
variable {es : List Expr} {ts : TA} {gs : S → R (List D)} {gm : S → M (List D)} {x : Str} {C fA : Addr} {fd : FuncData} {ps : List Str} {k : Nat}
def objR (c : Str) (r : R (List (Str × D))) : R D := r.map (D.obj c)
/-- what a caller must know of a class -/
structure MakerOf (X : Cx) (k : Nat) (x : Str) (C f : Addr) (fd : FuncData) (ps : List Str) (sp : Sp) : Prop where
  ok : FnOk X.prog X.w X.K X.mg X.base (L2.CX X.prog X.w) k f fd ps sp
  mkr : Mk X.K C f
  gl : X.mg x = some (.ref C)
  bi : Binds X.K fd ps []
theorem make_at {F : List D → R (List (Str × D))} {Φ H : Hp} {Q : VK} {vs : List V} {ds : List D} (g : mg x = some (.ref C)) (ex : Ex Φ H) (sv : SeeAll K mg Φ vs ds) (z : PostE K mg E Φ H (objR x (F ds)) Q) :
    ∀ a dx, H a = none → H dx = none → dx ≠ a → spI K mg x F (.ref a :: (vs ++ [])) (L2.upd (L2.upd H dx (.own a)) a (.ins C dx [])) (fun v H2 => v = .non ∧ Q (.ref a) H2) E := by
  intro a dx na nd ne
  have up : ∀ {b o}, H b = some o → L2.upd (L2.upd H dx (.own a)) a (.ins C dx []) b = some o := fun {b o} e => by
    rw [upd_ne (ne_of_none e na), upd_ne (ne_of_none e nd)]; exact e
  refine ⟨Φ, a, C, dx, vs, ds, by rw [List.append_nil], g, fun b o e => up (ex b o e), Ex.none (e := ex) na, upd_same, sv, ?_⟩
  have back : ∀ {Φ' H'}, GrM [] [a] Φ (L2.upd (L2.upd H dx (.own a)) a (.ins C dx [])) Φ' H' → Gr Φ H Φ' H' := fun {Φ' H'} gr => by
    refine ⟨gr.p, fun b o e => gr.h b o (up e) (by rw [List.mem_singleton]; exact ne_of_none e na), gr.ex, fun b n e => ?_⟩
    obtain ⟨o, q⟩ := of_not_none e
    exact gr.nm b (not_none (up q)) n
  cases w : F ds with
  | raise y => rw [w] at z; exact fun Φ' H' c dd gr _ xo => z Φ' H' c dd (back gr) xo
  | stuck => rw [w] at z; exact z.elim
  | ok fs =>
    rw [w] at z
    intro Φ' H' dx' vs' gr ha nΦ r
    have g0 := back gr
    refine ⟨rfl, z (.ref a) (L2.upd Φ' a (.ins C dx' vs')) H' ⟨g0.p.trans (Ex.new nΦ), g0.h, fun b o e => ?_, fun b n e => ?_⟩ (.obj g upd_same (SeeF.mono (Ex.new nΦ) r))⟩
    · by_cases hb : b = a
      · subst hb; rw [upd_same] at e; cases e; exact ha
      · rw [upd_ne hb] at e; exact g0.ex b o e
    · have hb : b ≠ a := fun q => e (by rw [q]; exact na)
      rw [upd_ne hb]; exact g0.nm b n e
theorem de_make {F : List D → R (List (Str × D))} (MK : MakerOf X k x C fA fd ps (spI K mg x F)) (hr : Room (k + 1) X.A) (hx : Passes (L2.CX X.prog X.w) X E) (ha : DA K mg E T X (e :: es) ts gs) (hg : Gl X x := by rfl)
    (hdb : (x == ("__debug__" : Str)) = false := by decide) (he : starEach (e :: es) X.env = (false, eval e
            X.env) :: starEach es X.env := by rfl) (hpl : (backTo pos (starEach es X.env)).any (·.1) = false := by rfl) :
    DE K mg E T X (.Call (.Name x p) (e :: es) [] pos) (tMake C (spI K mg x F) [] E ts) (fun ρ => (gs ρ).bind fun ds => objR x (F ds)) := by
  refine ⟨ha.k, ha.m, pe_make MK.mkr MK.ok hr hg MK.gl MK.bi .nil hx ha.pe hdb he hpl, fun B Φ H σ ρ s Q z => ha.imp B Φ H σ ρ s _ ?_⟩
  have z : PostE K mg E Φ H ((gs ρ).bind fun ds => objR x (F ds)) Q := z
  cases q : gs ρ with
  | ok ds =>
    rw [q] at z
    exact fun vs Φ' H' gr sv => make_at (by rw [← ha.m]; exact MK.gl) gr.ex sv (PostE.grow gr z)
  | raise x => rw [q] at z; exact z
  | stuck => rw [q] at z; exact z
theorem dm_make {F : List D → R (List (Str × D))} (MK : MakerOf X k x C fA fd ps (spI K mg x F)) (hr : Room (k + 1) X.A) (hx : Passes (L2.CX X.prog X.w) X E) (ha : DMA K mg E T X (e :: es) ts gm) (hg : Gl X x := by rfl)
    (hdb : (x == ("__debug__" : Str)) = false := by decide) (he : starEach (e :: es) X.env = (false, eval e
            X.env) :: starEach es X.env := by rfl) (hpl : (backTo pos (starEach es X.env)).any (·.1) = false := by rfl) :
    DM K mg E T X (.Call (.Name x p) (e :: es) [] pos) (tMake C (spI K mg x F) [] E ts) (mA (fun ds => objR x (F ds)) gm) :=
  ⟨ha.k, ha.m, pe_make MK.mkr MK.ok hr hg MK.gl MK.bi .nil hx ha.pe hdb he hpl, fun B Φ H σ ρ s Q z => ha.imp B Φ H σ ρ s _ (PostMA.bindR z fun ds ρ1 vs Φ1 H1 e1 s1 sv z1 => make_at (by rw [← ha.m]; exact MK.gl) s1.ex sv z1)⟩
end
end TP
set_option Elab.async false
set_option linter.all false
set_option maxRecDepth 100000
set_option maxHeartbeats 4001234
/-! Tree programs: own == and !=. -/
namespace TP
section
open PySem PySem.Spec
        PySem.Calls PyProof.Rows PySem.W
variable {prog : Program} {w : World} {A : Around} {E : Value → Shared → Prop} {s : Shared} {K : Frag} {x C f : Addr} {ox : Obj} {od : Option Obj} {name : Str} {h₀ : Heap} {L : Addr} {m : Str → Option Value} {tb : Value}
theorem bound_B {M : Model} {id : String} {args : List Value} {Q : Option Value → Shared → Prop} (X : K.In s.heap) (I : InstAt s.heap x ox C od) (hs : findIn K (.ref C) name = some (some (.builtin id))) (hb : ∀ v, bindSpecial (.builtin id) v = pure (.builtin id, [v]))
    (h : wpAny M A (call (.builtin id) (.ref x :: args)) (fun v => Q (some v)) E s) : wpAny M A (callSpecialIfBound? (.ref x) name args) Q E s := by
  simp only [callSpecialIfBound?,
          bindSpecialIfBound?]
  refine wpAny_holding (wpAny_bind (wpAny_bind (wpAny_bind
          (I.type.here ((looks_findIn X hs).here ?_)))))
  refine wpAny_bind
          (wpAny_askSetting (wpAny_ite ?_))
  have go : wpAny M A (call (.builtin id) ([.ref x] ++ args) >>= fun v => pure (some v)) Q E s := wpAny_bind (wpAny_mono h (fun v t z => wpAny_pure z) fun _ _ z => z)
  split
  · exact wpAny_bind (wpAny_of_eq (hb _) (wpAny_pure (by exact go)))
  · exact wpAny_tryCatch (wpAny_bind (wpAny_of_eq (hb _) (wpAny_pure (by exact go))))
/-- x != b, the class's own == asked -/
theorem ne_K {b : Value} {Q : Value → Shared → Prop} (hu : A.units + 1 < cLine) (Fr' : Fr h₀ L s.heap m) (X₀ : K.In h₀) (I : InstAt s.heap x ox C od) (hb : Looks (model prog w) s.heap (typeOf b) tb) (hn : notFirst K C tb = true)
    (hs : findIn K (.ref C) "__ne__" = some (some (.builtin "object.__ne__"))) (he : findIn K (.ref C) "__eq__" = some (some (.ref f))) (hf : isFn K (.ref f) = true) (hm : mroIn K C (.type "object") = some true)
    (h : wpAny (model prog w) A.in1 (call (.ref f) [.ref x, b]) (fun v t => ∃ k, v = .bool k ∧ Q (.bool (!k)) t) E s) : wpAny (model prog w) A (richCompare .NotEq (.ref x) b) Q E s := by
  have X := X₀.keeps Fr'.keep
  have isx : Looks (model prog w) s.heap (isInstance (.ref x) (.type "object")) true := I.type.andThen (looks_mroIn X hm)
  have one : wpAny (model prog w) A (tryCompare (.ref x) "__ne__" b) (fun r t => ∃ v, r = some v ∧ Q v t) E s := by
    unfold tryCompare
    refine wpAny_bind (bound_B X I hs (fun v => F.cmp_object.ne.bind v) ?_)
    refine wpAny_call (codeAny_call_builtin F.cmp_object.ne.plain F.cmpEntry_ne (@check_slot (model prog w) _ _ s "object.__ne__" "object" "__ne__" (.ref x) [b] [] _ F.cmpKind_ne F.cmpSplit_ne isx (F.cmpArgs_ne _ _) ?_))
    unfold
            Builtin.«object.__ne__»
    refine wpAny_bind (wpAny_of_eq (a := ((Value.ref x : Value), [b])) (by first | rfl | (simp only [slotArgs]; rfl)) ?_)
    refine wpAny_bind (wpAny_cRoomFor (by show A.units + 1 < cLine; exact hu) ?_)
    refine wpAny_bind (ifBound_K X I he hf (wpAny_mono h (fun v t z => ?_) fun _ _ z => z))
    obtain ⟨k, rfl, q⟩ := z
    refine wpAny_bind (wpAny_truthy_bool ?_)
    first
      | exact wpAny_pure (wpAny_pure ⟨_, rfl, q⟩)
      | exact wpAny_pure ⟨_, rfl, q⟩
      | exact wpAny_pure (wpAny_pure (wpAny_pure ⟨_, rfl, q⟩))
  unfold richCompare
  simp only [oneThing_ref]
  refine wpAny_holding (wpAny_bind (wpAny_cRoomFor (by omega) ?_))
  refine wpAny_bind (I.type.here
          (wpAny_bind (hb.here ?_)))
  split
  · rename_i q
    have e₀ : subIn K tb (.ref C) = some false := by
      rcases Bool.or_eq_true_iff.mp hn with e₀ | e₀
      · rw [beq_iff_eq.mp e₀] at q; simp at q
      · exact beq_iff_eq.mp e₀
    refine wpAny_bind ((looks_subIn X e₀).here ?_)
    simp only [Bool.false_eq_true,
            if_false]
    refine wpAny_bind (wpAny_mono one (fun r t z => ?_) fun _ _ e₀ => e₀)
    obtain ⟨v, rfl, q⟩ := z
    exact wpAny_pure q
  · refine wpAny_bind
          (wpAny_pure ?_)
    simp only [Bool.false_eq_true,
            if_false]
    refine wpAny_bind (wpAny_mono one (fun r t z => ?_) fun _ _ e₀ => e₀)
    obtain ⟨v, rfl, q⟩ := z
    exact wpAny_pure q
end
open PySem L2 PyProof.Rows PySem.Spec
/-- x == y (neg: x != y), x of the class at C -/
def rOwn (K : PySem.W.Frag) (C : Addr) (neg : Bool) (sp : Sp) : R2 := fun x y H Q => ∃ a dx fs t, x = .ref a ∧ H a = some (.ins C dx fs) ∧ KiV K H y t ∧ PySem.W.notFirst K C t = true ∧ sp [x, y] H (fun v H' => ∃ b, v = .bl b ∧ Q (.bl (b ^^ neg)) H') fun _ _ _ => False
/-- what the class must tell of its == -/
structure EqF (K : PySem.W.Frag) (C f : Addr) : Prop where
  eq : PySem.W.findIn K (.ref C) "__eq__" = some (some (.ref f))
  fn : PySem.W.isFn
          K (.ref f) = true
  ne : PySem.W.findIn K (.ref C) "__ne__" = some (some (.builtin "object.__ne__"))
  ob : PySem.W.mroIn K C (.type "object") = some true
section
variable {X : Cx} {C f : Addr} {fd : FuncData} {ps : List Str} {sp : Sp} {k : Nat}
theorem call_eqf {A : Around} {pins : List (Addr × Obj)} {σ : L2.St} {H : Hp} {s : Shared} {x y : V} {v u : Value} {Q : V → Hp → Prop} (Fn : FnOk X.prog X.w X.K X.mg X.base (L2.CX X.prog X.w) k f fd ps sp) (hb : Binds X.K fd ps []) (hr : Room k A) (hfr : A.frames = X.A.frames) (I : Inv X pins σ H s) (rx : RelV x v) (ry : RelV y u)
    (h : sp [x, y] H Q fun _ _ _ => False) : wpAny (model X.prog X.w) A (call (.ref f) [v, u]) (EP X pins σ Q) X.xe s := by
  have e0₀ : Env0 X.prog X.w X.K X.mg X.base A X.stack s H := by
    have e := I.env0
    exact ⟨by rw [hfr]; exact e.frames, e.mod, e.bs, e.bsz, e.funs, e.frf, e.hok, e.bare⟩
  have r2 : Vals [x, y] [v, u] := .cons rx (.cons ry .nil)
  have hl := Fn.len _ _ _ _ h
  refine wpAny_call (codeAny_mono (Fn.run A X.stack s H ⟨[v, u], []⟩ [v, u] [x, y] _ _ hr e0₀ (by simpa using hb s [v, u] I.kIn (by simpa using hl)) r2 h) fun r s' hq => ?_)
  cases r with
  | error e =>
    obtain ⟨_, _, _, _, _, _, _, _, _, _, _, _, z⟩ := hq
    exact z.elim
  | ok fl =>
    cases fl with
    | ret w => exact I.after hq
    | next => exact False.elim hq
    | brk => exact False.elim hq
    | cont => exact False.elim hq
theorem op_ownEq (Fn : FnOk X.prog X.w X.K X.mg X.base (L2.CX X.prog X.w) k f fd ps sp) (E1 : EqF X.K C f) (hb : Binds X.K fd ps []) (hr : Room k X.A) : OpR X (compareOp .Eq) (rOwn X.K C false sp) := by
  intro pins s₀ σ H x y v₀ u Q I rx ry h
  obtain ⟨a, dx, fs, t, rfl, ha, ty, nf, q⟩ := h
  obtain rfl : v₀ = Value.ref a := rx
  obtain ⟨P, Z, hp, _⟩ := kiv_kit I ry ty
  obtain ⟨mA, J₀, _⟩ := ins_get I.hok ha
  obtain ⟨od, J₀, _⟩ := J₀.look
  obtain ⟨m, hF⟩ := I.fr
  show wpAny (model X.prog X.w) X.A (richCompare .Eq (.ref a) u) (EP X pins σ Q) X.xe s₀
  refine PySem.W.cmp_K (op := .Eq) hr.units0 hF I.ok.mod.kin J₀ (Z.ty _ _ I.kIn hp) nf E1.eq E1.fn (wpAny_mono (call_eqf Fn hb hr rfl I (x := .ref a) rfl ry q) (fun r s' z => ?_) fun _ _ z => z)
  obtain ⟨v', H', I', rv, b, rfl, q'⟩ := z
  cases rv
  rw [Bool.xor_false] at q'
  exact ⟨.bl b, H', I', rfl, q'⟩
theorem op_ownNe (Fn : FnOk X.prog X.w X.K X.mg X.base (L2.CX X.prog X.w) k f fd ps sp) (E1 : EqF X.K C f) (hb : Binds X.K fd ps []) (hr : Room (k + 1) X.A) : OpR X (compareOp .NotEq) (rOwn X.K C true sp) := by
  intro pins s₀ σ H x y v₀ u Q I rx ry h
  obtain ⟨a, dx, fs, t, rfl, ha, ty, nf, q⟩ := h
  obtain rfl : v₀ = Value.ref a := rx
  obtain ⟨P, Z, hp, _⟩ := kiv_kit I ry ty
  obtain ⟨mA, J₀, _⟩ := ins_get I.hok ha
  obtain ⟨od, J₀, _⟩ := J₀.look
  obtain ⟨m, hF⟩ := I.fr
  show wpAny (model X.prog X.w) X.A (richCompare .NotEq (.ref a) u) (EP X pins σ Q) X.xe s₀
  refine ne_K (by have := hr.units; omega) hF I.ok.mod.kin J₀ (Z.ty _ _ I.kIn hp) nf E1.ne E1.eq E1.fn E1.ob (wpAny_mono (call_eqf Fn hb hr.in1 rfl I (x := .ref a) rfl ry q) (fun r s' z => ?_) fun _ _ z => z)
  obtain ⟨v', H', I', rv, b, rfl, q'⟩ := z
  cases rv
  rw [Bool.xor_true] at q'
  exact ⟨b, rfl, .bl (!b), H', I', rfl, q'⟩
end
/-- == on trees, where one's own def answers -/
def eqO (c : Str) (os xs : List Str) (ks : List Cn) (F : List D → R D) (neg : Bool) : D → D → R D := fun x y => match x with
  | .obj c' _ => if c' = c ∧ y.ask os xs = true ∧ ks.contains y.cn = true then (match F [x, y] with
    | .ok (.bl b) => .ok (.bl (b ^^ neg))
    | _ => .stuck) else .stuck
  | _ => .stuck
theorem eqO_nx {c : Str} {os xs : List Str} {ks : List Cn} {F : List D → R D} {neg : Bool} : ∀ x y, NoX (eqO c os xs ks F neg x y) := fun x y z => by
  unfold eqO
  repeat' split
  all_goals exact fun w => by cases w
/-- no kind of ks is a sub-kind of c -/
def NfF (K : PySem.W.Frag) (mg : Str → Option Value) (c : Str) (ks : List Cn) : Prop := ∀ k ∈ ks, ∀ C t, mg c = some (.ref C) → k.val mg = some t → PySem.W.notFirst K C t = true
section
variable {K : PySem.W.Frag} {mg : Str → Option Value} {Φ H : Hp}
theorem SeeB.toF {v : V} {d : D} (ex : Ex Φ H) (s : SeeB K mg Φ H v d) : ∃ Φ2, Ex Φ Φ2 ∧ Ex Φ2 H ∧ See K mg Φ2 v d := by
  have add : ∀ {p : Addr} {o : HO}, H p = some o → Ex Φ (L2.upd Φ p o) ∧ Ex (L2.upd Φ p o) H := fun {p o} hp => by
    refine ⟨fun b u e => ?_, fun b u e => ?_⟩
    · by_cases z : b = p
      · subst z; rw [upd_same]; have q := ex _ _ e; rw [hp] at q; exact q
      · rw [upd_ne z]; exact e
    · by_cases z : b = p
      · subst z; rw [upd_same] at e; cases e; exact hp
      · rw [upd_ne z] at e; exact ex b u e
  cases s with
  | fz h => exact ⟨Φ, Ex.refl _, ex, h⟩
  | ml h r => exact ⟨_, (add h).1, (add h).2, .lst upd_same (SeeAll.mono (add h).1 r)⟩
  | md h r => exact ⟨_, (add h).1, (add h).2, .dic upd_same (SeeK.mono (add h).1 r)⟩
  | mt h r => exact ⟨_, (add h).1, (add h).2, .dit upd_same (SeeT.mono (add h).1 r)⟩
theorem SeeB.mono1 {Φ2 : Hp} {v : V} {d : D} (e : Ex Φ Φ2) (s : SeeB K mg Φ H v d) : SeeB K mg Φ2 H v d := by
  cases s with
  | fz h => exact .fz (See.mono e h)
  | ml h r => exact .ml h (SeeAll.mono e r)
  | md h r => exact .md h (SeeK.mono e r)
  | mt h r => exact .mt h (SeeT.mono e r)
theorem sem_own {c : Str} {C : Addr} {os xs : List Str} {ks : List Cn} {F : List D → R D} {neg : Bool} (O : OwnF K mg os xs) (g : mg c = some (.ref C)) (nf : NfF K mg c ks) : Op2 K mg (rOwn K C neg (spF K mg F)) (eqO c os xs ks F neg) := by
  intro Φ H x y dx dy Q ex hx hy h
  unfold eqO at h
  split at h
  · rename_i c' fs
    split at h
    · rename_i hh
      obtain ⟨rfl, h2, h3⟩ := hh
      obtain ⟨t, ht, kt⟩ := hy.kind ex O h2
      obtain ⟨Φ2, e1, e2, sx⟩ := hx.toF ex
      have hy2 : SeeB K mg Φ2 H y dy := hy.mono1 e1
      obtain ⟨Φ3, e3, e4, sy⟩ := hy2.toF e2
      have sx3 := See.mono e3 sx
      cases hx with
      | fz sx0 =>
        cases sx0 with
        | obj g' hh hr =>
          rw [g] at g'
          cases g'
          refine ⟨_, _, _, t, rfl, ex _ _ hh, kt, nf _ (List.contains_iff_mem.mp h3) C t g ht, Φ3, _, e4, .cons sx3 (.cons sy .nil), ?_⟩
          split at h
          · rename_i b eb
            rw [eb]
            intro v Φ' H' gr sv
            cases sv
            exact ⟨b, rfl, h _ Φ H' ⟨Ex.refl _, gr.h, ex.trans gr.h, fun a n _ => n⟩ (.bl _)⟩
          · exact h.elim
    · exact h.elim
  · exact h.elim
end
end TP
set_option Elab.async false
set_option linter.all false
set_option maxRecDepth 100000
/-! Tree programs: repr; defs that lean on the guards. -/
namespace TP
open PySem L2 PyProof.Rows PySem.Spec
/-! ### trees as data that is shown -/
def keyD : Key → PyData
  | .inl i => .int i
  | .inr x => .str x
mutual
def D.rp : D → Option PyData
  | .non => some .none
  | .bl b => some (.bool b)
  | .int i => some (.int i)
  | .str s => some (.str s)
  | .tup xs => (rpAll xs).map .tuple
  | .pr xs => (rpAll xs).map .tuple
  | .lst xs => (rpAll xs).map .list
  | .dic kvs => (rpK kvs).map .dict
  | .dit _ => none
  | .obj _ _ => none
  | .exc _ _ => none
  | .scr _ => none
  | .fn _ => none
def rpAll : List D → Option (List PyData)
  | [] => some []
  | x :: xs => (D.rp x).bind fun y => (rpAll xs).map fun ys => y :: ys
def rpK : List (Key × D) → Option (List (PyData × PyData))
  | [] => some []
  | (k, x) :: xs => (D.rp x).bind fun y => (rpK xs).map fun ys => (keyD k, y) :: ys
end
/-- sys.modules stands in the written part -/
def SysIn (K : PySem.W.Frag) : Prop := ∃ o, K.lookup sysModules = some o ∧ o.cls = .type "dict"
theorem bindSome {α β : Type} {o : Option α} {f : α → Option β} {b : β} (h : o.bind f = some b) : ∃ a, o = some a ∧ f a = some b := by
  cases o with
  | none => cases h
  | some a => exact ⟨a, rfl, h⟩
theorem mapSome {α β : Type} {o : Option α} {f : α → β} {b : β} (h : o.map f = some b) : ∃ a, o = some a ∧ f a = b := by
  cases o with
  | none => cases h
  | some a => exact ⟨a, rfl, Option.some.inj h⟩
section
variable {X : Cx} {pins : List (Addr × Obj)} {σ : L2.St} {H Φ : Hp} {s : Shared} {mg : Str → Option Value}
theorem not_sys (S : SysIn X.K) (I : Inv X pins σ H s) {a : Addr} {o : Obj} (h : s.heap.get? a = some o) (hc : o.cls ≠ .type "dict") : sysModules ≠ a := fun z => by
  obtain ⟨o', q1, q2⟩ := S
  have e := I.kIn _ _ q1
  rw [z, h] at e
  cases e
  exact hc q2
theorem reads_keys {w : World} {P : Program} : ∀ {kvs : List (Key × V)} {ds : List (Key × D)} {prs : List (Key × Value)} {ents : List DictEntry} {fs : List (PyData × PyData)} {h : Heap}, SeeK X.K mg Φ kvs ds → KV kvs prs → Pairs (mixKind P w) ents prs → rpK ds = some fs → ReadsAll h (ents.map (·.key)) (fs.map (·.1)) []
  | _, _, _, _, _, h, .nil, .nil, .nil, e => by cases e; exact .nil
  | _, _, _, _, _, h, .cons (k := k) (d := d) (ds := ds) r u, .cons p q, .cons k1 k2 t, e => by
    have e : (D.rp d).bind (fun y => (rpK ds).map fun ys => (keyD k, y) :: ys) = some _ := e
    obtain ⟨y, e1, e2⟩ := bindSome e
    obtain ⟨ys, e3, rfl⟩ := mapSome e2
    have ih := reads_keys (h := h) u q t e3
    have pk : k = _ := p.1
    rw [← pk] at k1
    refine .cons (as := []) (bs := []) ?_ ih
    rcases keyIs_shape k1 with ⟨i, t, z, z2⟩ | ⟨x, t, z, z2⟩
    · dsimp only
      rw [z2, z]; exact .int i t
    · dsimp only
      rw [z2, z]; exact .str x t
mutual
theorem See.rd (S : SysIn X.K) (I : Inv X pins σ H s) (ex : Ex Φ H) : ∀ {v : V} {d : D} {u : Value} {e : PyData}, See X.K mg Φ v d → RelV v u → d.rp = some e → ∃ as, Reads s.heap u e as ∧ sysModules ∉ as
  | _, _, u, _, .non, rv, h => by cases h; cases (show u = Value.none from rv); exact ⟨[], .none, by simp⟩
  | _, _, u, _, .bl b, rv, h => by cases h; cases (show u = Value.bool b from rv); exact ⟨[], .bool b, by simp⟩
  | _, _, u, _, .int i, rv, h => by cases h; obtain ⟨t, q⟩ := (show ∃ t, u = Value.int i t from rv); cases q; exact ⟨[], .int i t, by simp⟩
  | _, _, u, _, .str i, rv, h => by cases h; obtain ⟨t, q⟩ := (show ∃ t, u = Value.str i t from rv); cases q; exact ⟨[], .str i t, by simp⟩
  | _, _, u, _, .tup (a := a) (ds := ds) q r, rv, h => by
    cases (show u = Value.ref a from rv)
    have h : (rpAll ds).map PyData.tuple = some _ := h
    obtain ⟨es, e1, rfl⟩ := mapSome h
    obtain ⟨its, ri, ⟨o, g1, g2, n, g3⟩, _⟩ := I.tuple (ex_t ex q.t)
    obtain ⟨as, r1, r2⟩ := SeeAll.rd S I ex r ri e1
    exact ⟨as, .tuple g1 g2 g3 (by simpa using r1), r2⟩
  | _, _, u, _, .pr (a := a) (ds := ds) q r, rv, h => by
    cases (show u = Value.ref a from rv)
    have h : (rpAll ds).map PyData.tuple = some _ := h
    obtain ⟨es, e1, rfl⟩ := mapSome h
    obtain ⟨its, ri, ⟨o, g1, g2, n, g3⟩, _⟩ := I.tuple (ex_t (H := H) (Ex.refl _) (.inl (.inl (ex _ _ q))))
    obtain ⟨as, r1, r2⟩ := SeeAll.rd S I ex r ri e1
    exact ⟨as, .tuple g1 g2 g3 (by simpa using r1), r2⟩
  | _, _, u, _, .lst (a := a) (ds := ds) q r, rv, h => by
    cases (show u = Value.ref a from rv)
    have h : (rpAll ds).map PyData.list = some _ := h
    obtain ⟨es, e1, rfl⟩ := mapSome h
    obtain ⟨z, its, n, ri, g1⟩ := (show ObjOk X.prog X.w H s.heap a (.lst _) from I.hok a _ (ex _ _ q))
    obtain ⟨as, r1, r2⟩ := SeeAll.rd S I ex r ri e1
    refine ⟨a :: as, .list g1 rfl rfl (by simpa using r1), ?_⟩
    simp only [List.mem_cons, not_or]
    exact ⟨not_sys S I g1 (by simp), r2⟩
  | _, _, u, _, .dic (a := a) (gs := gs) q r, rv, h => by
    cases (show u = Value.ref a from rv)
    have h : (rpK gs).map PyData.dict = some _ := h
    obtain ⟨es, e1, rfl⟩ := mapSome h
    obtain ⟨z, hd, prs, rel, o, ents, ep, g1, g2, g3, _, g4, _⟩ := dk_of I.hok (ex _ _ q)
    obtain ⟨as, r1, r2⟩ := SeeK.rd S I ex r rel g4 e1
    refine ⟨a :: [] ++ as, .dict g1 g2.1 g3 (reads_keys r rel g4 e1) r1, ?_⟩
    simp only [List.mem_cons, List.cons_append, List.nil_append, not_or]
    exact ⟨fun z => by rw [← z] at hd; simp at hd, r2⟩
  | _, _, _, _, .dit _ _, _, h => by cases h
  | _, _, _, _, .obj _ _ _, _, h => by cases h
  | _, _, _, _, .exc0 _ _, _, h => by cases h
  | _, _, _, _, .exc1 _ _ _ _, _, h => by cases h
  | _, _, _, _, .scr _, _, h => by cases h
  | _, _, _, _, .fn _, _, h => by cases h
theorem SeeAll.rd (S : SysIn X.K) (I : Inv X pins σ H s) (ex : Ex Φ H) : ∀ {vs : List V} {ds : List D} {us : List Value} {es : List PyData}, SeeAll X.K mg Φ vs ds → Vals vs us → rpAll ds = some es → ∃ as, ReadsAll s.heap us es as ∧ sysModules ∉ as
  | _, _, _, _, .nil, .nil, h => by cases h; exact ⟨[], .nil, by simp⟩
  | _, _, _, _, .cons (d := d) (ds := ds) r t, .cons p q, h => by
    have h : (D.rp d).bind (fun y => (rpAll ds).map fun ys => y :: ys) = some _ := h
    obtain ⟨y, e1, e2⟩ := bindSome h
    obtain ⟨ys, e3, rfl⟩ := mapSome e2
    obtain ⟨as, a1, a2⟩ := See.rd S I ex r p e1
    obtain ⟨bs, b1, b2⟩ := SeeAll.rd S I ex t q e3
    exact ⟨as ++ bs, .cons a1 b1, by simp only [List.mem_append, not_or]; exact ⟨a2, b2⟩⟩
theorem SeeK.rd (S : SysIn X.K) (I : Inv X pins σ H s) (ex : Ex Φ H) : ∀ {kvs : List (Key × V)} {ds : List (Key × D)} {prs : List (Key × Value)} {ents : List DictEntry} {es : List (PyData × PyData)}, SeeK X.K mg Φ kvs ds → KV kvs prs → Pairs (mixKind X.prog X.w) ents prs → rpK ds = some es →
    ∃ as, ReadsAll s.heap (ents.map (·.val)) (es.map (·.2)) as ∧ sysModules ∉ as
  | _, _, _, _, _, .nil, .nil, .nil, h => by cases h; exact ⟨[], .nil, by simp⟩
  | _, _, _, _, _, .cons (k := k) (d := d) (ds := ds) r t, .cons p q, .cons k1 k2 u, h => by
    have h : (D.rp d).bind (fun y => (rpK ds).map fun ys => (keyD k, y) :: ys) = some _ := h
    obtain ⟨y, e1, e2⟩ := bindSome h
    obtain ⟨ys, e3, rfl⟩ := mapSome e2
    obtain ⟨as, a1, a2⟩ := See.rd S I ex r p.2 e1
    obtain ⟨bs, b1, b2⟩ := SeeK.rd S I ex t q u e3
    exact ⟨as ++ bs, .cons (by dsimp only; rw [k2]; exact a1) b1, by simp only [List.mem_append, not_or]; exact ⟨a2, b2⟩⟩
end
end
def reprD (d : D) : R D := match d.rp with
  | some e => if e.showable = true ∧ e.depth ≤ 40 ∧ e.shown.length ≤ sizeLine then .ok (.str e.shown) else .stuck
  | none => .stuck
theorem repr_nx : ∀ d, NoX (reprD d) := fun d z => by
  unfold reprD
  repeat' split
  all_goals exact fun w => by cases w
def rRepr (K : PySem.W.Frag) (mg : Str → Option Value) : List V → Hp → VK → Prop := fun xs H Q => ∃ x Φ d e, xs = [x] ∧ Ex Φ H ∧ See K mg Φ x d ∧ d.rp = some e ∧ e.showable = true ∧ e.depth ≤ 40 ∧ e.shown.length ≤ sizeLine ∧ Q (.str e.shown) H
theorem cr_repr {X : Cx} (S : SysIn X.K) (hgd : X.A.guards = some []) (hu : X.A.units + 64 < cLine) : CallR X (.builtin "repr") (rRepr X.K X.mg) := by
  intro pins s₀ σ H xs us Q I r h
  obtain ⟨x, Φ, d, e, rfl, ex, sv, hd, h1, h2, h3, q⟩ := h
  obtain ⟨u₀, rfl, rx⟩ := vals1 r
  obtain ⟨as, rd, ns⟩ := See.rd S I ex sv rx hd
  cases rd with
  | none => exact PySem.P.repr_of_none ⟨.str _, H, I.tok _, ⟨_, rfl⟩, q⟩
  | bool b => exact PySem.P.repr_of_bool ⟨.str _, H, I.tok _, ⟨_, rfl⟩, q⟩
  | int i t => exact PySem.P.repr_of_int (of_decide_eq_true h1) ⟨.str _, H, I.tok _, ⟨_, rfl⟩, q⟩
  | str y t => exact PySem.P.repr_of_str ⟨.str _, H, I.tok _, ⟨_, rfl⟩, q⟩ h3
  | list a1 a2 a3 a4 => exact repr_of_reads' (.list a1 a2 a3 a4) h1 (fun _ => ns) hgd (by omega) (fun _ _ z => z) (fun h' v tk k => ⟨.str _, H, I.kept (t' := tk) k, ⟨_, rfl⟩, q⟩) h3
  | tuple a1 a2 a3 a4 => exact repr_of_reads' (.tuple a1 a2 a3 a4) h1 (fun _ => ns) hgd (by omega) (fun _ _ z => z) (fun h' v tk k => ⟨.str _, H, I.kept (t' := tk) k, ⟨_, rfl⟩, q⟩) h3
  | dict a1 a2 a3 a4 a5 => exact repr_of_reads' (.dict a1 a2 a3 a4 a5) h1 (fun _ => ns) hgd (by omega) (fun _ _ z => z) (fun h' v tk k => ⟨.str _, H, I.kept (t' := tk) k, ⟨_, rfl⟩, q⟩) h3
theorem sem_repr {K : PySem.W.Frag} {mg : Str → Option Value} : Op1 K mg (rRepr K mg) reprD := by
  intro Φ H x dx Q ex hx h
  unfold reprD at h
  split at h
  · rename_i e he
    split at h
    · rename_i c
      obtain ⟨Φ2, e1, e2, sx⟩ := hx.toF ex
      exact ⟨x, Φ2, dx, e, rfl, e2, sx, he, c.1, c.2.1, c.2.2, h.flat ex rfl (.str _)⟩
    · exact h.elim
  · exact h.elim
end TP
set_option Elab.async false
set_option linter.all false
set_option maxRecDepth 100000
/-! Tree programs: values that wait in slots of no name; parallel assignment. -/
namespace TP
open PySem L2 PyProof.Rows PySem.Spec
/-! ### slots of no name -/
/-- slot d is no name's -/
def Dum (X : Cx) (d : Nat) : Prop := ∃ n, X.N[d]? = some n ∧ ¬ Vis X.env.scope n
section
variable {X : Cx} {pins : List (Addr ×
        Obj)} {σ : L2.St} {H : Hp} {s : Shared}
theorem inv_dum {d : Nat} {o : Option V} (I : Inv X pins σ H s) (h : Dum X d) : Inv X pins (σ.set d o) H s := by
  obtain ⟨n, hn, hv⟩ := h
  obtain ⟨m, q1, q2⟩ := I.loc
  refine ⟨I.ok, I.os, I.bare, I.base, ⟨m, q1, fun i x v e1 e2 e3 => ?_⟩, I.cell, I.free, I.freeC, I.pin, I.hok, by rw [List.length_set]; exact I.len⟩
  by_cases z : i = d
  · subst z
    rw [hn] at e1
    cases e1
    exact absurd e3 hv
  · rw [List.getElem?_set_ne (Ne.symm z)] at e2
    exact q2 i x v e1 e2 e3
end
abbrev TQ := L2.St → Hp → (List V → L2.St → Hp → Prop) → Prop
/-- items, each left in a slot of no name -/
structure PQ (X : Cx) (es : List Expr) (t : TQ) : Prop where
  run : ∀ (pos : Pos) (pins : List (Addr × Obj)) (s : Shared) (σ : L2.St) (H : Hp) (Q : List V → L2.St → Hp → Prop), Inv X pins σ H s → t σ H Q →
    wpAny (model X.prog X.w) X.A (spliced (backTo pos (starEach es X.env))) (fun us s' => ∃ vs σ' H', Inv X pins σ' H' s' ∧ Vals vs us ∧ Q vs σ' H') X.xe s
def qNil : TQ := fun σ H Q => Q [] σ H
def qCons (d : Nat) (te : TE) (t : TQ) : TQ := fun σ H Q => te σ H fun x H1 => t (σ.set d (some x)) H1 fun xs σ2 H2 => Q (x :: xs) σ2 H2
section
variable {X : Cx} {e : Expr} {es : List Expr} {te : TE} {t : TQ} {d : Nat}
theorem pq_nil : PQ X [] qNil := ⟨fun _ _ _ σ H Q I h => Calls.spliced_nil ⟨[], σ, H, I, .nil, h⟩⟩
theorem pq_cons (hd : Dum X d) (ha : PE X e te) (hr : PQ X es t) (hs : starEach (e :: es) X.env = (false, eval e X.env) :: starEach es X.env := by rfl) : PQ X (e :: es) (qCons d te t) := by
  refine ⟨fun pos pins s₀ σ H Q I h => ?_⟩
  rw [hs]
  show wpAny _ _ (spliced ((false, eval e X.env) :: backTo pos (starEach es X.env))) _ _ s₀
  refine Calls.spliced_cons (thn (ha.run pins s₀ σ H _ I h) fun u s1 ⟨x, H1, I1, r1, q1⟩ => ?_)
  exact thn (hr.run pos pins s1 _ H1 _ (inv_dum I1 hd) q1) fun us s2 ⟨xs, σ2, H2, I2, r2, q2⟩ => ⟨x :: xs, σ2, H2, I2, .cons r1 r2, q2⟩
end
/-! ### a, b = (x, y) -/
def tPq2 (i j : Nat) (t : TQ) : TS := fun D σ H => t σ H fun vs σ1 H1 => ∃ v w, vs = [v, w] ∧ D.nx ((σ1.set i (some v)).set j (some w)) H1
def tPq3 (i j l : Nat) (t : TQ) : TS := fun D σ H => t σ H fun vs σ1 H1 => ∃ u v w, vs = [u, v, w] ∧ D.nx (((σ1.set i (some u)).set j (some v)).set l (some w)) H1
def tPqG (K : PySem.W.Frag) (n : Nat) (g : TGs) (t : TQ) : TS := fun D σ H => t σ H fun vs σ1 H1 => vs.length = n ∧ n ≤ sizeLine ∧ ∀ p, H1 p = none → g vs σ1 (L2.upd H1 p (.tup vs)) D.nx
section
variable {X : Cx} {i j l : Nat} {x y z : Str} {a b c : Expr} {t : TQ} {px py pz pt pt2 pos : Pos} {kt k2 : Nat}
theorem ps_pq2 (hc : X.calm = true) (hN : X.N.Nodup) (hi : X.N[i]? = some x) (hj : X.N[j]? = some y) (hij : i ≠ j) (hx : X.env.scope.names.lookup x = some .local) (hy : X.env.scope.names.lookup y = some .local) (ha : PQ X [a, b] t)
    (hw : swappedStores [.Tuple [.Name x px, .Name y py] kt pt] (.Tuple [a, b] k2 pt2) X.env = pure (some [x, y])) (hs : swapsWithSole [.Tuple [.Name x px, .Name y py] kt pt] (.Tuple [a, b] k2 pt2) pos.line X.env = pure false) :
    PS X (.Assign [.Tuple [.Name x px, .Name y py] kt pt] (.Tuple [a, b] k2 pt2) pos) (tPq2 i j t) := by
  refine ⟨fun ps s σ H D I₀ h => ?_⟩
  rw [exec_Assign_arm]
  refine wpAny_bind
          (wpAny_standAt ?_)
  rw [hs]
  refine wpAny_bind
          (wpAny_pure ?_)
  rw [if_neg (by decide)]
  refine wpAny_bind (Tuple_ (thn (ha.run _ ps s σ H _ I₀ h) fun us s1 ⟨vs, σ1, H1, I1, r1, v, w, e1, q1⟩ => ?_))
  subst e1
  obtain ⟨u1, u2, rfl, rv₀, rw'⟩ := vals2 r1
  refine wpAny_newObj_type ?_ (by show 2 ≤ sizeLine; rw [sizeLine_eq]; decide)
  have I2 : Inv X ps σ1 H1 { s1 with heap := s1.heap.push { cls := .type "tuple", data := .seq [u1, u2].toArray } } := I1.kept (t' := s1.toks) fun b o₀ e => Heap.get?_push_of_some _ e
  rw [hw]
  refine wpAny_bind
          (wpAny_pure ?_)
  show wpAny (model X.prog X.w) X.A (do
    rule "assign.swapped-stores"
    let items ← unpackItems (.ref s1.heap.objs.size) 2 none
    assignInOrder [fun v => bindName X.env y v, fun v => bindName X.env x v] items.reverse
    pure Flow.next) _ _ _
  refine wpAny_bind (wpAny_rule (wpAny_bind (unpackItems_tuple (items := #[u1, u2]) (I₀.ok.hd hc) (IsTup.new s1.heap _) fun h' hx' => ?_)))
  have I3 := I2.kept (h' := h') (t' := s1.toks) fun b o₀ e => hx' b o₀ (Nat.ne_of_lt (Heap.lt_size e)) e
  show wpAny _ _ (assignInOrder [fun v => bindName X.env y v, fun v => bindName X.env x v] [u2, u1] >>= fun _ => pure Flow.next)
    _ _ _
  refine wpAny_bind (assignInOrder_cons (wpAny_bindName (store_ok I3 hN hj (.inl hy) rw' (fun s2₀ I4 => ?_) (.inr hy))))
  refine assignInOrder_cons (wpAny_bindName (store_ok I4 hN hi (.inl hx) rv₀ (fun s3 I5₀ => assignInOrder_nil (wpAny_pure ?_)) (.inr hx)))
  rw [List.set_comm _ _ (Ne.symm hij)] at I5₀
  exact ⟨_, H1, I5₀, q1⟩
theorem ps_pq3 (hc : X.calm = true) (hN : X.N.Nodup) (hi : X.N[i]? = some x) (hj : X.N[j]? = some y) (hl : X.N[l]? = some z) (hij : i ≠ j) (hil : i ≠ l) (hjl : j ≠ l) (hx : X.env.scope.names.lookup x = some .local) (hy : X.env.scope.names.lookup y = some .local)
    (hz : X.env.scope.names.lookup z = some .local) (ha : PQ X [a, b, c] t) (hw : swappedStores [.Tuple [.Name x px, .Name y py, .Name z pz] kt pt] (.Tuple [a, b, c] k2 pt2) X.env = pure (some [x, y, z]))
    (hs : swapsWithSole [.Tuple [.Name x px, .Name y py, .Name z pz] kt pt] (.Tuple [a, b, c] k2 pt2) pos.line X.env = pure false) :
    PS X (.Assign [.Tuple [.Name x px, .Name y py, .Name z pz] kt pt] (.Tuple [a, b, c] k2 pt2) pos) (tPq3 i j l t) := by
  refine ⟨fun ps s σ H D I₀ h => ?_⟩
  rw [exec_Assign_arm]
  refine wpAny_bind
          (wpAny_standAt ?_)
  rw [hs]
  refine wpAny_bind
          (wpAny_pure ?_)
  rw [if_neg (by decide)]
  refine wpAny_bind (Tuple_ (thn (ha.run _ ps s σ H _ I₀ h) fun us s1 ⟨vs, σ1, H1, I1, r1, v1, v2, v3, e1, q1⟩ => ?_))
  subst e1
  obtain ⟨u1, u2, u3, rfl, ra, rb, rc⟩ : ∃ u1 u2 u3, us = [u1, u2, u3] ∧ RelV v1 u1 ∧ RelV v2 u2 ∧ RelV v3 u3 := by
    cases r1 with
    | cons p q =>
      obtain ⟨w1, w2, rfl, q1, q2⟩ := vals2 q
      exact ⟨_, _, _, rfl, p, q1, q2⟩
  refine wpAny_newObj_type ?_ (by show 3 ≤ sizeLine; rw [sizeLine_eq]; decide)
  have I2 : Inv X ps σ1 H1 { s1 with heap := s1.heap.push { cls := .type "tuple", data := .seq [u1, u2, u3].toArray } } := I1.kept (t' := s1.toks) fun b o₀ e => Heap.get?_push_of_some _ e
  rw [hw]
  refine wpAny_bind
          (wpAny_pure ?_)
  show wpAny (model X.prog X.w) X.A (do
    rule "assign.swapped-stores"
    let items ← unpackItems (.ref s1.heap.objs.size) 3 none
    assignInOrder [fun v => bindName X.env z v, fun v => bindName X.env y v, fun v => bindName X.env x v] items.reverse
    pure Flow.next) _ _ _
  refine wpAny_bind (wpAny_rule (wpAny_bind (unpackItems_tuple (items := #[u1, u2, u3]) (I₀.ok.hd hc) (IsTup.new s1.heap _) fun h' hx' => ?_)))
  have I3 := I2.kept (h' := h') (t' := s1.toks) fun b o₀ e => hx' b o₀ (Nat.ne_of_lt (Heap.lt_size e)) e
  show wpAny _ _ (assignInOrder [fun v => bindName X.env z v, fun v => bindName X.env y v, fun v => bindName X.env x v] [u3, u2, u1] >>= fun _ => pure Flow.next)
    _ _ _
  refine wpAny_bind (assignInOrder_cons (wpAny_bindName (store_ok I3 hN hl (.inl hz) rc (fun s2 I4 => ?_) (.inr hz))))
  refine assignInOrder_cons (wpAny_bindName (store_ok I4 hN hj (.inl hy) rb (fun s3 I5 => ?_) (.inr hy)))
  refine assignInOrder_cons (wpAny_bindName (store_ok I5 hN hi (.inl hx) ra (fun s4 I6₀ => assignInOrder_nil (wpAny_pure ?_)) (.inr hx)))
  rw [List.set_comm _ _ (Ne.symm hjl), List.set_comm _ _ (Ne.symm hil), List.set_comm _ _ (Ne.symm hij)] at I6₀
  exact ⟨_, H1, I6₀, q1⟩
theorem ps_pqG {tgs es : List Expr} {g : TGs} {n : Nat} (hc : X.calm = true) (ha : PQ X es t) (hg : PGs X tgs g) (hn : (assignEach tgs X.env).length = n) (hst : (assignEach tgs X.env).findIdx? (·.1) = none)
    (hs : swapsWithSole [.Tuple tgs kt pt] (.Tuple es k2 pt2) pos.line X.env = pure false) (hw : swappedStores [.Tuple tgs kt pt] (.Tuple es k2 pt2) X.env = pure none) (h1 : (assignEach [.Tuple tgs kt pt] X.env).map (·.2) = [assign (.Tuple tgs kt pt) X.env]) :
    PS X (.Assign [.Tuple tgs kt pt] (.Tuple es k2 pt2) pos) (tPqG X.K n g t) := by
  refine ⟨fun ps s σ H D I h => ?_⟩
  refine wpAny_Assign_stores (wpAny_Tuple_spliced (thn (ha.run _ ps s σ H _ I h) fun us s1 ⟨vs, σ1, H1, I1, r1, hl, hz, q⟩ => ⟨by rw [← r1.length, hl]; exact hz, ?_⟩)) hs hw
  have hf₀ : H1 s1.heap.objs.size = none := I1.hok.fresh (Nat.le_refl _)
  have I2 : Inv X ps σ1 (L2.upd H1 s1.heap.objs.size (.tup vs)) { s1 with heap := s1.heap.push { cls := .type "tuple", data := .seq us.toArray } } :=
    I1.laid (t' := s1.toks) (fun b u e => Heap.get?_push_of_some _ e) (Nat.le_refl _) ⟨by rw [hl]; exact hz, us, r1, ⟨_, Heap.get?_push_size _ rfl, rfl, _, rfl⟩⟩
  rw [h1]
  exact thn ((pg_tup (k := kt) (pos := pt) hc hg hn hst).run ps _ σ1 _ (.ref s1.heap.objs.size) _ _ I2 rfl ⟨_, vs, rfl, .inl (.inl upd_same), hl, q _ hf₀⟩) fun _ s2 q => q
end
end TP
set_option Elab.async false
set_option linter.all false
set_option maxRecDepth 100000
/-! Tree programs: parallel assignment of trees; lists of one's own that are handed on. -/
namespace TP
open PySem L2 PyProof.Rows PySem.Spec
section
variable {K : PySem.W.Frag} {mg : Str → Option Value} {T : List (Addr × Str)} {E : XK} {B : Bs} {Φ Φ' H H' : Hp} {σ : L2.St} {ρ : S} {Q : VK}
/-- what slot d holds goes to slot i -/
theorem SOk.move {d i : Nat} {sl : Sl} {v : V} (s : SOk K mg T B Φ H σ ρ) (hd : ρ[d]? = some (some sl)) (hv : σ[d]? = some (some v)) (ne : i ≠ d) (hi : i < ρ.length) : SOk K mg T B Φ H (σ.set i (some v)) ((ρ.set i (some sl)).set d none) := by
  obtain ⟨b, len, nd, x⟩ := s
  have at_ : ∀ j, j ≠ d → j ≠ i → ((ρ.set i (some sl)).set d none)[j]? = ρ[j]? := fun j h1 h2 => by rw [List.getElem?_set_ne (Ne.symm h1), List.getElem?_set_ne (Ne.symm h2)]
  have ati : ((ρ.set i (some sl)).set d none)[i]? = some (some sl) := by rw [List.getElem?_set_ne (Ne.symm ne), List.getElem?_set_self hi]
  have atd : ∀ s', ((ρ.set i (some sl)).set d none)[d]? ≠ some (some s') := fun s' z => by
    rw [List.getElem?_set_self (by rw [List.length_set]; exact (List.getElem?_eq_some_iff.mp hd).1)] at z; cases z
  obtain ⟨w, w1, w2⟩ := x.at_ d sl hd
  rw [hv] at w1
  cases w1
  refine ⟨b, by simpa using len, fun j => if j = i then nd d else if j = d then [] else nd j, ⟨fun j s' e => ?_, fun j a m => ?_, fun j k a m1 m2 => ?_, fun j n => ?_, fun j a ds m e => ?_, fun j s' l e hl => ?_⟩⟩
  · by_cases h2 : j = i
    · subst h2
      rw [ati] at e; cases e
      exact ⟨v, List.getElem?_set_self (by rw [← len]; exact hi), by rw [if_pos rfl]; exact w2⟩
    · by_cases h1 : j = d
      · subst h1; exact absurd e (atd s')
      · rw [at_ j h1 h2] at e
        obtain ⟨u, e1, e2⟩ := x.at_ j s' e
        exact ⟨u, by rw [List.getElem?_set_ne (Ne.symm h2)]; exact e1, by rw [if_neg h2, if_neg h1]; exact e2⟩
  · by_cases h2 : j = i
    · rw [if_pos h2] at m; exact x.own d a m
    · by_cases h1 : j = d
      · rw [if_neg h2, if_pos h1] at m; cases m
      · rw [if_neg h2, if_neg h1] at m; exact x.own j a m
  · have f : ∀ {j a}, a ∈ (if j = i then nd d else if j = d then [] else nd j) → (j = i ∧ a ∈ nd d) ∨ (j ≠ i ∧ j ≠ d ∧ a ∈ nd j) := fun {j a} m => by
      by_cases h2 : j = i
      · rw [if_pos h2] at m; exact .inl ⟨h2, m⟩
      · by_cases h1 : j = d
        · rw [if_neg h2, if_pos h1] at m; cases m
        · rw [if_neg h2, if_neg h1] at m; exact .inr ⟨h2, h1, m⟩
    rcases f m1 with ⟨a1, a2⟩ | ⟨a1, a2, a3⟩ <;> rcases f m2 with ⟨b1, b2⟩ | ⟨b1, b2, b3⟩
    · rw [a1, b1]
    · exact absurd (x.inj d k a a2 b3).symm b2
    · exact absurd (x.inj j d a a3 b2) a2
    · exact x.inj j k a a3 b3
  · show (if j = i then nd d else if j = d then [] else nd j) = []
    by_cases h2 : j = i
    · exact absurd (by rw [h2]; exact ati) (n sl)
    · by_cases h1 : j = d
      · rw [if_neg h2, if_pos h1]
      · rw [if_neg h2, if_neg h1]
        exact x.emp j fun s' e => n s' (by rw [at_ j h1 h2]; exact e)
  · by_cases h2 : j = i
    · subst h2
      rw [ati] at e; cases e
      rw [if_pos rfl] at m; exact x.own2 d a ds m hd
    · by_cases h1 : j = d
      · rw [if_neg h2, if_pos h1] at m; cases m
      · rw [if_neg h2, if_neg h1] at m; rw [at_ j h1 h2] at e; exact x.own2 j a ds m e
  · show (if j = i then nd d else if j = d then [] else nd j) = l
    by_cases h2 : j = i
    · subst h2
      rw [ati] at e; cases e
      rw [if_pos rfl]; exact x.dr0 d _ l hd hl
    · by_cases h1 : j = d
      · subst h1; exact absurd e (atd s')
      · rw [if_neg h2, if_neg h1]; rw [at_ j h1 h2] at e; exact x.dr0 j s' l e hl
end
/-- values, one after another, each into its waiting slot -/
def evalTo : List (Nat × (S → M Sl)) → S → M Unit
  | [], ρ => .ok () ρ
  | (d, f) :: r, ρ => (f ρ).bind fun sl ρ1 => if d < ρ1.length then evalTo r (ρ1.set d (some sl)) else .stuck
/-- each from its waiting slot into its name's -/
def moveTo : List (Nat × Nat) → S → M Fl
  | [], ρ => .ok .nx ρ
  | (d, i) :: r, ρ => match ρ[d]? with
    | some (some sl) => if i ≠ d ∧ i < ρ.length then moveTo r ((ρ.set i (some sl)).set d none) else .stuck
    | _ => .stuck
def sPar (ds is : List Nat) (fs : List (S → M Sl)) : S → M Fl := fun ρ => (evalTo (ds.zip fs) ρ).bind fun _ ρ1 => moveTo (ds.zip is) ρ1
/-- these slots get these values -/
def setD : L2.St → List Nat → List V → L2.St
  | σ, d :: ds, v :: vs => setD (σ.set d (some v)) ds vs
  | σ, _, _ => σ
theorem setD_len : ∀ (ds : List Nat) (vs : List V) (σ : L2.St), (setD σ ds vs).length = σ.length
  | [], _, _ => rfl
  | _ :: _, [], _ => rfl
  | d :: ds, v :: vs, σ => by unfold setD; rw [setD_len ds vs]; simp
theorem setD_out : ∀ (ds : List Nat) (vs : List V) (σ : L2.St) (j : Nat), j ∉ ds → (setD σ ds vs)[j]? = σ[j]?
  | [], _, _, _, _ => rfl
  | _ :: _, [], _, _, _ => rfl
  | d :: ds, v :: vs, σ, j, h => by
    simp only [List.mem_cons, not_or] at h
    unfold setD
    rw [setD_out ds vs _ j h.2, List.getElem?_set_ne (Ne.symm h.1)]
/-- the slots hold the values -/
def Holds (σ : L2.St) : List Nat → List V → Prop
  | d :: ds, v :: vs => σ[d]? = some (some v) ∧ Holds σ ds vs
  | [], [] => True
  | _, _ => False
theorem Holds.set {σ : L2.St} {o : Option V} {i : Nat} : ∀ {ds : List Nat} {vs : List V}, i ∉ ds → Holds σ ds vs → Holds (σ.set i o) ds vs
  | [], [], _, _ => trivial
  | [], _ :: _, _, h => h
  | _ :: _, [], _, h => h
  | d :: ds, v :: vs, n, h => by
    simp only [List.mem_cons, not_or] at n
    exact ⟨by rw [List.getElem?_set_ne n.1]; exact h.1, Holds.set n.2 h.2⟩
theorem setD_holds : ∀ (ds : List Nat) (vs : List V) (σ : L2.St), ds.Nodup → (∀ d ∈ ds, d < σ.length) → vs.length = ds.length → Holds (setD σ ds vs) ds vs
  | [], [], _, _, _, _ => trivial
  | [], _ :: _, _, _, _, h => by cases h
  | _ :: _, [], _, _, _, h => by cases h
  | d :: ds, v :: vs, σ, nd, lt, h => by
    rw [List.nodup_cons] at nd
    refine ⟨?_, setD_holds ds vs _ nd.2 (fun x hx => by rw [List.length_set]; exact lt x (List.mem_cons_of_mem _ hx)) (by simpa using h)⟩
    show (setD (σ.set d (some v)) ds vs)[d]? = _
    rw [setD_out ds vs _ d nd.1, List.getElem?_set_self (lt d List.mem_cons_self)]
section
variable (K : PySem.W.Frag) (mg : Str → Option Value) (E : XK) (T : List (Addr × Str))
def PostQ (B : Bs) (Φ : Hp) (σ : L2.St) (ds : List Nat) (r : M Unit) (Q : List V → L2.St → Hp → Prop) : Prop := match r with
  | .ok _ ρ1 => ∀ vs Φ' H', Ex Φ Φ' → SOk K mg T B Φ' H' (setD σ ds vs) ρ1 → vs.length = ds.length → (∀ d ∈ ds, d < σ.length) → Q vs (setD σ ds vs) H'
  | .raise x ρ1 => ∀ Φ' H' σ' c dd, Ex Φ Φ' → SOk K mg T B Φ' H' σ' ρ1 → XOk K mg Φ' x c dd → E c dd H'
  | .stuck => False
/-- items that wait -/
structure DQ (X : Cx) (ds : List Nat) (es : List Expr) (t : TQ) (fs : List (S → M Sl)) : Prop where
  k : X.K = K
  m : X.mg = mg
  pq : PQ X es t
  imp : ∀ B Φ H σ ρ, SOk K mg T B Φ H σ ρ → ∀ (Q : List V → L2.St → Hp → Prop), PostQ K mg E T B Φ σ ds (evalTo (ds.zip fs) ρ) Q → t σ H Q
end
section
variable {K : PySem.W.Frag} {mg : Str → Option Value} {T : List (Addr × Str)} {E : XK} {X : Cx} {e : Expr} {es : List Expr} {te : TE} {t : TQ} {d : Nat} {ds : List Nat} {f : S → M Sl} {fs : List (S → M Sl)}
theorem dq_nil (hk : X.K = K) (hm : X.mg = mg) : DQ K mg E T X [] [] qNil [] := ⟨hk, hm, pq_nil, fun B Φ H σ ρ s Q z => z [] Φ H (Ex.refl _) s rfl fun d h => (by cases h)⟩
theorem dq_cons (hd : Dum X d) (ha : DV K mg E T X e te f) (hr : DQ K mg E T X ds es t fs) (hs : starEach (e :: es) X.env = (false, eval e X.env) :: starEach es X.env := by rfl) : DQ K mg E T X (d :: ds) (e :: es) (qCons d te t) (f :: fs) := by
  refine ⟨ha.k, ha.m, pq_cons hd ha.pe hr.pq hs, fun B Φ H σ ρ s Q z => ?_⟩
  refine ha.imp B Φ H σ ρ s _ ?_
  have ez : evalTo ((d :: ds).zip (f :: fs)) ρ = (f ρ).bind fun sl ρ1 => if d < ρ1.length then evalTo (ds.zip fs) (ρ1.set d (some sl)) else .stuck := rfl
  rw [ez] at z
  cases q : f ρ with
  | stuck => rw [q] at z; exact z.elim
  | raise x ρ1 => rw [q] at z; exact fun Φ' H' c dd e s' xo => z Φ' H' σ c dd e s' xo
  | ok sl ρ1 =>
    rw [q] at z
    simp only [M.bind] at z
    intro v Φ1 H1 e1 s1 sn
    by_cases lt : d < ρ1.length
    · rw [if_pos lt] at z
      refine hr.imp B Φ1 H1 (σ.set d (some v)) _ (s1.setNew d lt sn) _ ?_
      cases q2 : evalTo (ds.zip fs) (ρ1.set d (some sl)) with
      | stuck => rw [q2] at z; exact z.elim
      | raise x ρ2 => rw [q2] at z; exact fun Φ' H' σ' c dd e s' xo => z Φ' H' σ' c dd (e1.trans e) s' xo
      | ok u ρ2 =>
        rw [q2] at z
        exact fun vs Φ' H' e s' hl hlt => z (v :: vs) Φ' H' (e1.trans e) s' (by simp [hl]) fun x hx => (List.mem_cons.mp hx).elim (fun q => by rw [q, ← s1.len]; exact lt) fun q => by have := hlt x q; rwa [List.length_set] at this
    · rw [if_neg lt] at z; exact z.elim
theorem SOk.moves {B : Bs} {Φ H : Hp} : ∀ {ds is : List Nat} {vs : List V} {σ : L2.St} {ρ ρ' : S}, SOk K mg T B Φ H σ ρ → ds.Nodup → is.length = ds.length → (∀ i ∈ is, i ∉ ds) → Holds σ ds vs → moveTo (ds.zip is) ρ = .ok .nx ρ' → SOk K mg T B Φ H (setD σ is vs) ρ'
  | [], [], [], σ, ρ, ρ', s, _, _, _, _, h => by cases h; exact s
  | [], [], _ :: _, σ, ρ, ρ', s, _, _, _, h, _ => h.elim
  | [], _ :: _, _, σ, ρ, ρ', s, _, l, _, _, _ => by cases l
  | _ :: _, [], _, σ, ρ, ρ', s, _, l, _, _, _ => by cases l
  | _ :: _, _ :: _, [], σ, ρ, ρ', s, _, _, _, h, _ => h.elim
  | d :: ds, i :: is, v :: vs, σ, ρ, ρ', s, nd, l, dj, h, z => by
    rw [List.nodup_cons] at nd
    have z : (match ρ[d]? with
      | some (some sl) => if i ≠ d ∧ i < ρ.length then moveTo (ds.zip is) ((ρ.set i (some sl)).set d none) else .stuck
      | _ => .stuck) = .ok .nx ρ' := z
    split at z
    · rename_i sl w
      split at z
      · rename_i hh
        have s1 := s.move w h.1 hh.1 hh.2
        have di : i ∉ d :: ds := dj i List.mem_cons_self
        simp only [List.mem_cons, not_or] at di
        show SOk K mg T B Φ H (setD (σ.set i (some v)) is vs) ρ'
        exact SOk.moves (ds := ds) (is := is) (vs := vs) s1 nd.2 (by simpa using l) (fun j hj m => dj j (List.mem_cons_of_mem _ hj) (List.mem_cons_of_mem _ m)) (h.2.set di.2) z
      · cases z
    · cases z
theorem moveTo_nx : ∀ {prs : List (Nat × Nat)} {ρ : S}, (∃ ρ', moveTo prs ρ = .ok .nx ρ') ∨ moveTo prs ρ = .stuck
  | [], ρ => .inl ⟨ρ, rfl⟩
  | (d, i) :: r, ρ => by
    unfold moveTo
    split
    · split
      · exact moveTo_nx
      · exact .inr rfl
    · exact .inr rfl
/-- a, b, .. = (x, y, ..): the ends -/
theorem par_end {B : Bs} {Φ : Hp} {σ : L2.St} {ρ : S} {D : Ends} {is : List Nat} (nd : ds.Nodup) (hl : is.length = ds.length) (dj : ∀ i ∈ is, i ∉ ds) (z : PostS K mg E T B Φ D (sPar ds is fs ρ)) :
    PostQ K mg E T B Φ σ ds (evalTo (ds.zip fs) ρ) fun vs σ1 H1 => vs.length = ds.length ∧ D.nx (setD σ1 is vs) H1 ∧ ∀ p, H1 p = none → D.nx (setD σ1 is vs) (L2.upd H1 p (.tup vs)) := by
  have z : PostS K mg E T B Φ D ((evalTo (ds.zip fs) ρ).bind fun _ ρ1 => moveTo (ds.zip is) ρ1) := z
  cases q : evalTo (ds.zip fs) ρ with
  | stuck => rw [q] at z; exact z.elim
  | raise x ρ1 => rw [q] at z; exact z
  | ok u ρ1 =>
    rw [q] at z
    have z : PostS K mg E T B Φ D (moveTo (ds.zip is) ρ1) := z
    intro vs Φ' H' e s' hv lt
    rcases moveTo_nx (prs := ds.zip is) (ρ := ρ1) with ⟨ρ', h⟩ | h
    · rw [h] at z
      have hh := setD_holds ds vs σ nd lt hv
      exact ⟨hv, z Φ' H' _ e (SOk.moves s' nd hl dj hh h), fun p np => z Φ' _ _ e (SOk.moves (s'.grow (Gr.newM s'.ex np)) nd hl dj hh h)⟩
    · rw [h] at z; exact z.elim
theorem PostQ.mono {B : Bs} {Φ : Hp} {σ : L2.St} {r : M Unit} {Q Q' : List V → L2.St → Hp → Prop} (h : PostQ K mg E T B Φ σ ds r Q) (q : ∀ vs σ1 H1, Q vs σ1 H1 → Q' vs σ1 H1) : PostQ K mg E T B Φ σ ds r Q' := by
  cases r with
  | ok u ρ => exact fun vs Φ' H' e s hl lt => q _ _ _ (h vs Φ' H' e s hl lt)
  | raise x ρ => exact h
  | stuck => exact h
section
variable {i j l : Nat} {x y w : Str} {a b c : Expr} {px py pz pt pt2 pos : Pos} {kt k2 : Nat}
theorem ds_par2 {d1 d2 : Nat} (hc : X.calm = true) (hN : X.N.Nodup) (hi : X.N[i]? = some x) (hj : X.N[j]? = some y) (hx : X.env.scope.names.lookup x = some .local) (hy : X.env.scope.names.lookup y = some .local) (ha : DQ K mg E T X [d1, d2] [a, b] t fs)
    (hd : ([d1, d2, i, j] : List Nat).Nodup) (hw : swappedStores [.Tuple [.Name x px, .Name y py] kt pt] (.Tuple [a, b] k2 pt2) X.env = pure (some [x, y])) (hs : swapsWithSole [.Tuple [.Name x px, .Name y py] kt pt] (.Tuple [a, b] k2 pt2) pos.line X.env = pure false) :
    DS K mg E T X (.Assign [.Tuple [.Name x px, .Name y py] kt pt] (.Tuple [a, b] k2 pt2) pos) (tPq2 i j t) (sPar [d1, d2] [i, j] fs) := by
  simp only [List.nodup_cons, List.mem_cons, List.not_mem_nil, or_false, not_or, not_false_eq_true, List.nodup_nil, and_true] at hd
  obtain ⟨⟨n1, n2, n3⟩, ⟨n4, n5⟩, n6⟩ := hd
  refine ⟨ha.k, ha.m, ps_pq2 hc hN hi hj n6 hx hy ha.pq hw hs, fun B Φ H σ ρ hM s D z => ha.imp B Φ H σ ρ s _ ?_⟩
  refine (par_end (D := D) (ds := [d1, d2]) (is := [i, j]) (by simp [n1]) rfl (by simp; exact ⟨⟨Ne.symm n2, Ne.symm n4⟩, Ne.symm n3, Ne.symm n5⟩) z).mono fun vs σ1 H1 ⟨h1, h2, _⟩ => ?_
  match vs, h1 with
  | [v, u], _ => exact ⟨v, u, rfl, h2⟩
theorem ds_par3 {d1 d2 d3 : Nat} (hc : X.calm = true) (hN : X.N.Nodup) (hi : X.N[i]? = some x) (hj : X.N[j]? = some y) (hl : X.N[l]? = some w) (hx : X.env.scope.names.lookup x = some .local) (hy : X.env.scope.names.lookup y = some .local) (hz : X.env.scope.names.lookup w = some .local)
    (ha : DQ K mg E T X [d1, d2, d3] [a, b, c] t fs) (hd : ([d1, d2, d3, i, j, l] : List Nat).Nodup)
    (hw : swappedStores [.Tuple [.Name x px, .Name y py, .Name w pz] kt pt] (.Tuple [a, b, c] k2 pt2) X.env = pure (some [x, y, w])) (hs : swapsWithSole [.Tuple [.Name x px, .Name y py, .Name w pz] kt pt] (.Tuple [a, b, c] k2 pt2) pos.line X.env = pure false) :
    DS K mg E T X (.Assign [.Tuple [.Name x px, .Name y py, .Name w pz] kt pt] (.Tuple [a, b, c] k2 pt2) pos) (tPq3 i j l t) (sPar [d1, d2, d3] [i, j, l] fs) := by
  simp only [List.nodup_cons, List.mem_cons, List.not_mem_nil, or_false, not_or, not_false_eq_true, List.nodup_nil, and_true] at hd
  obtain ⟨⟨n1, n2, n3, n4, n5⟩, ⟨n6, n7, n8, n9⟩, ⟨n10, n11, n12⟩, ⟨n13, n14⟩, n15⟩ := hd
  refine ⟨ha.k, ha.m, ps_pq3 hc hN hi hj hl n13 n14 n15 hx hy hz ha.pq hw hs, fun B Φ H σ ρ hM s D z => ha.imp B Φ H σ ρ s _ ?_⟩
  refine (par_end (D := D) (ds := [d1, d2, d3]) (is := [i, j, l]) (by simp [n1, n2, n6]) rfl (by simp; exact ⟨⟨Ne.symm n3, Ne.symm n7, Ne.symm n10⟩, ⟨Ne.symm n4, Ne.symm n8, Ne.symm n11⟩, Ne.symm n5, Ne.symm n9, Ne.symm n12⟩) z).mono fun vs σ1 H1 ⟨h1, h2, _⟩ => ?_
  match vs, h1 with
  | [v, u, r], _ => exact ⟨v, u, r, rfl, h2⟩
/-- targets that are names -/
structure DGN (X : Cx) (tgs : List Expr) (g : TGs) (is : List Nat) : Prop where
  pg : PGs X tgs g
  ln : (assignEach tgs X.env).length = is.length
  rd : ∀ vs σ H (Q : L2.St → Hp → Prop), vs.length = is.length → Q (setD σ is vs) H → g vs σ H Q
theorem dgn_nil : DGN X [] gNil [] := ⟨pgs_nil, rfl, fun vs σ H Q hl q => by
  match vs, hl with
  | [], _ => exact ⟨rfl, q⟩⟩
theorem dgn_cons {es : List Expr} {u : TGs} {is : List Nat} {pos' : Pos} (hN : X.N.Nodup) (hi : X.N[i]? = some x) (hx : Loc X.env.scope x) (hf : X.fn x = true ∨ X.env.scope.names.lookup x = some .local) (h : DGN X es u is)
    (hs : (assignEach (.Name x pos' :: es) X.env).map (·.2) = assign (.Name x pos') X.env :: (assignEach es X.env).map (·.2)) (hn : (assignEach (.Name x pos' :: es) X.env).length = (assignEach es X.env).length + 1) : DGN X (.Name x pos' :: es) (gCons (gName i) u) (i :: is) :=
  ⟨pgs_cons (pg_name hN hi hx hf) h.pg hs, by rw [hn, h.ln]; rfl, fun vs σ H Q hl q => by
    match vs, hl with
    | v :: vs, hl => exact ⟨v, vs, rfl, h.rd vs _ H Q (by simpa using hl) q⟩⟩
theorem ds_parG {tgs es : List Expr} {g : TGs} {is : List Nat} (hc : X.calm = true) (ha : DQ K mg E T X ds es t fs) (hg : DGN X tgs g is) (hl : is.length = ds.length) (hz : ds.length ≤ 1000) (nd : ds.Nodup) (dj : ∀ i ∈ is, i ∉ ds) (hst : (assignEach tgs X.env).findIdx? (·.1) = none)
    (hs : swapsWithSole [.Tuple tgs kt pt] (.Tuple es k2 pt2) pos.line X.env = pure false) (hw : swappedStores [.Tuple tgs kt pt] (.Tuple es k2 pt2) X.env = pure none) (h1 : (assignEach [.Tuple tgs kt pt] X.env).map (·.2) = [assign (.Tuple tgs kt pt) X.env]) :
    DS K mg E T X (.Assign [.Tuple tgs kt pt] (.Tuple es k2 pt2) pos) (tPqG X.K ds.length g t) (sPar ds is fs) := by
  refine ⟨ha.k, ha.m, ps_pqG hc ha.pq hg.pg (by rw [hg.ln, hl]) hst hs hw h1, fun B Φ H σ ρ hM s D z => ha.imp B Φ H σ ρ s _ ?_⟩
  exact (par_end nd hl dj z).mono fun vs σ1 H1 ⟨h1, _, h2⟩ => ⟨h1, by rw [sizeLine_eq]; omega, fun p np => hg.rd vs σ1 _ _ (by rw [h1, hl]) (h2 p np)⟩
end
end
end TP
set_option Elab.async false
set_option linter.all false
set_option maxRecDepth 100000
set_option maxHeartbeats 2001234
/-! Tree programs: sorted of tuples. -/
namespace TP
section
open PySem PySem.Spec PyProof.Rows Builtin
variable {prog : Program} {w : World} {A : Around} {E : Value → Shared → Prop} {s : Shared} {l : Addr} {vs : List Value}
theorem collect_tup {Q : List Value → Shared → Prop} (ht : IsTup s.heap l vs.toArray) (hz : vs.length ≤ sizeLine)
    (h : Q vs { s with heap := (s.heap.push (seqObj "list" #[] 0)).update s.heap.objs.size (Obj.mapSeq (· ++ vs.toArray)) }) : wpAny (model prog w) A (collect (.ref l)) Q E s := by
  obtain ⟨o, ho, hc, n, hd₀⟩ := ht
  unfold collect
  refine wpAny_bind (wpAny_runValue
          (codeAny_builtin entry_proto_collect' ?_))
  show wpAny _ _ (do again (.builtin "list.__iadd__" ⟨[← newList [], .ref l], []⟩)) _ _ _
  refine wpAny_bind (wpAny_newList (wpAny_pure ⟨Code.quiet_builtin
          _ (by decide +kernel), codeAny_builtin entry_list_iadd' ?_⟩))
  show wpAny _ _ (Builtin.List.listExtendWith (.ref s.heap.objs.size) (.ref l) (.ref s.heap.objs.size)) _ _ ({ s with heap := s.heap.push (seqObj "list" #[] 0) })
  unfold
          Builtin.List.listExtendWith
  have ho2 : (s.heap.push (seqObj "list" #[] 0)).get? l = some o := Heap.get?_push_of_some _ ho
  refine wpAny_bind (wpAny_typeOf (T := "tuple") ⟨o, ho2, hc⟩ ?_)
  have tt : (Value.type "tuple" == Value.type "tuple") = true := by rfl
  rw [if_pos (by rw [tt]; simp)]
  refine wpAny_bind (listItems_at ho2 hd₀ ?_)
  refine wpAny_bind (listItems_at (xs := #[])
          (n := 0) (Heap.get?_push_size _ rfl) rfl ?_)
  rw [if_neg (by simp)]
  have fits : ((#[] : Array Value) ++ vs.toArray).size ≤ sizeLine + 1 := by
    simp
    omega
  refine wpAny_bind (listUpdate_at (xs := #[]) (n := 0) (Heap.get?_push_size _ rfl) rfl ?_ (Nat.zero_le _) fits)
  refine wpAny_pure ?_
  show wpAny (model
          prog w) A (do
      let q ← load s.heap.objs.size
      match q.data with
      | .seq xs _ => pure xs.toList
      | _ => unsupported "internal:collect") Q E _
  refine wpAny_bind (wpAny_load (get?_update_seq
          (Heap.get?_push_size _ rfl) _) ?_)
  show wpAny _ _ (pure ((#[] : Array
          Value) ++ vs.toArray).toList) Q E _
  rw [(by simp : ((#[] : Array Value) ++ vs.toArray).toList = vs)]
  exact wpAny_pure h
theorem sorted_tup {ltv : Value → Value → Bool} {Q : Value → Shared → Prop} (O : SrtO.Swo ltv) (ht : IsTup s.heap l vs.toArray) (hz : vs.length ≤ sizeLine)
    (hS : 2 ≤ vs.length → ∀ (h1 : Heap) (a : Addr), h1.get? a = some (seqObj "list" vs.toArray 0) → (∀ b o, s.heap.get? b = some o → b ≠ a ∧ h1.get? b = some o) → SrtO.SortableO prog w A.in1.in1 { s with heap := h1 } a vs ltv)
    (h : ∀ out : List Value, SrtO.Srtd ltv out → SrtO.Stb ltv out vs → Q (.ref (s.heap.objs.size + 1)) { s with heap := sortedAll s.heap vs out.toArray }) : wpAny (model prog w) A (call (.builtin "sorted") [.ref l]) Q E s := by
  refine Calls.call_function_entry kind_sorted
          plain_sorted entry_sorted (args_sorted1 _) ?_
  unfold Builtin.«sorted»
  refine wpAny_bind (m := checkCount
          "sorted" 1 1 _) (wpAny_pure ?_)
  refine wpAny_bind (collect_tup ht hz ?_)
  refine wpAny_bind
          (wpAny_newList ?_ hz)
  have size1 : ((s.heap.push (seqObj "list" #[] 0)).update s.heap.objs.size (Obj.mapSeq (· ++ vs.toArray))).objs.size = s.heap.objs.size + 1 := by rw [Heap.size_update, Heap.size_push]
  have at1 : (((s.heap.push (seqObj "list" #[] 0)).update s.heap.objs.size (Obj.mapSeq (· ++ vs.toArray))).push (seqObj "list" vs.toArray 0)).get? (s.heap.objs.size + 1) = some (seqObj "list" vs.toArray 0) := by
    rw [← size1]; exact Heap.get?_push_size _ rfl
  have kept : ∀ b o, s.heap.get? b = some o → b ≠ s.heap.objs.size + 1 ∧ (((s.heap.push (seqObj "list" #[] 0)).update s.heap.objs.size (Obj.mapSeq (· ++ vs.toArray))).push (seqObj "list" vs.toArray 0)).get? b = some o := fun b o q₀ => by
    have lt : b < s.heap.objs.size := Heap.lt_size q₀
    refine ⟨Nat.ne_of_lt (Nat.lt_succ_of_lt lt), Heap.get?_push_of_some _ ?_⟩
    rw [Heap.get?_update_ne _ _ _ _ (Nat.ne_of_lt lt)]
    exact Heap.get?_push_of_some _ q₀
  show wpAny _ _ _ _ _ { s with heap := ((s.heap.push (seqObj "list" #[] 0)).update
          s.heap.objs.size (Obj.mapSeq (· ++ vs.toArray))).push (seqObj "list" vs.toArray 0) }
  rw [size1]
  refine wpAny_bind (wpAny_holding (wpAny_call_entry slot_list_sort ⟨_, at1, rfl⟩ entry_list_sort (SrtO.list_sort_ord O at1 hz (fun h2 => hS h2 _ _ at1 kept) fun out k1 k2 => ⟨_, rfl, ?_⟩) (args_list_sort _)))
  exact wpAny_pure ⟨_, rfl, h out k1 k2⟩
end
open PySem L2 PyProof.Rows PySem.Spec
/-- sorted(a list, a tuple of ints) -/
def rSortLT (K : PySem.W.Frag) : List V → Hp → VK → Prop := fun vs H Q => rSortedI K vs H Q ∨ ∃ (a : Addr) (ns : List Int), vs = [V.ref a] ∧ SqT K H a (ns.map V.int) ∧
  ∀ (ns' : List Int) (p : Addr), ns'.Perm ns → ns'.Pairwise (· ≤ ·) → H p = none → Q (.ref p) (L2.upd H p (.lst (ns'.map V.int)))
theorem cr_sortLT {X : Cx} : CallR X (.builtin "sorted") (rSortLT X.K) := by
  intro pins s σ H₀ vs us Q I r h
  rcases h with h | ⟨a, ns, rfl, hs, q⟩
  · exact cr_sortedI pins s σ H₀ vs us Q I r h
  · obtain ⟨its, rv, hl, hz⟩ := I.tuple hs
    rw [Vals.ref1 r]
    have hi := rv.ints
    refine sorted_tup SrtO.swo_int hl (by rw [← rv.length]; exact hz) (fun h2₀ _ _ _ _ => SrtO.ints_sortable hi h2₀) fun out h1 h2₀ => ?_
    obtain ⟨k1, k2₀, k3⟩ := SrtO.ints_out hi h1 h2₀
    obtain ⟨ep, at'⟩ := PyProof.Rows.sortedAll_at s.heap its out.toArray
    have len : ((out.map SrtO.iv).map V.int).length ≤ sizeLine := by
      rw [List.length_map, k2₀.length_eq]
      rw [List.length_map] at hz
      exact hz
    exact ⟨.ref _, L2.upd H₀ (s.heap.objs.size + 1) (.lst ((out.map SrtO.iv).map V.int)), I.laid (t' := s.toks) (fun _ _ => PyProof.Rows.sortedAll_old) (Nat.le_succ _) ⟨len, out, ep, vals_of_ints k1, at'⟩, rfl, q _ _ k2₀ k3 (I.hok.fresh (Nat.le_succ _))⟩
end TP
set_option Elab.async false
set_option linter.all false
set_option maxRecDepth 100000
/-! Tree programs: index, sorted, ranges, chains, minus, stores into one's own list. -/
namespace TP
open PySem L2 PyProof.Rows PySem.Spec
def bSort : D → R (List D)
  | .lst ds => match D.ints ds with
    | some ns => .ok ((isort ns).map D.int)
    | none => .stuck
  | .tup ds => match D.ints ds with
    | some ns => .ok ((isort ns).map D.int)
    | none => .stuck
  | _ => .stuck
theorem sort_nx : ∀ x, NoX (bSort x) := fun x z => by
  unfold bSort
  repeat' split
  all_goals exact fun w => by cases w
section
variable {K : PySem.W.Frag} {mg : Str → Option Value}
theorem sem_sort : Op1N K mg (rSortLT K) bSort := by
  intro Φ H x dx Q ex hx h
  have fin : ∀ {ns : List Int}, PostN K mg (fun _ _ _ => False) Φ H (.ok ((isort ns).map D.int)) Q → ∀ (ns' : List Int) (p : Addr), ns'.Perm ns → ns'.Pairwise (· ≤ ·) → H p = none → Q (.ref p) (L2.upd H p (.lst (ns'.map V.int))) := fun {ns} h ns' p pm st np => by
    have en : ns' = isort ns := sorted_unique (pm.trans (isort_perm ns).symm) st (isort_sorted ns)
    subst en
    exact h p _ Φ _ (Gr.newM ex np) np (Ex.none (e := ex) np) upd_same (SeeAll.ofInts _)
  unfold bSort at h
  split at h
  · split at h
    · rename_i ds ns e
      obtain ⟨p, vs, rfl, e1, s1⟩ := hx.lst ex
      rw [ints_some e] at s1
      rw [SeeAll.ints s1] at e1
      exact .inl ⟨p, ns, rfl, .inl (.inl e1), fin h⟩
    · exact h.elim
  · split at h
    · rename_i ds ns e
      obtain ⟨p, vs, rfl, e1, _, s1⟩ := hx.tup ex
      rw [ints_some e] at s1
      rw [SeeAll.ints s1] at e1
      exact .inr ⟨p, ns, rfl, e1, fin h⟩
    · exact h.elim
  · exact h.elim
end
theorem PostE.mono {K : PySem.W.Frag} {mg : Str → Option Value} {E : XK} {Φ H : Hp} {r : R D} {Q Q' : VK} (h : PostE K mg E Φ H r Q) (q : ∀ v H', Q v H' → Q' v H') : PostE K mg E Φ H r Q' := by
  cases r with
  | ok d => exact fun v Φ' H' g s => q _ _ (h v Φ' H' g s)
  | raise x => exact h
  | stuck => exact h
/-! ### x.index(y), numbers -/
def tIdx (K : PySem.W.Frag) (to te : TE) : TE := fun σ H Q => to σ H fun x H1 => ∃ a, x = .ref a ∧
  (((∃ ys, SqL K H1 a ys) ∧ te σ H1 fun y H2 => ∃ (ns : List Int) (n : Int) (j : Nat), y = .int n ∧ SqL K H2 a (ns.map V.int) ∧ ns.findIdx? (· == n) = some j ∧ Q (.int j) H2) ∨
    ((∃ ys, SqG K H1 a ys) ∧ te σ H1 fun y H2 => ∃ (ns : List Int) (n : Int) (j : Nat), y = .int n ∧ SqT K H2 a (ns.map V.int) ∧ ns.findIdx? (· == n) = some j ∧ Q (.int j) H2))
theorem flat_ints (ns : List Int) : (ns.map V.int).all flatV = true := by
  rw [List.all_map]
  exact List.all_eq_true.mpr
          fun _ _ => rfl
theorem find_at {ns : List Int} {n : Int} {j : Nat} (h : ns.findIdx? (· == n) = some j) : ns[j]? = some n ∧ ∀ m, m < j → ns[m]? ≠ some n := by
  obtain ⟨h1, h2, h3⟩ := List.findIdx?_eq_some_iff_getElem.mp h
  refine ⟨?_, fun m hm q => ?_⟩
  · rw [List.getElem?_eq_getElem h1, beq_iff_eq.mp h2]
  · have hl := (List.getElem?_eq_some_iff.mp q).1
    have e := (List.getElem?_eq_some_iff.mp q).2
    have z := h3 m hm
    rw [e] at z
    simp at z
section
variable {X : Cx} {pins : List (Addr ×
        Obj)} {σ : L2.St} {H : Hp} {s : Shared}
theorem g_is {a : Addr} {ys : List V} (I : Inv X pins σ H s) (h : SqG X.K H a ys) : s.TypeIs (.ref a) "tuple" ∧ ∃ ob, s.heap.get? a = some ob ∧ ob.dict = none := by
  rcases h with ⟨o, h, hd⟩ | ⟨o, its, n, h1, h2, h3, _⟩
  · obtain ⟨e, _, _, _, o', k1, k2, _⟩ := (show ObjOk X.prog X.w H s.heap a (.frz o (.tup ys)) from I.hok a _ h)
    exact ⟨⟨o', k1, k2⟩, o, e, hd⟩
  · exact ⟨⟨o, I.kIn _ _ h1, h2⟩, o, I.kIn _ _ h1, h3⟩
theorem mt_tupI : MtR X "tuple.index" (fun x xs H Q => ∃ p, ∃ ns : List Int, ∃ n j, x = .ref p ∧ xs = [.int n] ∧ SqT X.K H p (ns.map V.int) ∧ ns.findIdx? (· == n) = some j ∧ Q (.int (j : Nat)) H) := by
  intro pins s₀ σ H x xs v us Q I rx rs h
  obtain ⟨p, ns, n, j, rfl, rfl, hq, hf, q⟩ := h
  obtain ⟨hy₀, hno⟩ := find_at hf
  cases rx
  obtain ⟨u₀, rfl, t, rfl⟩ := vals1 rs
  obtain ⟨its, r₀, ⟨⟨cls, dd, dt, sl⟩, ho, hc, k, hd⟩, hz⟩ := I.tuple hq
  simp only at hc hd
  subst hc
  subst hd
  have hl : its.toArray.size = ns.length := by rw [List.size_toArray, ← r₀.length, List.length_map]
  have hj : j < its.toArray.size := by rw [hl]; exact (List.getElem?_eq_some_iff.mp hy₀).1
  have at1 : ∀ (m₀ : Nat) (hm : m₀ < its.toArray.size), ∃ i t', ns[m₀]? = some i ∧ its.toArray[m₀] = Value.int i t' := fun m₀ hm => by
    have hm' : m₀ < ns.length := by rw [← hl]; exact hm
    obtain ⟨w, hw₀, t', hw'⟩ := r₀.get (i := m₀) (x := .int ns[m₀]) (by simp [hm'])
    refine ⟨ns[m₀], t', List.getElem?_eq_getElem hm', ?_⟩
    have e := (List.getElem?_eq_some_iff.mp hw₀).2
    rw [← hw', ← e]
    simp
  refine call_meets PySem.F.slot_tuple_index ⟨_, ho, rfl⟩ PySem.F.entry_tuple_index (PySem.F.args_tuple_index_2 _ _) (TI.tuple_indexAt p its.toArray k dd sl (.int n t) (eqU (.int n)) j hj ?_ ?_)
    ⟨ho, fun w hw₀ => mem_eqAt (x := .int n) ⟨t, rfl⟩ rfl r₀ (flat_ints ns) w (by simpa using hw₀), ⟨.int (j : Nat), H, I.tok _, ⟨_, rfl⟩, q⟩⟩
  · obtain ⟨i, t', h1, h2⟩ := at1 j hj
    rw [hy₀] at h1
    cases h1
    rw [h2]
    show (n == n) = true
    exact beq_self_eq_true n
  · intro m₀ hm hmj
    obtain ⟨i, t', h1, h2⟩ := at1 m₀ hm
    rw [h2]
    show (i == n) = false
    exact beq_eq_false_iff_ne.mpr fun e => hno m₀ hmj (e ▸ h1)
variable {o e : Expr} {to te : TE} {apos cpos : Pos}
theorem pe_idx (ho : PE X o to) (he : PE X e te) (hbase : attributeBase o "index" X.env (eval o X.env) = eval o X.env)
    (hfew : ((backTo cpos (starEach [e] X.env)).all (fun x => !x.1) && (backToKw cpos (keywordEach [] X.env)).all (fun x => x.1.isSome) && decide ([e].length + ([] : List Keyword).length + (if ([] : List Keyword).isEmpty then 0 else 1) < 30)) = true)
    (hline : (apos.endLine == cpos.line) = true) (hs : starEach [e] X.env = (false, eval e X.env) :: starEach [] X.env) (hplain : (backTo cpos (starEach ([] : List Expr) X.env)).any (·.1) = false) :
    PE X (.Call (.Attribute o "index" apos) [e] [] cpos) (tIdx X.K to te) := by
  refine ⟨fun ps s σ H Q I h => wpAny_Call_method_late hbase hfew hline rfl (thn (ho.run ps s σ H _ I h) fun v₀ s1 ⟨x, H1, I1, r1, a, ex, q1⟩ => ?_)⟩
  subst ex
  obtain rfl : v₀ = Value.ref a := r1
  rcases q1 with ⟨⟨ys, hL⟩, q1⟩ | ⟨⟨ys, hG⟩, q1⟩
  · obtain ⟨k1, k2⟩ := tyV_is (x := .ref a) (T := "list") I1 rfl (.inl ⟨rfl, ys, hL⟩)
    refine ⟨"list", "list.index", PySem.F.plainAttrs_list, PySem.F.slot_list_index, PySem.F.type_list_index, k1, k2, ?_⟩
    rw [hs]
    refine Calls.callWith_builtin (by show (false || (backTo cpos (starEach ([] : List Expr) X.env)).any (·.1)) = false; rw [hplain]; rfl) (Calls.evalArgs_plain (Calls.spliced_cons (thn (he.run ps s1 σ H1 _ I1 q1) fun u s2 ⟨y, H2, I2, r2, ns, n, j, ey, hq, hf, q⟩ => Calls.spliced_nil ?_)))
    subst ey
    obtain ⟨hy, hno⟩ := find_at hf
    exact mt_index ps s2 σ H2 (.ref a) [.int n] _ [u] Q I2 rfl (.cons r2 .nil) ⟨a, ns.map V.int, .int n, j, .int n, rfl, rfl, hq, rfl, flat_ints ns, by rw [List.getElem?_map, hy]; rfl, beq_self_eq_true n, fun m z hm hz => by
      rw [List.getElem?_map] at hz
      cases w : ns[m]? with
      | none => rw [w] at hz; cases hz
      | some i =>
        rw [w] at hz
        cases hz
        exact beq_eq_false_iff_ne.mpr fun q => hno m hm (by rw [w, q]), q⟩
  · obtain ⟨k1, ob, k2, k3⟩ := g_is I1 hG
    refine ⟨"tuple", "tuple.index", PySem.F.plainAttrs_tuple, PySem.F.slot_tuple_index, PySem.F.type_tuple_index, k1, fun b z => by cases z; exact ⟨ob, k2, k3⟩, ?_⟩
    rw [hs]
    refine Calls.callWith_builtin (by show (false || (backTo cpos (starEach ([] : List Expr) X.env)).any (·.1)) = false; rw [hplain]; rfl) (Calls.evalArgs_plain (Calls.spliced_cons (thn (he.run ps s1 σ H1 _ I1 q1) fun u s2 ⟨y, H2, I2, r2, ns, n, j, ey, hq, hf, q⟩ => Calls.spliced_nil ?_)))
    subst ey
    exact mt_tupI ps s2 σ H2 (.ref a) [.int n] _ [u] Q I2 rfl (.cons r2 .nil) ⟨a, ns, n, j, rfl, rfl, hq, hf, q⟩
end
/-- on trees -/
def idxR (ds : List D) (y : D) : R D := match D.ints ds, y with
  | some ns, .int n => match ns.findIdx? (· == n) with
    | some j => .ok (.int j)
    | none => .stuck
  | _, _ => .stuck
def dIdx (f g : S → R D) : S → R D := fun ρ => (f ρ).bind fun x => match x with
  | .lst ds => (g ρ).bind (idxR ds)
  | .tup ds => (g ρ).bind (idxR ds)
  | _ => .stuck
theorem idxR_cases (ds : List D) (y : D) : idxR ds y = .stuck ∨ ∃ (ns : List Int) (n : Int) (j : Nat), y = .int n ∧ D.ints ds = some ns ∧ ns.findIdx? (· == n) = some j ∧ idxR ds y = .ok (.int j) := by
  unfold idxR
  split
  · rename_i ns n e
    split
    · rename_i j q
      exact .inr ⟨ns, n, j, rfl, e, q, rfl⟩
    · exact .inl rfl
  · exact .inl rfl
section
variable {K : PySem.W.Frag} {mg : Str → Option Value} {T : List (Addr × Str)} {E : XK} {X : Cx} {o e : Expr} {to te : TE} {f g : S → R D} {apos cpos : Pos}
theorem de_idx (ha : DB K mg E T X o to f) (hb : DE K mg E T X e te g) (hbase : attributeBase o "index" X.env (eval o X.env) = eval o X.env)
    (hfew : ((backTo cpos (starEach [e] X.env)).all (fun x => !x.1) && (backToKw cpos (keywordEach [] X.env)).all (fun x => x.1.isSome) && decide ([e].length + ([] : List Keyword).length + (if ([] : List Keyword).isEmpty then 0 else 1) < 30)) = true)
    (hline : (apos.endLine == cpos.line) = true) (hs : starEach [e] X.env = (false, eval e X.env) :: starEach [] X.env) (hplain : (backTo cpos (starEach ([] : List Expr) X.env)).any (·.1) = false) :
    DE K mg E T X (.Call (.Attribute o "index" apos) [e] [] cpos) (tIdx K to te) (dIdx f g) := by
  obtain ⟨k, m, pa, ia⟩ := ha
  subst k
  refine ⟨rfl, m, pe_idx pa hb.pe hbase hfew hline hs hplain, fun B Φ H σ ρ s Q q => ?_⟩
  refine ia B Φ H σ ρ s _ (PostB.bindE q fun dx x Φ1 H1 g1 s1 q1 => ?_)
  have cont : ∀ {ds : List D}, PostE X.K mg E Φ1 H1 ((g ρ).bind fun y => idxR ds y) Q → PostE X.K mg E Φ1 H1 (g ρ) fun y H2 => ∃ (ns : List Int) (n : Int) (j : Nat), y = .int n ∧ D.ints ds = some ns ∧ ns.findIdx? (· == n) = some j ∧ Ex H1 H2 ∧ Q (.int j) H2 := fun {ds} z => by
    cases w : g ρ with
    | raise x => rw [w] at z; exact z
    | stuck => rw [w] at z; exact z
    | ok dy =>
      rw [w] at z
      intro y Φ2 H2 g2 sy
      have z : PostE X.K mg E Φ1 H1 (idxR ds dy) Q := z
      rcases idxR_cases ds dy with q | ⟨ns, n, j, rfl, e1, e2, e3⟩
      · rw [q] at z; exact z.elim
      · rw [e3] at z
        cases sy
        exact ⟨ns, n, j, rfl, e1, e2, g2.h, z _ Φ2 H2 g2 (.int _)⟩
  cases dx with
  | lst ds =>
    obtain ⟨p, vs, rfl, e1, s2⟩ := s1.lst g1.ex
    refine ⟨p, rfl, .inl ⟨⟨vs, .inl (.inl e1)⟩, hb.imp B Φ1 H1 σ ρ (s.grow g1) _ (PostE.mono (cont q1) fun y H2 ⟨ns, n, j, a1, a2, a3, a4, a5⟩ => ⟨ns, n, j, a1, ?_, a3, a5⟩)⟩⟩
    rw [ints_some a2] at s2
    rw [SeeAll.ints s2] at e1
    exact .inl (.inl (a4 _ _ e1))
  | tup ds =>
    obtain ⟨p, vs, rfl, e1, e2, s2⟩ := s1.tup g1.ex
    refine ⟨p, rfl, .inr ⟨⟨vs, ex_g g1.ex e2⟩, hb.imp B Φ1 H1 σ ρ (s.grow g1) _ (PostE.mono (cont q1) fun y H2 ⟨ns, n, j, a1, a2, a3, a4, a5⟩ => ⟨ns, n, j, a1, ?_, a3, a5⟩)⟩⟩
    rw [ints_some a2] at s2
    rw [SeeAll.ints s2] at e1
    exact ex_t a4 e1
  | _ => exact False.elim q1
end
/-! ### chains, minus, ranges -/
section
variable {K : PySem.W.Frag} {mg : Str → Option Value} {T : List (Addr × Str)} {E : XK} {X : Cx} {a b c : Expr} {ta tb tc : TE} {f g h : S → R D} {fm gm hm : S → M D} {pos : Pos}
def dChain (k1 k2 : D → D → R D) (f g h : S → R D) : S → R D := fun ρ => (f ρ).bind fun x => (g ρ).bind fun y => ((k1 x y).bind asB).bind fun b => if b then (h ρ).bind fun z => k2 y z else .ok (.bl false)
theorem imp_chain {r1 r2 : R2} {k1 k2 : D → D → R D} (h1 : Op2 K mg r1 k1) (n1 : ∀ x y, NoX (k1 x y)) (h2 : Op2 K mg r2 k2) (n2 : ∀ x y, NoX (k2 x y)) (ha : ImpB K mg E T ta f) (hb : ImpB K mg E T tb g) (hc : ImpB K mg E T tc h) : ImpE K mg E T (tChain r1 r2 ta tb tc) (dChain k1 k2 f g h) := by
  intro B Φ H σ ρ s Q q
  refine ha B Φ H σ ρ s _ (PostB.bindE q fun dx x Φ1 H1 g1 s1 q1 => ?_)
  refine hb B Φ1 H1 σ ρ (s.grow g1) _ (PostB.bindE q1 fun dy y Φ2 H2 g2 s2 q2 => ?_)
  have sg : SOk K mg T B Φ2 H2 σ ρ := (s.grow g1).grow g2
  cases w : k1 dx dy with
  | raise x => exact absurd w (n1 dx dy x)
  | stuck => rw [w] at q2; exact q2.elim
  | ok d =>
    rw [w] at q2
    cases d with
    | bl k =>
      refine h1 Φ2 H2 x y dx dy _ g2.ex (s1.grow g2) s2 ?_
      rw [w]
      intro v Φ3 H3 g3 sv
      cases sv
      refine ⟨k, rfl, ?_⟩
      cases k with
      | false =>
        rw [if_neg (by decide)]
        exact q2 _ Φ3 H3 g3 (.bl _)
      | true =>
        rw [if_pos rfl]
        have q3 : PostE K mg E Φ3 H3 ((h ρ).bind fun z => k2 dy z) Q := PostE.grow g3 q2
        refine hc B Φ3 H3 σ ρ (sg.grow g3) _ (PostB.bindE q3 fun dz z Φ4 H4 g4 s4 q4 => ?_)
        exact h2 Φ4 H4 y z dy dz Q g4.ex ((s2.grow g3).grow g4) s4 (PostE.noX (n2 _ _) q4)
    | _ => exact False.elim q2
theorem de_chain {op op' : CmpOp} {r1 r2 : R2} {k1 k2 : D → D → R D} (o1 : OpR X (compareOp op) r1) (o2 : OpR X (compareOp op') r2) (h1 : Op2 K mg r1 k1) (n1 : ∀ x y, NoX (k1 x y)) (h2 : Op2 K mg r2 k2) (n2 : ∀ x y, NoX (k2 x y))
    (ha : DB K mg E T X a ta f) (hb : DB K mg E T X b tb g) (hc : DB K mg E T X c tc h) (hm : lastMarks [op, op'] [b, c] = false := by with_unfolding_all rfl) : DE K mg E T X (.Compare a [op, op'] [b, c] pos) (tChain r1 r2 ta tb tc) (dChain k1 k2 f g h) :=
  ⟨ha.k, ha.m, pe_chain o1 o2 ha.pe hb.pe hc.pe hm, imp_chain h1 n1 h2 n2 ha.imp hb.imp hc.imp⟩
theorem dt_chain {op op' : CmpOp} {r1 r2 : R2} {k1 k2 : D → D → R D} (o1 : OpR X (compareOp op) r1) (o2 : OpR X (compareOp op') r2) (h1 : Op2 K mg r1 k1) (n1 : ∀ x y, NoX (k1 x y)) (h2 : Op2 K mg r2 k2) (n2 : ∀ x y, NoX (k2 x y))
    (ha : DB K mg E T X a ta f) (hb : DB K mg E T X b tb g) (hc : DB K mg E T X c tc h) (hm : lastMarks [op, op'] [b, c] = false := by with_unfolding_all rfl) : DT K mg E T X (.Compare a [op, op'] [b, c] pos) (tTest (tChain r1 r2 ta tb tc)) (dT (dChain k1 k2 f g h)) :=
  ⟨ha.k, ha.m, pt_chain o1 o2 ha.pe hb.pe hc.pe hm, imp_test (imp_chain h1 n1 h2 n2 ha.imp hb.imp hc.imp)⟩
def negR : D → R D
  | .int i => .ok (.int (-i))
  | _ => .stuck
theorem de_neg (ha : DE K mg E T X a ta f) : DE K mg E T X (.UnaryOp .USub a pos) (tUn (rU fun i => .int (-i)) ta) (d1 negR f) := by
  refine ⟨ha.k, ha.m, pe_un un_neg ha.pe, fun B Φ H σ ρ s Q z => ha.imp B Φ H σ ρ s _ ?_⟩
  have z : PostE K mg E Φ H ((f ρ).bind negR) Q := z
  cases q : f ρ with
  | raise x => rw [q] at z; exact z
  | stuck => rw [q] at z; exact z
  | ok d =>
    rw [q] at z
    intro v Φ' H' g sv
    cases d with
    | int i => cases sv; exact ⟨i, rfl, z _ Φ' H' g (.int _)⟩
    | _ => exact False.elim z
/-- list(range(..)) -/
def rgR : D → R (List D)
  | .int n => if n.natAbs ≤ 16777216 then .ok (rangeD 0 n.toNat) else .stuck
  | _ => .stuck
theorem rg_see {Φ : Hp} {n : Int} : SeeAll K mg Φ (rgV 0 n) (rangeD 0 n.toNat) := by
  have e1 : rgV 0 n = ((List.range n.toNat).map fun (i : Nat) => (0 + (i : Int))).map V.int := by unfold rgV; rw [Int.sub_zero, List.map_map]; rfl
  have e2 : rangeD 0 n.toNat = ((List.range n.toNat).map fun (i : Nat) => (0 + (i : Int))).map D.int := by unfold rangeD; rw [List.map_map]; rfl
  rw [e1, e2]
  exact SeeAll.ofInts _
theorem dn_listRg {p p2 pos' : Pos} (hc : X.calm = true) (hg : Gl X "list") (hm : mg "list" = none) (hg2 : Gl X "range") (hm2 : mg "range" = none) (ha : DE K mg E T X a ta f) (na : starEach [.Call (.Name "range" p2) [a] [] pos] X.env = (false, eval (.Call (.Name "range" p2) [a] [] pos) X.env) :: starEach [] X.env)
    (nb : starEach [a] X.env = (false, eval a X.env) :: starEach [] X.env) : DN K mg E T X (.Call (.Name "list" p) [.Call (.Name "range" p2) [a] [] pos] [] pos') (tLstRg (tRg1 ta)) (d1N rgR f) := by
  refine ⟨ha.k, ha.m, pe_listRg hc hg (by rw [ha.m]; exact hm) (prg_1 hg2 (by rw [ha.m]; exact hm2) ha.pe nb) na, fun B Φ H σ ρ s Q z => ha.imp B Φ H σ ρ s _ ?_⟩
  have z : PostN K mg E Φ H ((f ρ).bind rgR) Q := z
  cases q : f ρ with
  | raise x => rw [q] at z; exact z
  | stuck => rw [q] at z; exact z
  | ok d =>
    rw [q] at z
    intro v Φ' H' g sv
    cases d with
    | int n =>
      cases sv
      have z : PostN K mg E Φ H (if n.natAbs ≤ 16777216 then .ok (rangeD 0 n.toNat) else .stuck) Q := z
      split at z
      · rename_i hn
        refine ⟨n, rfl, ⟨by decide, by decide, by omega, by omega, by omega⟩, fun p np => ?_⟩
        exact PostN.grow g z p _ Φ' _ (Gr.newM g.ex np) np (Ex.none (e := g.ex) np) upd_same rg_see
      · exact z.elim
    | _ => exact False.elim z
theorem dmn_listRg {p p2 pos' : Pos} (hc : X.calm = true) (hg : Gl X "list") (hm : mg "list" = none) (hg2 : Gl X "range") (hm2 : mg "range" = none) (ha : DM K mg E T X a ta fm) (na : starEach [.Call (.Name "range" p2) [a] [] pos] X.env = (false, eval (.Call (.Name "range" p2) [a] [] pos) X.env) :: starEach [] X.env)
    (nb : starEach [a] X.env = (false, eval a X.env) :: starEach [] X.env) : DMN K mg E T X (.Call (.Name "list" p) [.Call (.Name "range" p2) [a] [] pos] [] pos') (tLstRg (tRg1 ta)) (fun ρ => (fm ρ).lift rgR) := by
  refine ⟨ha.k, ha.m, pe_listRg hc hg (by rw [ha.m]; exact hm) (prg_1 hg2 (by rw [ha.m]; exact hm2) ha.pe nb) na, fun B Φ H σ ρ s Q z => ha.imp B Φ H σ ρ s _ ?_⟩
  have z : PostMN K mg E T B Φ σ ((fm ρ).bind fun d ρ => (rgR d).toM ρ) Q := z
  cases q : fm ρ with
  | raise x ρ1 => rw [q] at z; exact z
  | stuck => rw [q] at z; exact z
  | ok d ρ1 =>
    rw [q] at z
    intro v Φ' H' e s' sv
    cases d with
    | int n =>
      cases sv
      have z : PostMN K mg E T B Φ' σ ((if n.natAbs ≤ 16777216 then R.ok (rangeD 0 n.toNat) else .stuck).toM ρ1) Q := PostMN.ext e z
      split at z
      · rename_i hn
        refine ⟨n, rfl, ⟨by decide, by decide, by omega, by omega, by omega⟩, fun p np => ?_⟩
        exact PostMN.ofRX s' z p _ Φ' _ (Gr.newM s'.ex np) np (Ex.none (e := s'.ex) np) upd_same rg_see
      · exact z.elim
    | _ => exact False.elim z
end
end TP
set_option Elab.async false
set_option linter.all false
set_option maxRecDepth 100000
/-! Tree programs: more of lists of one's own; arguments that are lists of one's own. -/
namespace TP
open PySem L2 PyProof.Rows PySem.Spec
section
variable {K : PySem.W.Frag} {mg : Str → Option Value} {T : List (Addr × Str)} {E : XK} {X : Cx} {a b c e : Expr} {ta tb te : TE} {fm gm : S → M D} {pos p apos : Pos} {x : Str}
/-- xs[k] = e -/
def sSetI (i : Nat) (f g : S → M D) : S → M Fl := fun ρ => (f ρ).bind fun d ρ1 => match ρ1[i]? with
  | some (some (.ml _)) => (g ρ1).bind fun k ρ2 => match k, ρ2[i]? with
    | .int n, some (some (.ml ds)) => match ixN ds.length n with
      | some j => .ok .nx (ρ2.set i (some (.ml (ds.set j d))))
      | none => .stuck
    | _, _ => .stuck
  | _ => .stuck
theorem ds_seti (i : Nat) {p2 : Pos} (ha : DM K mg E T X a ta fm) (hb : DM K mg E T X b tb gm) (hN : X.N[i]? = some x) (hv : Vis X.env.scope x) (hd : (x == ("__debug__" : Str)) = false) (hcd : (x == ("__classdict__" : Str)) = false)
    (hasg : ∀ v, assign (.Subscript (.Name x p) b p2) X.env v = (do
      let ov ← holding [v] (eval (.Name x p) X.env)
      let iv ← holding [v, ov] (eval b X.env)
      standAt p2
      holding [v, ov, iv]
              (setItem ov iv v)
      release [v, ov, iv] []))
    (hs : swapsWithSole [.Subscript (.Name x p) b p2] a pos.line X.env = pure false) (hw : swappedStores [.Subscript (.Name x p) b p2] a X.env = pure none) (h1 : (assignEach [.Subscript (.Name x p) b p2] X.env).map (·.2) = [assign (.Subscript (.Name x p) b p2) X.env]) :
    DS K mg E T X (.Assign [.Subscript (.Name x p) b p2] a pos) (tAsg ta (gSub (tVar i) tb rSetL)) (sSetI i fm gm) := by
  refine ⟨ha.k, ha.m, ps_asg ha.pe (pg_sub (pe_var hN hv hd hcd) hb.pe set_list hasg) hs hw h1, fun B Φ H σ ρ hM s D z => ha.imp B Φ H σ ρ s _ (PostM.toS z fun d ρ1 v Φ1 H1 e1 s1 sv z1 => ?_)⟩
  split at z1
  rotate_left
  · exact z1.elim
  rename_i ds0 w0
  obtain ⟨q, _, eq, _⟩ := slot_ml s1 w0
  refine ⟨.ref q, eq, hb.imp B Φ1 H1 σ ρ1 s1 _ (PostM.toS z1 fun k ρ2 u Φ2 H2 e2 s2 su z2 => ?_)⟩
  split at z2
  · rename_i n ds w
    split at z2
    · rename_i j hj
      cases su
      obtain ⟨q', vs, f1, f2, f3, _⟩ := slot_ml s2 w
      rw [eq] at f1
      cases f1
      exact ⟨q, vs, n, j, rfl, rfl, f2, by rw [SeeAll.length f3]; exact hj, z2 Φ2 _ σ (Ex.refl _) (s2.setMl w eq (SeeAll.set (See.mono e2 sv) j f3))⟩
    · exact z2.elim
  · exact z2.elim
/-- xs.reverse(), xs.clear() -/
def mRev (i : Nat) : S → M D := fun ρ => match ρ[i]? with
  | some (some (.ml ds)) => .ok .non (ρ.set i (some (.ml ds.reverse)))
  | _ => .stuck
def mClear (i : Nat) : S → M D := fun ρ => match ρ[i]? with
  | some (some (.ml _)) => .ok .non (ρ.set i (some (.ml [])))
  | _ => .stuck
theorem dm_rev (i : Nat) (hN : X.N[i]? = some x) (hv : Vis X.env.scope x) (hk : X.K = K) (hm : X.mg = mg) (hd : (x == ("__debug__" : Str)) = false) (hcd : (x == ("__classdict__" : Str)) = false)
    (hbase : attributeBase (.Name x p) "reverse" X.env (eval (.Name x p) X.env) = eval (.Name x p) X.env) (hline : (apos.endLine == pos.line) = true) :
    DM K mg E T X (.Call (.Attribute (.Name x p) "reverse" apos) [] [] pos) (tBM0 X.K "list" rReverse (tVar i)) (mRev i) := by
  refine ⟨hk, hm, pe_bm0 PySem.F.plainAttrs_list PySem.F.slot_list_reverse PySem.F.type_list_reverse mt_reverse (pe_var hN hv hd hcd) hbase hline, fun B Φ H σ ρ s Q z => ?_⟩
  unfold mRev at z
  split at z
  · rename_i ds w
    obtain ⟨q, vs, e1, e2, e3, _⟩ := slot_ml s w
    exact ⟨_, e1, .inl ⟨rfl, vs, .inl (.inl e2)⟩, q, vs, rfl, rfl, e2, z .non Φ _ (Ex.refl _) (s.setMl w e1 (SeeAll.reverse e3)) .non⟩
  · exact z.elim
theorem dm_clear (i : Nat) (hN : X.N[i]? = some x) (hv : Vis X.env.scope x) (hk : X.K = K) (hm : X.mg = mg) (hd : (x == ("__debug__" : Str)) = false) (hcd : (x == ("__classdict__" : Str)) = false)
    (hbase : attributeBase (.Name x p) "clear" X.env (eval (.Name x p) X.env) = eval (.Name x p) X.env) (hline : (apos.endLine == pos.line) = true) :
    DM K mg E T X (.Call (.Attribute (.Name x p) "clear" apos) [] [] pos) (tBM0 X.K "list" rClear (tVar i)) (mClear i) := by
  refine ⟨hk, hm, pe_bm0 PySem.F.plainAttrs_list PySem.F.slot_list_clear PySem.F.type_list_clear mt_clear (pe_var hN hv hd hcd) hbase hline, fun B Φ H σ ρ s Q z => ?_⟩
  unfold mClear at z
  split at z
  · rename_i ds w
    obtain ⟨q, vs, e1, e2, e3, _⟩ := slot_ml s w
    exact ⟨_, e1, .inl ⟨rfl, vs, .inl (.inl e2)⟩, q, vs, rfl, rfl, e2, z .non Φ _ (Ex.refl _) (s.setMl w e1 .nil) .non⟩
  · exact z.elim
/-- a list of one's own is given up: it stays from now on -/
theorem SOk.own_gone {B : Bs} {Φ H : Hp} {σ : L2.St} {ρ : S} {i : Nat} {ds : List D} {q : Addr} {vs : List V} (hM : B.M = B.Dn) (s : SOk K mg T B Φ H σ ρ) (w : ρ[i]? = some (some (.ml ds))) (e1 : σ[i]? = some (some (.ref q))) (e2 : H q = some (.lst vs)) : SOk K mg T B (L2.upd Φ q (.lst vs)) H σ (ρ.set i none) ∧ Φ q = none := by
  obtain ⟨b, len, nd, x⟩ := id s
  obtain ⟨v, f1, f2⟩ := x.at_ i _ w
  rw [e1] at f1
  cases f1
  have hA : nd i = [q] := by
    generalize hh : nd i = A at f2
    cases f2 with
    | ml _ _ => rfl
  obtain ⟨o1, o2, o3⟩ := x.own i q (by rw [hA]; simp)
  have g := s.drop i
  obtain ⟨nd2, y⟩ := g.nds
  have nq : ∀ j, q ∉ nd2 j := fun j m => by
    by_cases z : j = i
    · subst z
      rw [y.emp j fun s' h => by
        rw [List.getElem?_set_self (List.getElem?_eq_some_iff.mp w).1] at h; cases h] at m
      cases m
    · have hh : nd2 j = nd j := by
        by_cases zz : ∃ s', ρ[j]? = some (some s')
        · obtain ⟨s', h⟩ := zz
          obtain ⟨u, g1, g2⟩ := y.at_ j s' (by rw [List.getElem?_set_ne (Ne.symm z)]; exact h)
          obtain ⟨u2, g3, g4⟩ := x.at_ j s' h
          rw [g1] at g3
          cases g3
          exact g2.nodes g4
        · rw [x.emp j fun s' h => zz ⟨s', h⟩]
          exact y.emp j fun s' h => zz ⟨s', by rw [List.getElem?_set_ne (Ne.symm z)] at h; exact h⟩
      rw [hh] at m
      exact z (x.inj j i q m (by rw [hA]; simp))
  by_cases h0 : B.H0 q = none
  · exact ⟨g.freeze (fun nd' y' j m => nq j (by rw [y.uniq y']; exact m)) h0 o1 e2, o1⟩
  · exact absurd (hM ▸ o3.resolve_left h0) (x.own2 i q ds (by rw [hA]; simp) w)
def frz (i : Nat) (ρ : S) : S := match ρ[i]? with
  | some (some (.ml ds)) => ρ.set i (some (.fz (.lst ds)))
  | _ => ρ
theorem SOk.frz {B : Bs} {Φ H : Hp} {σ : L2.St} {ρ : S} (i : Nat) (hM : B.M = B.Dn) (s : SOk K mg T B Φ H σ ρ) : ∃ Φ', Ex Φ Φ' ∧ SOk K mg T B Φ' H σ (TP.frz i ρ) := by
  unfold TP.frz
  split
  · rename_i ds w
    obtain ⟨q, vs, e1, e2, e3, _⟩ := slot_ml s w
    obtain ⟨g, nq⟩ := s.own_gone hM w e1 e2
    refine ⟨L2.upd Φ q (.lst vs), Ex.new nq, ?_⟩
    have h := g.set i (v := .ref q) (d := .lst ds) (.lst upd_same (SeeAll.mono (Ex.new nq) e3))
    rw [List.set_set] at h
    have es : σ.set i (some (V.ref q)) = σ := by
      apply List.ext_getElem?
      intro k
      by_cases z : i = k
      · subst z
        rw [e1, List.getElem?_set_self (List.getElem?_eq_some_iff.mp e1).1]
      · rw [List.getElem?_set_ne z]
    rw [es] at h
    exact h
  · exact ⟨Φ, Ex.refl _, s⟩
/-- slot i's list stays from here on -/
def sFrz (i : Nat) (p : S → M Fl) : S → M Fl := fun ρ => p (frz i ρ)
theorem ds_frz (i : Nat) {st : Stmt} {t : TS} {q : S → M Fl} (h : DS K mg E T X st t q) : DS K mg E T X st t (sFrz i q) := ⟨h.k, h.m, h.ps, fun B Φ H σ ρ hM s D z => by
  obtain ⟨Φ', e, s'⟩ := s.frz i hM
  exact h.imp B Φ' H σ _ hM s' D (PostS.ext K mg E T e z)⟩
/-! ### arguments that are lists of one's own, lent -/
mutual
/-- no list in it -/
def D.noL : D → Bool
  | .lst _ => false
  | .scr _ => false
  | .dic _ => false
  | .dit _ => false
  | .tup xs => noLs xs
  | .pr xs => noLs xs
  | .obj _ fs => noLf fs
  | .exc _ fs => noLf fs
  | _ => true
def noLs : List D → Bool
  | [] => true
  | x :: xs => D.noL x && noLs xs
def noLf : List (Str × D) → Bool
  | [] => true
  | (_, x) :: xs => D.noL x && noLf xs
end
end
/-- all but the addresses of L -/
def wo (Φ : Hp) (L : List Addr) : Hp := fun a => if a ∈ L then none else Φ a
section
variable {K : PySem.W.Frag} {mg : Str → Option Value} {Φ : Hp} {L : List Addr}
/-- at L there are lists and dicts alone -/
def LsAt (Φ : Hp) (L : List Addr) : Prop := ∀ a ∈ L, (∃ vs, Φ a = some (.lst vs)) ∨ (∃ vs, Φ a = some (.dK vs)) ∨ ∃ vs, Φ a = some (.dT vs)
theorem wo_at {a : Addr} {o : HO} (hL : LsAt Φ L) (h : Φ a = some o) (n1 : ∀ vs, o ≠ .lst vs) (n2 : ∀ vs, o ≠ .dK vs) (n3 : ∀ vs, o ≠ .dT vs) : wo Φ L a = some o := by
  unfold wo
  rw [if_neg fun m => ?_]
  · exact h
  · rcases hL a m with ⟨vs, e⟩ | ⟨vs, e⟩ | ⟨vs, e⟩
    · rw [h] at e; exact n1 vs (Option.some.inj e)
    · rw [h] at e; exact n2 vs (Option.some.inj e)
    · rw [h] at e; exact n3 vs (Option.some.inj e)
theorem ext_ne {φ : Heap → Prop} : (∀ vs, HO.ext φ ≠ .lst vs) ∧ (∀ vs, HO.ext φ ≠ .dK vs) ∧ ∀ vs, HO.ext φ ≠ .dT vs := ⟨fun _ z => (by cases z), fun _ z => (by cases z), fun _ z => (by cases z)⟩
mutual
theorem See.noL (hL : LsAt Φ L) : ∀ {v : V} {d : D}, See K mg Φ v d → d.noL = true → See K mg (wo Φ L) v d
  | _, _, .non, _ => .non
  | _, _, .bl b, _ => .bl b
  | _, _, .int i, _ => .int i
  | _, _, .str s, _ => .str s
  | _, _, .tup h r, n => by
    refine .tup ?_ (SeeAll.noL hL r n)
    rcases h with ⟨o, h, q⟩ | h
    · exact .inl ⟨o, wo_at hL h (fun _ z => (by cases z)) (fun _ z => (by cases z)) fun _ z => (by cases z), q⟩
    · exact .inr h
  | _, _, .pr h r, n => .pr (wo_at hL h (fun _ z => (by cases z)) (fun _ z => (by cases z)) fun _ z => (by cases z)) (SeeAll.noL hL r n)
  | _, _, .lst _ _, n => by cases n
  | _, _, .scr _, n => by cases n
  | _, _, .fn g, _ => .fn g
  | _, _, .dic _ _, n => by cases n
  | _, _, .dit _ _, n => by cases n
  | _, _, .obj g h r, n => .obj g (wo_at hL h (fun _ z => (by cases z)) (fun _ z => (by cases z)) fun _ z => (by cases z)) (SeeF.noL hL r n)
  | _, _, .exc0 g h, _ => .exc0 g (wo_at hL h ext_ne.1 ext_ne.2.1 ext_ne.2.2)
  | _, _, .exc1 g h hd r, n => .exc1 g (wo_at hL h ext_ne.1 ext_ne.2.1 ext_ne.2.2) (wo_at hL hd (fun _ z => (by cases z)) (fun _ z => (by cases z)) fun _ z => (by cases z)) (SeeF.noL hL r n)
theorem SeeAll.noL (hL : LsAt Φ L) : ∀ {vs : List V} {ds : List D}, SeeAll K mg Φ vs ds → noLs ds = true → SeeAll K mg (wo Φ L) vs ds
  | _, _, .nil, _ => .nil
  | _, _, .cons h t, n => .cons (See.noL hL h (Bool.and_eq_true_iff.mp n).1) (SeeAll.noL hL t (Bool.and_eq_true_iff.mp n).2)
theorem SeeF.noL (hL : LsAt Φ L) : ∀ {vs : List (Str × V)} {ds : List (Str × D)}, SeeF K mg Φ vs ds → noLf ds = true → SeeF K mg (wo Φ L) vs ds
  | _, _, .nil, _ => .nil
  | _, _, .cons h t, n => .cons (See.noL hL h (Bool.and_eq_true_iff.mp n).1) (SeeF.noL hL t (Bool.and_eq_true_iff.mp n).2)
end
end
end TP
set_option Elab.async false
set_option linter.all false
set_option maxRecDepth 100000
/-! Tree programs: what the printed texts lean on. -/
namespace TP
open PySem L2 PyProof.Rows PySem.Spec LamX
/-- the same names for X and the law -/
structure Is (X : Cx) (P : Program) (w : World) (K : PySem.W.Frag) (mg : Str → Option Value) (base : Heap) : Prop where
  p : X.prog = P
  w : X.w = w
  k : X.K = K
  m : X.mg = mg
  b : X.base = base
/-- the function at f -/
def fdA (K : PySem.W.Frag) (f : Addr) : FuncData := match K.lookup f with
  | some ⟨_, _, .func fd, _⟩ => fd
  | _ => PySem.W.fnOf "" "" { posonlyargs := [], args := [], vararg := none, kwonlyargs := [], kw_defaults := [], kwarg := none, defaults := [] } [] { kind := .function, names := [], isGenerator := false, isCoroutine := false } .none .none .none .none none .none .none
theorem fun_at {K : PySem.W.Frag} {x qual : Str} {st : Stmt} {f : Addr} {fd : FuncData} (F : L2.Fun K x qual st f fd) : L2.Fun K x qual st f (fdA K f) := by
  obtain ⟨⟨oc, od, kV, doc, pm, an, cdv, ct, osl, e, lk, c⟩, kp⟩ := F
  refine ⟨⟨oc, od, kV, doc, pm, an, cdv, ct, osl, ?_, ?_, c⟩, kp⟩
  · unfold fdA; rw [lk]; exact e
  · unfold fdA; rw [lk]
section
variable {P : Program} {w : World} {K : PySem.W.Frag} {mg : Str → Option Value} {base : Heap} {N : List Str} {q : Str} {sc : Scope} {f : Addr} {cd : Value} {A : Around} {outer : List Env} {s : Shared} {H : Hp} {E : XK}
theorem cx_takes : L2.Takes (cxOf (L2.CX P w) P w K mg base N q sc f cd A outer s H E) fun c d _ H' => E c d H' := takes_of rfl rfl rfl rfl
theorem cx_pass : Passes (L2.CX P w) (cxOf (L2.CX P w) P w K mg base N q sc f cd A outer s H E) E := passes_call (X := cxOf (L2.CX P w) P w K mg base N q sc f cd A outer s H E) cx_takes fun _ _ _ _ h => h
theorem cx_own : PassesOwn (model P w) (cxOf (L2.CX P w) P w K mg base N q sc f cd A outer s H E).A (cxOf (L2.CX P w) P w K mg base N q sc f cd A outer s H E).env (cxOf (L2.CX P w) P w K mg base N q sc f cd A outer s H E).xe := passes_of (X := cxOf (L2.CX P w) P w K mg base N q sc f cd A outer s H E) rfl
variable {X : Cx} {scope : Scope} {c' : Addr}
theorem lam_takes : L2.Takes (lamCx X A outer s H E scope f c') fun c d _ H' => E c d H' := takes_of rfl rfl rfl rfl
theorem lam_pass : Passes (L2.CX (lamCx X A outer s H E scope f c').prog (lamCx X A outer s H E scope f c').w) (lamCx X A outer s H E scope f c') E := passes_call (X := lamCx X A outer s H E scope f c') lam_takes fun _ _ _ _ h => h
end
theorem dum_of {X : Cx} {d : Nat} {n : Str} (h : X.N[d]? = some n) (h2 : X.env.scope.names.lookup n = none) : Dum X d := ⟨n, h, fun z => by
  rcases z with z | z | z <;> exact absurd (h2.symm.trans z) (by simp)⟩
theorem u65 {k : Nat} {A : Around} (hr : Room k A) : A.units + 65 < cLine := by have := hr.un; omega
theorem tab_uniq : ∀ {T : List (Addr × Str)} {P : Addr} {q : Str}, (T.map (·.1)).Nodup → (P, q) ∈ T → ∀ p ∈ T, p.1 = P → p.2 = q
  | [], _, _, _, m, _, _, _ => by cases m
  | a :: T, P, q, nd, m, p, hp, e => by
    rw [List.map_cons,
            List.nodup_cons] at nd
    rcases List.mem_cons.mp m with m | m
    · rcases List.mem_cons.mp
            hp with z | hp
      · rw [z, ← m]
      · exact absurd (List.mem_map.mpr ⟨p, hp, by rw [e, ← m]⟩) nd.1
    · rcases List.mem_cons.mp
            hp with z | hp
      · exact absurd (List.mem_map.mpr ⟨_, m, by rw [← z, e]⟩) nd.1
      · exact tab_uniq nd.2 m p hp e
end TP
set_option Elab.async false
set_option linter.all false
set_option maxRecDepth 100000
/-! Tree programs: dicts that are written down; keywords. -/
namespace TP
open PySem L2 PyProof.Rows PySem.Spec LamX
section
variable (K : PySem.W.Frag) (mg : Str → Option Value) (E : XK) (T : List (Addr × Str))
def PostKD (Φ H : Hp) (r : R (List (Key × D))) (Q : List (V × V) → Hp → Prop) : Prop := match r with
  | .ok gs => ∀ (kvs : List (Key × V)) Φ' H', Gr Φ H Φ' H' → SeeK K mg Φ' kvs gs → kvs.map (·.1) = gs.map (·.1) → Q (kvs.map fun kv => (kV kv.1, kv.2)) H'
  | .raise x => PostX K mg E Φ H x
  | .stuck => False
structure DKs (X : Cx) (pos : Pos) (keys : List (Option Expr)) (values : List Expr) (trs : List (TE × TE)) (f : S → R (List (Key × D))) : Prop where
  k : X.K = K
  m : X.mg = mg
  pp : PPs X pos keys values trs
  imp : ∀ B Φ H σ ρ, SOk K mg T B Φ H σ ρ → ∀ Q, PostKD K mg E Φ H (f ρ) Q → tPairs trs σ H Q
end
def kNil : S → R (List (Key × D)) := fun _ => .ok []
def kCons (k : Key) (f : S → R D) (g : S → R (List (Key × D))) : S → R (List (Key × D)) := fun ρ => (f ρ).bind fun x => (g ρ).map fun xs => (k, x) :: xs
def keyE (k : Key) (j : Nat) (p : Pos) : Expr := .Constant (match k with
  | .inl i => .int i
  | .inr x => .str x) j p
section
variable {K : PySem.W.Frag} {mg : Str → Option Value} {T : List (Addr × Str)} {E : XK} {X : Cx} {e : Expr} {te : TE} {f : S → R D} {pos p : Pos} {j : Nat} {keys : List (Option Expr)} {values : List Expr} {trs : List (TE × TE)} {g : S → R (List (Key × D))}
theorem PostKD.grow {Φ Φ' H H' : Hp} {r : R (List (Key × D))} {Q : List (V × V) → Hp → Prop} (g : Gr Φ H Φ' H') (h : PostKD K mg E Φ H r Q) : PostKD K mg E Φ' H' r Q := by
  cases r with
  | ok d => exact fun kvs Φ2 H2 g2 s q => h kvs Φ2 H2 (g.trans g2) s q
  | raise x => exact PostX.grow g h
  | stuck => exact h
theorem dk_nil (hk : X.K = K) (hm : X.mg = mg) : DKs K mg E T X pos [] [] [] kNil := ⟨hk, hm, pps_nil, fun B Φ H σ ρ s Q z => z [] Φ H (Gr.refl s.ex) .nil rfl⟩
theorem key_pe {k : Key} : PE X (keyE k j p) (tC (kV k)) := by
  cases k with
  | inl i => exact pe_int
  | inr x => exact pe_str
theorem dk_cons (k : Key) (ha : DE K mg E T X e te f) (hr : DKs K mg E T X pos keys values trs g) : DKs K mg E T X pos (some (keyE k j p) :: keys) (e :: values) ((tC (kV k), te) :: trs) (kCons k f g) := by
  refine ⟨ha.k, ha.m, pps_cons key_pe ha.pe hr.pp, fun B Φ H σ ρ s Q z => ?_⟩
  refine ha.imp B Φ H σ ρ s _ ?_
  have z : PostKD K mg E Φ H ((f ρ).bind fun x => (g ρ).map fun xs => (k, x) :: xs) Q := z
  cases q : f ρ with
  | raise x => rw [q] at z; exact z
  | stuck => rw [q] at z; exact z
  | ok d =>
    rw [q] at z
    intro v Φ1 H1 g1 sv
    refine hr.imp B Φ1 H1 σ ρ (s.grow g1) _ ?_
    have z : PostKD K mg E Φ H ((g ρ).map fun xs => (k, d) :: xs) Q := z
    cases q2 : g ρ with
    | raise x => rw [q2] at z; exact PostX.grow g1 z
    | stuck => rw [q2] at z; exact z
    | ok gs =>
      rw [q2] at z
      exact fun kvs Φ2 H2 g2 s2 hk => z ((k, v) :: kvs) Φ2 H2 (g1.trans g2) (.cons (See.mono g2.p sv) s2) (by simp [hk])
theorem merge_new : ∀ (kvs acc : List (Key × V)), ((acc ++ kvs).map (·.1)).Nodup → mergeK acc kvs = acc ++ kvs
  | [], acc, _ => by show acc = _; rw [List.append_nil]
  | p :: r, acc, h => by
    have hp : putK acc p.1 p.2 = acc ++ [p] := by
      unfold putK
      rw [if_neg]
      intro z
      obtain ⟨q, hq, e⟩ := List.any_eq_true.mp z
      have e : q.1 = p.1 := of_decide_eq_true e
      rw [List.map_append, List.nodup_append] at h
      exact h.2.2 q.1 (List.mem_map.mpr ⟨q, hq, rfl⟩) p.1 (by simp) e
    show mergeK (putK acc p.1 p.2) r = _
    rw [hp, merge_new r (acc ++ [p]) (by simpa using h)]
    simp
/-- a dict that stays -/
def dDic (g : S → R (List (Key × D))) : S → R D := fun ρ => (g ρ).bind fun gs => if gs.length ≤ 15 ∧ (gs.map (·.1)).Nodup then .ok (.dic gs) else .stuck
theorem SeeK.len : ∀ {Φ : Hp} {vs : List (Key × V)} {ds : List (Key × D)}, SeeK K mg Φ vs ds → vs.length = ds.length
  | _, _, _, .nil => rfl
  | _, _, _, .cons _ t => by simp [SeeK.len t]
theorem de_dict (h : DKs K mg E T X pos keys values trs g) (hall : keys.all (·.isSome) = true) (hl : keys.length = values.length) (h0 : keys ≠ []) (h15 : keys.length ≤ 15) : DE K mg E T X (.Dict keys values pos) (tDisp trs) (dDic g) := by
  refine ⟨h.k, h.m, pe_disp h.pp hall hl h0 h15, fun B Φ H σ ρ s Q z p np => ?_⟩
  have g0 := Gr.newM (o := .dK []) s.ex np
  have z : PostE K mg E Φ H ((g ρ).bind fun gs => if gs.length ≤ 15 ∧ (gs.map (·.1)).Nodup then .ok (.dic gs) else .stuck) Q := z
  refine h.imp B Φ _ σ ρ (s.grow g0) _ ?_
  cases q : g ρ with
  | raise x => rw [q] at z; exact PostX.grow g0 z
  | stuck => rw [q] at z; exact z
  | ok gs =>
    rw [q] at z
    intro kvs Φ1 H1 g1 s1 hk
    have hp : H1 p = some (.dK []) := g1.h _ _ upd_same
    refine ⟨hp, kvs, rfl, ?_⟩
    have z : PostE K mg E Φ H (if gs.length ≤ 15 ∧ (gs.map (·.1)).Nodup then .ok (.dic gs) else .stuck) Q := z
    split at z
    · rename_i c
      refine ⟨by rw [SeeK.len s1]; exact c.1, ?_⟩
      rw [merge_new kvs [] (by rw [List.nil_append, hk]; exact c.2), List.nil_append]
      have n1 : Φ1 p = none := g1.nm p (Ex.none (e := s.ex) np) (not_none upd_same)
      refine z _ (upd Φ1 p (.dK kvs)) _ ⟨g1.p.trans (Ex.new n1), fun a o e => ?_, fun a o e => ?_, fun a n e => ?_⟩ (.dic upd_same (SeeK.mono (Ex.new n1) s1))
      · have w : a ≠ p := ne_of_none e np
        rw [upd_ne w]
        exact g1.h a o (by rw [upd_ne w]; exact e)
      · by_cases w : a = p
        · subst w; rw [upd_same] at e ⊢; exact e
        · rw [upd_ne w] at e ⊢; exact g1.ex a o e
      · have w : a ≠ p := fun w => e (by rw [w]; exact np)
        rw [upd_ne w]
        exact g1.nm a n (by rw [upd_ne w]; exact e)
    · exact z.elim
end
end TP
set_option Elab.async false
set_option linter.all false
set_option maxRecDepth 100000
/-! Tree programs: lists of one's own, lent to a call. -/
namespace TP
open PySem L2 PyProof.Rows PySem.Spec LamX
inductive SeeBAll (K : PySem.W.Frag) (mg : Str → Option Value) (Φ H : Hp) : List V → List D → Prop
  | nil : SeeBAll K mg Φ H [] []
  | cons {v : V} {d : D} {vs : List V} {ds : List D} (h : SeeB K mg Φ H v d) (t : SeeBAll K mg Φ H vs ds) : SeeBAll K mg Φ H (v :: vs) (d :: ds)
section
variable (K : PySem.W.Frag) (mg : Str → Option Value) (E : XK) (T : List (Addr × Str))
def PostBA (Φ H : Hp) (r : R (List D)) (Q : List V → Hp → Prop) : Prop := match r with
  | .ok ds => ∀ vs Φ' H', Gr Φ H Φ' H' → SeeBAll K mg Φ' H' vs ds → Q vs H'
  | .raise x => PostX K mg E Φ H x
  | .stuck => False
/-- arguments that are read alone -/
structure DBA (X : Cx) (es : List Expr) (t : TA) (f : S → R (List D)) : Prop where
  k : X.K = K
  m : X.mg = mg
  pe : PA X es t
  imp : ∀ B Φ H σ ρ, SOk K mg T B Φ H σ ρ → ∀ Q, PostBA K mg E Φ H (f ρ) Q → t σ H Q
end
section
variable {K : PySem.W.Frag} {mg : Str → Option Value} {T : List (Addr × Str)} {E : XK} {X : Cx} {e : Expr} {es : List Expr} {te : TE} {ts : TA} {f : S → R D} {gs : S → R (List D)} {pos p : Pos} {Φ Φ' H H' : Hp}
theorem SeeBAll.grow (g : Gr Φ H Φ' H') : ∀ {vs : List V} {ds : List D}, SeeBAll K mg Φ H vs ds → SeeBAll K mg Φ' H' vs ds
  | _, _, .nil => .nil
  | _, _, .cons h t => .cons (h.grow g) (SeeBAll.grow g t)
theorem dba_nil (hk : X.K = K := by rfl) (hm : X.mg = mg := by rfl) : DBA K mg E T X [] tNil dNil := ⟨hk, hm, pa_nil, fun B Φ H σ ρ s Q z => z [] Φ H (Gr.refl s.ex) .nil⟩
theorem dba_cons (ha : DB K mg E T X e te f) (hr : DBA K mg E T X es ts gs) (hs : starEach (e :: es) X.env = (false, eval e X.env) :: starEach es X.env := by rfl) : DBA K mg E T X (e :: es) (tCons te ts) (dCons f gs) := by
  refine ⟨ha.k, ha.m, pa_cons ha.pe hr.pe hs, fun B Φ H σ ρ s Q z => ha.imp B Φ H σ ρ s _ ?_⟩
  have z : PostBA K mg E Φ H ((f ρ).bind fun x => (gs ρ).map fun xs => x :: xs) Q := z
  cases q : f ρ with
  | raise x => rw [q] at z; exact z
  | stuck => rw [q] at z; exact z
  | ok d =>
    rw [q] at z
    intro v Φ1 H1 g1 sv
    refine hr.imp B Φ1 H1 σ ρ (s.grow g1) _ ?_
    have z : PostBA K mg E Φ H ((gs ρ).map fun xs => d :: xs) Q := z
    cases q2 : gs ρ with
    | raise x => rw [q2] at z; exact PostX.grow g1 z
    | stuck => rw [q2] at z; exact z
    | ok ds =>
      rw [q2] at z
      exact fun vs Φ2 H2 g2 s2 => z (v :: vs) Φ2 H2 (g1.trans g2) (.cons (sv.grow g2) s2)
/-- what is lent stands in a greater picture, but for the addresses of L -/
structure Lent (Φ H Φ2 : Hp) (L : List Addr) : Prop where
  up : Ex Φ Φ2
  ex : Ex Φ2 H
  ls : LsAt Φ2 L
  out : ∀ a ∈ L, Φ a = none
  no : ∀ a, Φ a = none → a ∉ L → Φ2 a = none
theorem Lent.more {Φ2 : Hp} {L : List Addr} {p : Addr} {o : HO} (l : Lent Φ H Φ2 L) (hp : H p = some o) (ho : (∃ vs, o = .lst vs) ∨ (∃ vs, o = .dK vs) ∨ ∃ vs, o = .dT vs) : ∃ Φ3 L', Ex Φ2 Φ3 ∧ Φ3 p = some o ∧ Lent Φ H Φ3 L' := by
  cases q : Φ p with
  | some u =>
    have e := l.ex _ _ (l.up _ _ q)
    rw [hp] at e
    cases e
    exact ⟨Φ2, L, Ex.refl _, l.up _ _ q, l⟩
  | none =>
    have add : Ex Φ2 (L2.upd Φ2 p o) ∧ Ex (L2.upd Φ2 p o) H := by
      refine ⟨fun b u e => ?_, fun b u e => ?_⟩
      · by_cases z : b = p
        · subst z; rw [upd_same]; have q := l.ex _ _ e; rw [hp] at q; exact q
        · rw [upd_ne z]; exact e
      · by_cases z : b = p
        · subst z; rw [upd_same] at e; cases e; exact hp
        · rw [upd_ne z] at e; exact l.ex b u e
    refine ⟨L2.upd Φ2 p o, p :: L, add.1, upd_same, l.up.trans add.1, add.2, fun a m => ?_, fun a m => ?_, fun a n m => ?_⟩
    · have cs : ∀ {u : HO}, L2.upd Φ2 p o a = some u → ((∃ vs, u = .lst vs) ∨ (∃ vs, u = .dK vs) ∨ ∃ vs, u = .dT vs) → (∃ vs, L2.upd Φ2 p o a = some (.lst vs)) ∨ (∃ vs, L2.upd Φ2 p o a = some (.dK vs)) ∨ ∃ vs, L2.upd Φ2 p o a = some (.dT vs) := fun {u} e h => by
        rcases h with ⟨vs, rfl⟩ | ⟨vs, rfl⟩ | ⟨vs, rfl⟩
        · exact .inl ⟨vs, e⟩
        · exact .inr (.inl ⟨vs, e⟩)
        · exact .inr (.inr ⟨vs, e⟩)
      by_cases z : a = p
      · subst z
        exact cs upd_same ho
      · have m' : a ∈ L := (List.mem_cons.mp m).resolve_left z
        rcases l.ls a m' with ⟨vs, e⟩ | ⟨vs, e⟩ | ⟨vs, e⟩
        · exact .inl ⟨vs, add.1 _ _ e⟩
        · exact .inr (.inl ⟨vs, add.1 _ _ e⟩)
        · exact .inr (.inr ⟨vs, add.1 _ _ e⟩)
    · rcases List.mem_cons.mp m with rfl | m
      · exact q
      · exact l.out a m
    · rw [List.mem_cons, not_or] at m
      rw [upd_ne m.1]
      exact l.no a n m.2
theorem lend_one {v : V} {d : D} {Φ2 : Hp} {L : List Addr} (l : Lent Φ H Φ2 L) (s : SeeB K mg Φ H v d) : ∃ Φ3 L', Ex Φ2 Φ3 ∧ See K mg Φ3 v d ∧ Lent Φ H Φ3 L' := by
  cases s with
  | fz h => exact ⟨Φ2, L, Ex.refl _, See.mono l.up h, l⟩
  | ml h r =>
    obtain ⟨Φ3, L', e, hp, l'⟩ := l.more h (.inl ⟨_, rfl⟩)
    exact ⟨Φ3, L', e, .lst hp (SeeAll.mono l'.up r), l'⟩
  | md h r =>
    obtain ⟨Φ3, L', e, hp, l'⟩ := l.more h (.inr (.inl ⟨_, rfl⟩))
    exact ⟨Φ3, L', e, .dic hp (SeeK.mono l'.up r), l'⟩
  | mt h r =>
    obtain ⟨Φ3, L', e, hp, l'⟩ := l.more h (.inr (.inr ⟨_, rfl⟩))
    exact ⟨Φ3, L', e, .dit hp (SeeT.mono l'.up r), l'⟩
theorem lend {vs : List V} {ds : List D} (ex : Ex Φ H) (s : SeeBAll K mg Φ H vs ds) : ∃ Φ2 L, SeeAll K mg Φ2 vs ds ∧ Lent Φ H Φ2 L := by
  induction s with
  | nil => exact ⟨Φ, [], .nil, Ex.refl _, ex, fun a m => (by cases m), fun a m => (by cases m), fun a n _ => n⟩
  | cons h t ih =>
    obtain ⟨Φ2, L, s2, l⟩ := ih
    obtain ⟨Φ3, L', e, s3, l'⟩ := lend_one l h
    exact ⟨Φ3, L', .cons s3 (SeeAll.mono e s2), l'⟩
/-- behind the call the lent ones are out again -/
theorem Lent.back {Φ2 Φ3 H3 : Hp} {L : List Addr} (l : Lent Φ H Φ2 L) (g : Gr Φ2 H Φ3 H3) : Gr Φ H (wo Φ3 L) H3 ∧ LsAt Φ3 L := by
  refine ⟨⟨fun a o e => ?_, g.h, fun a o e => ?_, fun a n e => ?_⟩, fun a m => ?_⟩
  · unfold wo
    rw [if_neg fun m => by rw [l.out a m] at e; cases e]
    exact g.p _ _ (l.up _ _ e)
  · unfold wo at e
    split at e
    · cases e
    · exact g.ex _ _ e
  · unfold wo
    split
    · rfl
    · rename_i m
      exact g.nm a (l.no a n m) e
  · rcases l.ls a m with ⟨vs, e⟩ | ⟨vs, e⟩ | ⟨vs, e⟩
    · exact .inl ⟨vs, g.p _ _ e⟩
    · exact .inr (.inl ⟨vs, g.p _ _ e⟩)
    · exact .inr (.inr ⟨vs, g.p _ _ e⟩)
/-- the answer names no list -/
def lentR (r : R D) : R D := match r with
  | .ok d => if d.noL = true then .ok d else .stuck
  | .raise x => if noLf x.fs = true then .raise x else .stuck
  | .stuck => .stuck
theorem PostE.lent {Φ2 : Hp} {L : List Addr} {r : R D} {Q : VK} (l : Lent Φ H Φ2 L) (z : PostE K mg E Φ H (lentR r) Q) : PostE K mg E Φ2 H r Q := by
  cases r with
  | stuck => exact z
  | ok d =>
    unfold lentR at z
    simp only at z
    split at z
    · rename_i hd
      intro v Φ3 H3 g sv
      obtain ⟨g', ls⟩ := l.back g
      exact z v _ H3 g' (See.noL ls sv hd)
    · exact z.elim
  | raise x =>
    unfold lentR at z
    simp only at z
    split at z
    · rename_i hd
      intro Φ3 H3 c dd g xo
      obtain ⟨g', ls⟩ := l.back g
      refine z _ H3 c dd g' ?_
      obtain ⟨C, h1, h2, h3⟩ := xo
      refine ⟨C, h1, h2, ?_⟩
      rcases h3 with h3 | ⟨d, fs, h3, h4, h5⟩
      · exact .inl h3
      · exact .inr ⟨d, fs, h3, wo_at ls h4 (fun _ z => (by cases z)) (fun _ z => (by cases z)) (fun _ z => (by cases z)), SeeF.noL ls h5 hd⟩
    · exact z.elim
variable {x : Str} {fA C : Addr} {fd : FuncData} {ps : List Str} {k : Nat}
def dCallB (F : List D → R D) (gs : S → R (List D)) : S → R D := fun ρ => (gs ρ).bind fun ds => lentR (F ds)
theorem de_callB {F : List D → R D} (C : Callee X x fA fd ps (spF K mg F)) (hx : Passes (L2.CX X.prog X.w) X E) (ha : DBA K mg E T X (e :: es) ts gs) (hg : Gl X x := by rfl)
    (hdb : (x == ("__debug__" : Str)) = false := by decide) (he : starEach (e :: es) X.env = (false, eval e
            X.env) :: starEach es X.env := by rfl) (hpl : (backTo pos (starEach es X.env)).any (·.1) = false := by rfl) :
    DE K mg E T X (.Call (.Name x p) (e :: es) [] pos) (tCall (spF K mg F) [] E ts) (dCallB F gs) := by
  refine ⟨ha.k, ha.m, pe_at C hg hx ha.pe hdb he hpl, fun B Φ H σ ρ s Q z => ha.imp B Φ H σ ρ s _ ?_⟩
  have z : PostE K mg E Φ H ((gs ρ).bind fun ds => lentR (F ds)) Q := z
  cases q : gs ρ with
  | raise x => rw [q] at z; exact z
  | stuck => rw [q] at z; exact z
  | ok ds =>
    rw [q] at z
    intro vs Φ1 H1 g1 sv
    obtain ⟨Φ2, L, s2, l⟩ := lend g1.ex sv
    exact ⟨Φ2, ds, l.ex, by rw [List.append_nil]; exact s2, PostE.lent l (PostE.grow g1 z)⟩
theorem de_makeB {F : List D → R (List (Str × D))} (MK : MakerOf X k x C fA fd ps (spI K mg x F)) (hr : Room (k + 1) X.A) (hx : Passes (L2.CX X.prog X.w) X E) (ha : DBA K mg E T X (e :: es) ts gs) (hg : Gl X x := by rfl)
    (hdb : (x == ("__debug__" : Str)) = false := by decide) (he : starEach (e :: es) X.env = (false, eval e
            X.env) :: starEach es X.env := by rfl) (hpl : (backTo pos (starEach es X.env)).any (·.1) = false := by rfl) :
    DE K mg E T X (.Call (.Name x p) (e :: es) [] pos) (tMake C (spI K mg x F) [] E ts) (fun ρ => (gs ρ).bind fun ds => lentR (objR x (F ds))) := by
  refine ⟨ha.k, ha.m, pe_make MK.mkr MK.ok hr hg MK.gl MK.bi .nil hx ha.pe hdb he hpl, fun B Φ H σ ρ s Q z => ha.imp B Φ H σ ρ s _ ?_⟩
  have z : PostE K mg E Φ H ((gs ρ).bind fun ds => lentR (objR x (F ds))) Q := z
  cases q : gs ρ with
  | raise x => rw [q] at z; exact z
  | stuck => rw [q] at z; exact z
  | ok ds =>
    rw [q] at z
    intro vs Φ1 H1 g1 sv
    obtain ⟨Φ2, L, s2, l⟩ := lend g1.ex sv
    exact make_at (by rw [← ha.m]; exact MK.gl) l.ex s2 (PostE.lent l (PostE.grow g1 z))
end
end TP
set_option Elab.async false
set_option linter.all false
set_option maxRecDepth 100000
/-! Tree programs: calls by keywords. -/
namespace TP
open PySem L2 PyProof.Rows PySem.Spec LamX
/-- these of a list, in this sequence -/
def pick {α : Type} (ix : List Nat) (l : List α) : List α := ix.filterMap fun i => l[i]?
theorem vals_pick {vs : List V} {us : List Value} (r : Vals vs us) : ∀ ix : List Nat, Vals (pick ix vs) (pick ix us)
  | [] => .nil
  | i :: ix => by
    have t := vals_pick r ix
    unfold pick at t ⊢
    rw [List.filterMap_cons, List.filterMap_cons]
    cases q : vs[i]? with
    | none =>
      have h : us[i]? = none := by
        rw [List.getElem?_eq_none_iff] at q ⊢
        rw [← r.length]; exact q
      rw [h]; exact t
    | some v =>
      obtain ⟨u, e, ru⟩ := Vals.get r q
      rw [e]; exact .cons ru t
section
variable {K : PySem.W.Frag} {mg : Str → Option Value}
theorem see_pick {Φ : Hp} {vs : List V} {ds : List D} (r : SeeAll K mg Φ vs ds) : ∀ ix : List Nat, SeeAll K mg Φ (pick ix vs) (pick ix ds)
  | [] => .nil
  | i :: ix => by
    have t := see_pick r ix
    unfold pick at t ⊢
    rw [List.filterMap_cons, List.filterMap_cons]
    cases q : ds[i]? with
    | none =>
      have h : vs[i]? = none := by
        rw [List.getElem?_eq_none_iff] at q ⊢
        rw [SeeAll.length r]; exact q
      rw [h]; exact t
    | some v =>
      obtain ⟨u, e, ru⟩ := SeeAll.get r q
      rw [e]; exact .cons ru t
theorem vals_app {vs ws : List V} {us zs : List Value} (a : Vals vs us) (b : Vals ws zs) : Vals (vs ++ ws) (us ++ zs) := a.append b
abbrev KB (K : PySem.W.Frag) (fd : FuncData) (ps : List Str) (n : Nat) (ks : List Str) (ix : List Nat) : Prop := KBn K fd ps n ks (fun us ws => pick ix (us ++ ws)) (fun vs zs => pick ix (vs ++ zs))
theorem kb_of {x qual : Str} {st : Stmt} {f : Addr} {fd : FuncData} {ps ks : List Str} {n : Nat} {ix : List Nat} (F : L2.Fun K x qual st f fd)
    (h : ∀ (kV doc pm : Value) (an : Option Addr) (cdv ct : Value) (us ws : List Value), us.length = n → ws.length = ks.length → bindArgs (PySem.W.fnOf x qual (defArgs st) (defBody st) (defScope st) .none kV doc pm an cdv ct) ⟨us, ks.zip ws⟩ = pure (ps.zip (pick ix (us ++ ws)))) : KB K fd ps n ks ix := by
  obtain ⟨oc, od, kV, doc, pm, an, cdv, ct, osl, rfl, lk₀, hcd⟩ := F.ex
  exact ⟨fun s us ws X l1 l2 => .of_eq (h kV doc pm an cdv ct us ws l1 l2), fun r rz => vals_pick (r.append rz) ix⟩
end
section
variable (K : PySem.W.Frag) (mg : Str → Option Value) (E : XK) (T : List (Addr × Str))
structure DKw (X : Cx) (kws : List Keyword) (t : TA) (f : S → R (List D)) : Prop where
  k : X.K = K
  m : X.mg = mg
  pk : PK X kws t
  imp : ImpA K mg E T t f
end
section
variable {K : PySem.W.Frag} {mg : Str → Option Value} {T : List (Addr × Str)} {E : XK} {X : Cx} {e : Expr} {es : List Expr} {te : TE} {ts tk : TA} {f : S → R D} {gs hs : S → R (List D)} {pos p kpos : Pos} {nm : Option Str} {kws : List Keyword} {Φ Φ' H H' : Hp}
theorem dkw_nil (hk : X.K = K) (hm : X.mg = mg) : DKw K mg E T X [] tNil dNil := ⟨hk, hm, pk_nil, fun B Φ H σ ρ s Q z => z [] Φ H (Gr.refl s.ex) .nil⟩
theorem dkw_cons (ha : DE K mg E T X e te f) (hr : DKw K mg E T X kws ts gs) : DKw K mg E T X (⟨nm, e, kpos⟩ :: kws) (tCons te ts) (dCons f gs) := by
  refine ⟨ha.k, ha.m, pk_cons ha.pe hr.pk, fun B Φ H σ ρ s Q z => ha.imp B Φ H σ ρ s _ ?_⟩
  have z : PostA K mg E Φ H ((f ρ).bind fun x => (gs ρ).map fun xs => x :: xs) Q := z
  cases q : f ρ with
  | raise x => rw [q] at z; exact z
  | stuck => rw [q] at z; exact z
  | ok d =>
    rw [q] at z
    intro v Φ1 H1 g1 sv
    refine hr.imp B Φ1 H1 σ ρ (s.grow g1) _ ?_
    have z : PostA K mg E Φ H ((gs ρ).map fun xs => d :: xs) Q := z
    cases q2 : gs ρ with
    | raise x => rw [q2] at z; exact PostX.grow g1 z
    | stuck => rw [q2] at z; exact z
    | ok ds =>
      rw [q2] at z
      exact fun vs Φ2 H2 g2 s2 => z _ Φ2 H2 (g1.trans g2) (.cons (See.mono g2.p sv) s2)
/-- f(k = v, ..): the values as the parameters stand -/
def dKey (ix : List Nat) (n : Nat) (F : List D → R D) (gs : S → R (List D)) : S → R D := fun ρ => (gs ρ).bind fun ds => if ds.length = n then F (pick ix ds) else .stuck
variable {x : Str} {fA C : Addr} {fd : FuncData} {ps ks : List Str} {k n : Nat} {ix : List Nat}
theorem run_atK {pins : List (Addr × Obj)} {σ : L2.St} {H : Hp} {s : Shared} {Q : VK} {us ws : List Value} {vs zs : List V} {sp : Sp} (F : FnAt X fA fd ps sp) (hb : KB X.K fd ps n ks ix) (hx : Passes (L2.CX X.prog X.w) X E)
    (I : Inv X pins σ H s) (r : Vals vs us) (rz : Vals zs ws) (l1 : vs.length = n) (l2 : zs.length = ks.length) (h : sp (pick ix (vs ++ zs)) H Q E) : wpAny (model X.prog X.w) X.A (call (.ref fA) us (ks.zip ws)) (EP X pins σ Q) X.xe s := by
  have hb' := hb.to s us ws I.kIn (by rw [← r.length]; exact l1) (by rw [← rz.length]; exact l2)
  refine wpAny_call (codeAny_mono (F.run s H ⟨us, ks.zip ws⟩ _ _ Q E I.env0 hb' (hb.rel r rz) h) fun r s'₀ hq => ?_)
  cases r with
  | error e => exact hx pins σ H s e s'₀ I hq
  | ok fl =>
    cases fl with
    | ret u => exact I.after hq
    | next => exact False.elim hq
    | brk => exact False.elim hq
    | cont => exact False.elim hq
def tKey (n m : Nat) (ix : List Nat) (sp : Sp) (E : XK) (tk : TA) : TE := fun σ H Q => tk σ H fun zs H2 => zs.length = m ∧ sp (pick ix zs) H2 Q E
/-- f(k = v, ..), keywords alone -/
theorem de_key {F : List D → R D} (C : Callee X x fA fd ps (spF K mg F)) (hb : KB X.K fd ps 0 ks ix) (hx : Passes (L2.CX X.prog X.w) X E) (ha : DKw K mg E T X kws tk gs) (hg : Gl X x)
    (hall : (backToKw pos (keywordEach kws X.env)).all (·.1.isSome) = true) (hks : (backToKw pos (keywordEach kws X.env)).filterMap (·.1) = ks) (hdb : (x == ("__debug__" : Str)) = false)
    (hpl : ((backTo pos (starEach [] X.env)).any (·.1) || (backToKw pos (keywordEach kws X.env)).any (·.1.isNone)) = false) :
    DE K mg E T X (.Call (.Name x p) [] kws pos) (tKey 0 ks.length ix (spF K mg F) E tk) (dKey ix ks.length F gs) := by
  refine ⟨ha.k, ha.m, ⟨fun pins s σ H Q I h => ?_⟩, fun B Φ H σ ρ s Q z => ha.imp B Φ H σ ρ s _ ?_⟩
  · refine wpAny_Call_Name_kw (ld_glob I hg C.gl ?_ hdb)
    refine PySem.W.callWith_KW0 (h₀ := X.base) I.ok.mod.kin C.kp hall ?_ hpl
    refine thn (ha.pk.run pos pins s σ H _ I h) fun ws s2 ⟨zs, H2, I2, rz, l2, q2⟩ => ⟨I2.kIn, ?_⟩
    rw [hks]
    exact run_atK (us := []) (vs := []) C.ok hb hx I2 .nil rz rfl l2 q2
  · have z : PostE K mg E Φ H ((gs ρ).bind fun ds => if ds.length = ks.length then F (pick ix ds) else .stuck) Q := z
    cases q : gs ρ with
    | raise x => rw [q] at z; exact z
    | stuck => rw [q] at z; exact z
    | ok ds =>
      rw [q] at z
      intro vs Φ1 H1 g1 sv
      have z : PostE K mg E Φ H (if ds.length = ks.length then F (pick ix ds) else .stuck) Q := z
      split at z
      · rename_i hl
        exact ⟨by rw [SeeAll.length sv]; exact hl, Φ1, _, g1.ex, see_pick sv ix, PostE.grow g1 z⟩
      · exact z.elim
/-- C(k = v, ..) -/
theorem de_makeK {F : List D → R (List (Str × D))} (MK : MakerOf X k x C fA fd ps (spI K mg x F)) (hr : Room (k + 1) X.A) (hb : KB X.K fd ps 1 ks (0 :: ix.map (· + 1))) (hx : Passes (L2.CX X.prog X.w) X E) (ha : DKw K mg E T X kws tk gs) (hg : Gl X x)
    (hall : (backToKw pos (keywordEach kws X.env)).all (·.1.isSome) = true) (hks : (backToKw pos (keywordEach kws X.env)).filterMap (·.1) = ks) (hdb : (x == ("__debug__" : Str)) = false)
    (hpl : ((backTo pos (starEach [] X.env)).any (·.1) || (backToKw pos (keywordEach kws X.env)).any (·.1.isNone)) = false) :
    DE K mg E T X (.Call (.Name x p) [] kws pos) (tMakeK C 0 ks.length (spI K mg x F) (fun vs zs => pick (0 :: ix.map (· + 1)) (vs ++ zs)) E tNil tk) (dKey ix ks.length (fun ds => objR x (F ds)) gs) := by
  refine ⟨ha.k, ha.m, pe_makeK0 MK.mkr MK.ok hr hg MK.gl hb hx ha.pk hall hks hdb hpl, fun B Φ H σ ρ s Q z => ?_⟩
  refine (show tk σ H _ from ha.imp B Φ H σ ρ s _ ?_)
  have z : PostE K mg E Φ H ((gs ρ).bind fun ds => if ds.length = ks.length then objR x (F (pick ix ds)) else .stuck) Q := z
  cases q : gs ρ with
  | raise x => rw [q] at z; exact z
  | stuck => rw [q] at z; exact z
  | ok ds =>
    rw [q] at z
    intro vs Φ1 H1 g1 sv
    have z : PostE K mg E Φ H (if ds.length = ks.length then objR x (F (pick ix ds)) else .stuck) Q := z
    split at z
    · rename_i hl
      refine ⟨rfl, by rw [SeeAll.length sv]; exact hl, fun a dx na nd ne => ?_⟩
      have m := make_at (E := E) (F := F) (x := x) (by rw [← ha.m]; exact MK.gl) g1.ex (see_pick sv ix) (PostE.grow g1 z) a dx na nd ne
      have e : pick (0 :: ix.map (· + 1)) ([V.ref a] ++ vs) = V.ref a :: (pick ix vs ++ []) := by
        unfold pick
        rw [List.append_nil, List.filterMap_cons, List.filterMap_map]
        rfl
      rw [← e] at m
      exact m
    · exact z.elim
end
/-! ### x = [.. for ..], x a local name -/
section
variable {K : PySem.W.Frag} {mg : Str → Option Value} {T : List (Addr × Str)} {E : XK} {X : Cx} {elt tg iter : Expr} {ifs : List Expr} {tt : TT} {te : TE} {pos py spos : Pos} {y : Str}
variable {scope : Scope} {own : List (Str × Nat)} {wi : TI} {g : TG} {fi : S → M (List D)} {asg : D → S → Option S} {is : List Nat} {tf : S → M Bool} {ef : S → M D} (i : Nat)
section
variable (hy : X.N[i]? = some y) (hyl : X.env.scope.names.lookup y = some .local) (hsw : swapsWith (.ListComp elt [⟨tg, iter, ifs, 0⟩] scope pos) (some (.Name y py)) spos.line X.env = pure true)
  (hc : X.calm = true) (hN : X.N.Nodup) (hi : DI K mg E T X tg iter wi fi) (ok : BlkOk X.N X.env.scope scope own)
  (hg : ∀ (s : Shared) (H : Hp) (C : Addr) (cl : List (Str × Addr)) (fp : List Addr), DG K mg T (X.blk s H scope (compEnvC scope cl C X.env) fp) tg g asg is) (hv : ∀ i ∈ is, i ∈ own.map (·.2))
  (ht : ∀ (s : Shared) (H : Hp) (C : Addr) (cl : List (Str × Addr)) (fp : List Addr), DTs K mg (fun _ _ _ => False) T (X.blk s H scope (compEnvC scope cl C X.env) fp) ifs tt tf)
  (he : ∀ (s : Shared) (H : Hp) (C : Addr) (cl : List (Str × Addr)) (fp : List Addr), DM K mg (fun _ _ _ => False) T (X.blk s H scope (compEnvC scope cl C X.env) fp) elt te ef) (hs : ∀ x, foldedSetIterable iter X.env x = pure x) (s0 : Shared)
include hy hyl hsw hc hN hi ok hg hv ht he hs s0
theorem ds_setLcO : DS K mg E T X (.Assign [.Name y py] (.ListComp elt [⟨tg, iter, ifs, 0⟩] scope pos) spos) (tAsg (tLc wi g tt te (own.map (·.2))) (gName i)) (sSet i (vMN (fComp (own.map (·.2)) fi asg tf ef))) :=
  ⟨hi.k, hi.m, ps_setLc hc hN hy hyl hsw hi.pi ok (fun s H C cl fp => (hg s H C cl fp).pg) (fun s H C cl fp => (ht s H C cl fp).pe) (fun s H C cl fp => (he s H C cl fp).pe) hs, imp_set (dmn_lc (pos := pos) hc hN hi ok hg hv ht he hs s0).toV.imp⟩
theorem ds_setLcF : DS K mg E T X (.Assign [.Name y py] (.ListComp elt [⟨tg, iter, ifs, 0⟩] scope pos) spos) (tAsg (tLc wi g tt te (own.map (·.2))) (gName i)) (sSet i (vM (lM (fComp (own.map (·.2)) fi asg tf ef)))) :=
  ⟨hi.k, hi.m, ps_setLc hc hN hy hyl hsw hi.pi ok (fun s H C cl fp => (hg s H C cl fp).pg) (fun s H C cl fp => (ht s H C cl fp).pe) (fun s H C cl fp => (he s H C cl fp).pe) hs, imp_set (dmn_lc (pos := pos) hc hN hi ok hg hv ht he hs s0).toM.toV.imp⟩
end
end
/-! ### a reading that names no context -/
def tCan (K : PySem.W.Frag) (mg : Str → Option Value) (E : XK) (T : List (Addr × Str)) (f : S → M D) : TE := fun σ H Q => ∃ B Φ ρ, SOk K mg T B Φ H σ ρ ∧ PostM K mg E T B Φ σ (f ρ) Q
theorem DM.canon {K : PySem.W.Frag} {mg : Str → Option Value} {E : XK} {T : List (Addr × Str)} {X : Cx} {e : Expr} {t : TE} {f : S → M D} (h : DM K mg E T X e t f) : DM K mg E T X e (tCan K mg E T f) f :=
  ⟨h.k, h.m, ⟨fun pins s σ H Q I ⟨B, Φ, ρ, so, z⟩ => h.pe.run pins s σ H Q I (h.imp B Φ H σ ρ so Q z)⟩, fun B Φ H σ ρ s Q z => ⟨B, Φ, ρ, s, z⟩⟩
end TP
set_option Elab.async false
set_option linter.all false
set_option maxRecDepth 100000
/-! Tree programs: the law's own start. -/
namespace TP
open PySem L2 PyProof.Rows PySem.Spec LamX
section
variable {K : PySem.W.Frag} {mg : Str → Option Value} {T : List (Addr × Str)} {E : XK} {Φ H Φ' H' : Hp} {Q : VK} {p q a : Addr} {d : Dr} {ns : List Int}
/-- script in slot 0, the draws in slot 1 -/
def startL (n : Nat) (ns : List Int) (d : Dr) : S := some (.fz (.scr ns)) :: some (.dr d) :: List.replicate (n - 2) none
theorem startL_ok {σ : L2.St} {n : Nat} (hn : 2 ≤ n) (hl : σ.length = n) (I : DrIn K T Φ H p q d) (h0 : σ[0]? = some (some (.ref a))) (h1 : σ[1]? = some (some (.ref p))) (hs : SqL K Φ a (ns.map V.int)) : SOk K mg T (bD T Φ H p q) Φ H σ (startL n ns d) := by
  obtain ⟨⟨c, hc, hcl⟩, hq, ne⟩ := I.at_
  have at2 : ∀ (i : Nat) (s' : Sl), (startL n ns d)[i + 2]? = some (some s') → False := fun i s' e => by
    have e : (List.replicate (n - 2) (none : Option Sl))[i]? = some (some s') := e
    have := List.mem_of_getElem? e
    rw [List.mem_replicate] at this
    cases this.2
  refine ⟨⟨I.ex, Ex.refl _, fun a o e _ => e, fun a _ e => e, fun a e => e, fun a m => ?_, I.tb, I.tn, fun x hx => List.mem_cons_of_mem _ (List.mem_cons_of_mem _ (List.mem_map.mpr ⟨x, hx, rfl⟩))⟩, ?_,
    fun i => if i = 1 then [p, q] else [], ⟨fun i s' e => ?_, fun i a m => ?_, fun i j a m1 m2 => ?_, fun i hi => ?_, fun i a es m e => ?_, fun i s' l e hl => ?_⟩⟩
  · rcases List.mem_cons.mp m with z | m
    · rw [z]; exact not_none hc
    · rcases List.mem_cons.mp m with z | m
      · rw [z]; exact not_none hq
      · obtain ⟨x, hx, z⟩ := List.mem_map.mp m
        rw [← z]; exact tab_nn I.tb hx
  · unfold startL
    simp [hl]
    omega
  · match i, e with
    | 0, e => cases e; exact ⟨_, h0, by rw [if_neg (by decide)]; exact .fz (.scr hs)⟩
    | 1, e => cases e; exact ⟨_, h1, by rw [if_pos rfl]; exact .dr ⟨⟨c, hc, hcl⟩, hq, ne⟩⟩
    | i + 2, e => exact (at2 i s' e).elim
  · by_cases z : i = 1
    · rw [if_pos z] at m
      rcases List.mem_cons.mp m with z | m
      · rw [z]; exact ⟨I.np, not_none hc, .inr (by simp)⟩
      · rw [List.mem_singleton.mp m]; exact ⟨I.nq, not_none hq, .inr (by simp)⟩
    · rw [if_neg z] at m; cases m
  · by_cases z : i = 1
    · by_cases z2 : j = 1
      · rw [z, z2]
      · rw [if_neg z2] at m2; cases m2
    · rw [if_neg z] at m1; cases m1
  · show (if i = 1 then [p, q] else []) = []
    by_cases z : i = 1
    · subst z
      exact absurd rfl (hi (.dr d))
    · rw [if_neg z]
  · by_cases z : i = 1
    · subst z; cases e
    · rw [if_neg z] at m; cases m
  · match i, e with
    | 0, e => cases e; cases hl
    | 1, e => cases e; cases hl; rfl
    | i + 2, e => exact (at2 i _ e).elim
/-- what _law_begun does -/
def lawDraws (ns : List Int) : Dr := { large := (ns.filter fun n => decide (n.natAbs ≥ 10 ^ 18)).map (fun n => (n.natAbs : Int) - 10 ^ 18), rest := 0, cells := ns.map fun n => (n.natAbs : Int), turn := 0 }
def spBegun (K : PySem.W.Frag) : Sp := fun vs H Q _ => ∃ (a : Addr) (ns : List Int), vs = [.ref a] ∧ SqL K H a (ns.map V.int) ∧ ns.length ≤ 1000 ∧ ∀ p q c H', H p = none → H q = none → H c = none → p ≠ q → p ≠ c → q ≠ c → Ex H H' →
  H' p = some (.dK [(kLarge, .ref q), (kRest, .int 0), (kCells, .ref c), (kTurn, .int 0)]) → H' q = some (.lst ((lawDraws ns).large.map V.int)) → H' c = some (.lst ((lawDraws ns).cells.map V.int)) → Q (.ref p) H'
def spLaw (K : PySem.W.Frag) (T : List (Addr × Str)) (ok : List Int → Prop) : Sp := fun vs H Q _ => ∃ (a : Addr) (ns : List Int), vs = [.ref a] ∧ ok ns ∧ (∀ x ∈ T, H x.1 = some (.tbl #[])) ∧ SqL K H a (ns.map V.int) ∧ ∀ H', Q (.bl true) H'
/-- the law's body behind its first statement -/
theorem law_rest {ts : TS} {b : S → M Fl} {n : Nat} (hp : ImpS K mg E T ts b) (hn : 2 ≤ n) {σ : L2.St} (hl : σ.length = n) {H1 : Hp} {c : Addr} (hs : SqL K H a (ns.map V.int)) (hT : ∀ x ∈ T, H x.1 = some (.tbl #[]))
    (np : H p = none) (nq : H q = none) (nc : H c = none) (pq : p ≠ q) (pc : p ≠ c) (qc : q ≠ c) (ex : Ex H H1) (e1 : H1 p = some (.dK [(kLarge, .ref q), (kRest, .int 0), (kCells, .ref c), (kTurn, .int 0)]))
    (e2 : H1 q = some (.lst ((lawDraws ns).large.map V.int))) (e3 : H1 c = some (.lst ((lawDraws ns).cells.map V.int))) (h0 : σ[0]? = some (some (.ref a))) (h1 : σ[1]? = some (some (.ref p)))
    (hr : ∃ ρ, b (startL n ns (lawDraws ns)) = .ok (.rt (.bl true)) ρ) {D' : Ends} (hq : ∀ H', D'.rt (.bl true) H') : ts D' σ H1 := by
  have cell : ∀ o, (∃ vs, o = HO.lst vs) ∨ (∃ o' vs, o = HO.frz o' (.lst vs)) → ∀ x ∈ T, H x.1 ≠ some o := fun o ho x hx z => by
    rw [hT x hx] at z
    rcases ho with ⟨vs, rfl⟩ | ⟨o', vs, rfl⟩ <;> cases z
  -- the picture: the cells, and the script where it is tracked
  let Φ : Hp := fun y => if y = c then H1 c else if y = a ∧ (∀ x ∈ T, x.1 ≠ a) then H a else none
  have hc : Φ c = H1 c := if_pos rfl
  have hΦ : ∀ y o, Φ y = some o → H1 y = some o := fun y o e => by
    by_cases z : y = c
    · subst z; rw [hc] at e; exact e
    · have e : (if y = a ∧ (∀ x ∈ T, x.1 ≠ a) then H a else none) = some o := (if_neg z).symm.trans e
      split at e
      · rename_i w; rw [w.1]; exact ex _ _ e
      · cases e
  have no : ∀ y, y ≠ c → y ≠ a → Φ y = none := fun y z w => (if_neg z).trans (if_neg fun h => w h.1)
  have sa : SqL K Φ a (ns.map V.int) := by
    have ta : ∀ o, H a = some o → ((∃ vs, o = HO.lst vs) ∨ (∃ o' vs, o = HO.frz o' (.lst vs))) → Φ a = some o := fun o e ho => by
      have ac : a ≠ c := fun z => by rw [z, nc] at e; cases e
      have hx : ∀ x ∈ T, x.1 ≠ a := fun x hx z => cell o ho x hx (by rw [z]; exact e)
      exact ((if_neg ac).trans (if_pos ⟨rfl, hx⟩)).trans e
    rcases hs with (h | ⟨o, h⟩) | h
    · exact .inl (.inl (ta _ h (.inl ⟨_, rfl⟩)))
    · exact .inl (.inr ⟨o, ta _ h (.inr ⟨_, _, rfl⟩)⟩)
    · exact .inr h
  have pa : ∀ y, H y = none → y ≠ c → Φ y = none := fun y z w => by
    by_cases e : y = a
    · show (if y = c then H1 c else if y = a ∧ (∀ x ∈ T, x.1 ≠ a) then H a else none) = none
      rw [if_neg w]
      split
      · rw [← e]; exact z
      · rfl
    · exact no y w e
  have tn : ∀ x ∈ T, Φ x.1 = none := fun x hx => by
    have xc : x.1 ≠ c := fun z => by have e := hT x hx; rw [z, nc] at e; cases e
    show (if x.1 = c then H1 c else if x.1 = a ∧ (∀ x ∈ T, x.1 ≠ a) then H a else none) = none
    rw [if_neg xc, if_neg fun h => h.2 x hx h.1]
  have I : DrIn K T Φ H1 p q (lawDraws ns) := ⟨hΦ, ⟨⟨c, e1, by rw [hc]; exact e3⟩, e2, pq⟩, pa p np pc, pa q nq qc, fun x hx => ?_, tn⟩
  · have so := startL_ok (mg := mg) hn hl I h0 h1 sa
    obtain ⟨ρ, hr⟩ := hr
    refine hp (bD T Φ H1 p q) Φ H1 σ _ rfl so D' ?_
    rw [hr]
    intro v Φ' H' σ' _ s' sv
    cases sv
    exact hq H'
  · exact ⟨#[], ex _ _ (hT x hx), by simp [TriplesOk], fun _ _ z => (by cases z)⟩
end
end TP
set_option Elab.async false
set_option linter.all false
set_option maxRecDepth 100000
/-! Tree programs: the draws are made. -/
namespace TP
open PySem L2 PyProof.Rows PySem.Spec LamX
section
variable {K : PySem.W.Frag} {mg : Str → Option Value} {E : XK} {Φ H : Hp} {B : Bs} {σ : L2.St} {ρ : S}
/-- frozen slots alone: a new entry -/
theorem SOk.anew {T : List (Addr × Str)} {H' : Hp} (s : SOk K mg T B Φ H σ ρ) (ex : Ex Φ H') {ρ' : S} (hl : ρ'.length = ρ.length) (hρ : ∀ (i : Nat) (sl : Sl), ρ'[i]? = some (some sl) → (∃ d, sl = .fz d) ∧ ρ[i]? = some (some sl)) :
    SOk K mg [] { Φ0 := Φ, H0 := H', M := [], Dn := [] } Φ H' σ ρ' := by
  obtain ⟨b, len, nd, x⟩ := s
  refine ⟨⟨ex, Ex.refl _, fun a o e _ => e, fun a _ e => e, fun a e => e, fun a m => (by cases m), fun p m => (by cases m), fun p m => (by cases m), fun p m => (by cases m)⟩, by rw [hl]; exact len, fun _ => [],
    ⟨fun i s' e => ?_, fun i a m => (by cases m), fun i j a m => (by cases m), fun i _ => rfl, fun i a ds m => (by cases m), fun i s' l e hl => ?_⟩⟩
  · obtain ⟨⟨d, rfl⟩, e2⟩ := hρ i s' e
    obtain ⟨v, f1, f2⟩ := x.at_ i _ e2
    generalize nd i = A at f2
    cases f2 with
    | fz r => exact ⟨v, f1, .fz r⟩
  · obtain ⟨⟨d, rfl⟩, _⟩ := hρ i s' e
    cases hl
theorem scr_up {a : Addr} {ns : List Int} (hs : SqL K H a (ns.map V.int)) : ∃ Φ, Ex Φ H ∧ SqL K Φ a (ns.map V.int) := by
  rcases hs with h | h
  · refine ⟨fun y => if y = a then H a else none, fun y o e => ?_, ?_⟩
    · have e : (if y = a then H a else none) = some o := e
      by_cases z : y = a
      · rw [if_pos z] at e; rw [z]; exact e
      · rw [if_neg z] at e; cases e
    · have e : (fun y => if y = a then H a else none) a = H a := if_pos rfl
      rcases h with h | ⟨o, h⟩
      · exact .inl (.inl (e.trans h))
      · exact .inl (.inr ⟨o, e.trans h⟩)
  · exact ⟨fun _ => none, fun _ _ z => (by cases z), .inr h⟩
abbrev begunTrs (tc : TE) : List (TE × TE) := [(tC (.str "large"), tVar 1), (tC (.str "rest"), tC (.int 0)), (tC (.str "cells"), tc), (tC (.str "turn"), tC (.int 0))]
theorem begun_read {t1 : TS} {tc : TE} {p1 : S → M Fl} {fc : S → M (List D)} {N : List Str} (hN : N.length = 3) (h1 : ImpS K mg E [] t1 p1) (h2 : ImpMN K mg E [] tc fc)
    (e1 : ∀ ns : List Int, ns.length ≤ 1000 → p1 [some (.fz (.scr ns)), none, none] = .ok .nx [some (.fz (.scr ns)), some (.ml ((lawDraws ns).large.map D.int)), none])
    (e2 : ∀ ns : List Int, ns.length ≤ 1000 → fc [some (.fz (.scr ns)), none, none] = .ok ((lawDraws ns).cells.map D.int) [some (.fz (.scr ns)), none, none])
    {vs : List V} {Q : VK} {E' : XK} (h : spBegun K vs H Q E') : tSeq t1 (tRet (tDisp (begunTrs tc))) { nx := fun _ H' => Q .non H', rt := Q } (L2.start N vs) H := by
  obtain ⟨a, ns, rfl, hs, hz, hq⟩ := h
  obtain ⟨Φ, ex, sΦ⟩ := scr_up hs
  have s0 := start_ok (N := N) (mg := mg) ex (.cons (.scr sΦ) .nil)
  rw [hN] at s0
  refine h1 _ Φ H _ _ rfl s0 _ ?_
  rw [show (([D.scr ns].map fun d => some (Sl.fz d)) ++ List.replicate (3 - [D.scr ns].length) none : S) = [some (.fz (.scr ns)), none, none] from rfl, e1 ns hz]
  intro Φ1 H1 σ1 x1 s1 p np
  obtain ⟨q, vl, f1, f2, f3, _⟩ := slot_ml (i := 1) s1 rfl
  have fl := SeeAll.ints f3
  subst fl
  have up1 : Ex H H1 := fun y o e => s1.b2 y o e (by simp)
  have nq : H q = none := by
    obtain ⟨nd, x⟩ := id s1.nds
    obtain ⟨v, g1, g2⟩ := x.at_ 1 _ (rfl : ([some (.fz (.scr ns)), some (.ml ((lawDraws ns).large.map D.int)), none] : S)[1]? = _)
    rw [f1] at g1
    cases g1
    have o := x.own 1
    generalize nd 1 = A at g2 o
    cases g2 with
    | ml _ _ =>
      obtain ⟨_, _, o3⟩ := o q (by simp)
      rcases o3 with o3 | o3
      · exact o3
      · cases o3
  have s2 := s1.anew (H' := L2.upd H1 p (.dK [])) (s1.ex.trans (Ex.new np)) (ρ' := [some (.fz (.scr ns)), none, none]) rfl fun i sl e => by
    match i, e with
    | 0, e => cases e; exact ⟨⟨_, rfl⟩, rfl⟩
    | 1, e => cases e
    | 2, e => cases e
  refine ⟨.ref q, f1, ?_⟩
  refine h2 _ Φ1 _ σ1 _ s2 _ ?_
  rw [e2 ns hz]
  intro c vc Φ2 H2 x2 s3 _ h0 _ _ hc sc
  have fc' := SeeAll.ints sc
  subst fc'
  have up2 : Ex (L2.upd H1 p (.dK [])) H2 := fun y o e => s3.b2 y o e (by simp)
  have pq : p ≠ q := fun z => by rw [z, f2] at np; cases np
  have h0 : L2.upd H1 p (.dK []) c = none := h0
  have pc : p ≠ c := fun z => by rw [← z, upd_same] at h0; cases h0
  have c1 : H1 c = none := by rw [upd_ne (Ne.symm pc)] at h0; exact h0
  have qc : q ≠ c := fun z => by rw [← z, f2] at c1; cases c1
  have none_of : ∀ {y}, H1 y = none → H y = none := fun {y} e => by
    cases w : H y with
    | none => rfl
    | some o => rw [up1 _ _ w] at e; cases e
  refine ⟨up2 _ _ upd_same, [(kLarge, .ref q), (kRest, .int 0), (kCells, .ref c), (kTurn, .int 0)], rfl, by show 4 ≤ 15; decide, ?_⟩
  rw [merge_new _ [] (by show [kLarge, kRest, kCells, kTurn].Nodup; decide)]
  refine hq p q c _ (none_of np) nq (none_of c1) pq pc qc (fun y o e => ?_) upd_same ?_ ?_
  · have w : y ≠ p := fun w => by rw [w, none_of np] at e; cases e
    rw [upd_ne w]
    exact up2 _ _ (by rw [upd_ne w]; exact up1 _ _ e)
  · rw [upd_ne (Ne.symm pq)]
    exact up2 _ _ (by rw [upd_ne (Ne.symm pq)]; exact f2)
  · rw [upd_ne (Ne.symm pc)]; exact hc
end
section
variable {K : PySem.W.Frag} {mg : Str → Option Value} {E : XK} {X : Cx} {st1 : Stmt} {t1 : TS} {p1 : S → M Fl} {lc : Expr} {tc : TE} {fc : S → M (List D)} {q1 q2 q3 q4 v1 v2 v4 dp rp : Pos} {j1 j2 j3 j4 k2 k4 : Nat}
theorem begun_ps (d1 : DS K mg E [] X st1 t1 p1) (d2 : DMN K mg E [] X lc tc fc) (hN : X.N[1]? = some ("large" : Str)) (hv : Vis X.env.scope "large") :
    PSs X [st1, .Return (some (.Dict [some (.Constant (.str "large") j1 q1), some (.Constant (.str "rest") j2 q2), some (.Constant (.str "cells") j3 q3), some (.Constant (.str "turn") j4 q4)] [.Name "large" v1, .Constant (.int 0) k2 v2, lc, .Constant (.int 0) k4 v4] dp)) rp]
      (tSeq t1 (tRet (tDisp (begunTrs tc)))) :=
  pss_cons d1.ps (pss_one (ps_ret (pe_disp (pps_cons pe_str (pe_var hN hv (by decide) (by decide)) (pps_cons pe_str pe_int (pps_cons pe_str d2.pe (pps_cons pe_str pe_int pps_nil)))) rfl rfl (by simp) (by show 4 ≤ 15; decide))))
end
end TP
set_option Elab.async false
set_option linter.all false
set_option maxRecDepth 100000
/-! Tree programs run: plain facts. -/
namespace TP
open PySem L2 PyProof.Rows PySem.Spec LamX
theorem set_none {ρ : S} {v : Nat} (h : ρ[v]? = some none) : ρ.set v none = ρ := by
  apply List.ext_getElem?
  intro k
  by_cases z : v = k
  · subst z
    rw [h, List.getElem?_set_self (List.getElem?_eq_some_iff.mp h).1]
  · rw [List.getElem?_set_ne z]
theorem lt_of_get {ρ : S} {v : Nat} {x : Option Sl} (h : ρ[v]? = some x) : v < ρ.length := (List.getElem?_eq_some_iff.mp h).1
/-- a comprehension whose parts leave the slots alone -/
theorem comp_ok {v : Nat} {tf : S → M Bool} {ef : S → M D} {t : D → Bool} {g : D → D} {ρ : S} (hv : ρ[v]? = some none) : ∀ (ds : List D) (ρ' : S), ρ'.set v none = ρ → (∀ d ∈ ds, tf (ρ.set v (some (.fz d))) = .ok (t d) (ρ.set v (some (.fz d)))) →
    (∀ d ∈ ds, t d = true → ef (ρ.set v (some (.fz d))) = .ok (g d) (ρ.set v (some (.fz d)))) → compM [v] (asgN v) tf ef ds ρ' = .ok ((ds.filter t).map g) ρ
  | [], ρ', h, _, _ => by
    show M.ok [] (wipeR ρ' [v]) = _
    rw [show wipeR ρ' [v] = ρ'.set v none from rfl, h]
    rfl
  | d :: ds, ρ', h, ht, he => by
    have ih := fun ρ'' h' => comp_ok hv ds ρ'' h' (fun x m => ht x (List.mem_cons_of_mem _ m)) fun x m => he x (List.mem_cons_of_mem _ m)
    have e1 := ht d (List.mem_cons_self ..)
    have back : (ρ.set v (some (Sl.fz d))).set v none = ρ := by rw [List.set_set]; exact set_none hv
    unfold compM
    rw [show wipeR ρ' [v] = ρ'.set v none from rfl, h]
    rw [show asgN v d ρ = some (ρ.set v (some (.fz d))) from if_pos (lt_of_get hv)]
    simp only
    rw [e1]
    simp only [M.noX, M.bind]
    cases q : t d with
    | true =>
      rw [if_pos rfl, he d (List.mem_cons_self ..) q]
      simp only [M.noX, M.bind]
      rw [ih _ back]
      simp only [M.bind, List.filter_cons, q, if_true, List.map_cons]
    | false =>
      rw [if_neg (by simp), ih _ back, List.filter_cons, q]
      simp
end TP
set_option Elab.async false
set_option linter.all false
set_option maxRecDepth 100000
set_option maxHeartbeats 2001234
/-! Tree programs: the law is called. -/
namespace TP
open PySem L2 PyProof.Rows PySem.Spec LamX
theorem law_callG {P : Program} {w : World} {K : PySem.W.Frag} {mg mb : Str → Option Value} {k : Nat} {f a : Addr} {ts : List (Addr × Addr)} {fn : FuncData} {y : Str} {sp : Sp} {t₁ : Shared} {us : List Value} {zs : List Int}
    (hKX : K.In t₁.heap) (hgl : t₁.heap.Ns mainGlobals mg) (hbu : t₁.heap.Ns builtinsNs mb) (hbo : ∀ y : Str, y ≠ "__name__" → mb y = bootBuiltins y) (hnl : t₁.heap.NoLimit) (hg : t₁.gens = #[])
    (htb : ∀ p ∈ ts, t₁.heap.get? p.2 = some { cls := .none, data := .fields #[] }) (hnk : ∀ p ∈ ts, K.lookup p.2 = none) (hC : ∀ p ∈ ts, PySem.W.CodeHd t₁.heap p.1 p.2)
    (hmo : ∃ (bi : Addr) (ox : Obj), mg "__builtins__" = some (.ref bi) ∧ bi ≠ builtinsNs ∧ t₁.heap.get? bi = some ox ∧ ox.cls = .type "module" ∧ ox.dict = some builtinsNs ∧ ox.data = .plain)
    (hat : t₁.heap.get? a = some { cls := .type "list", data := .seq us.toArray }) (hit : IntsAre us zs) (hsz : zs.length ≤ sizeLine) (hro : Room k callerA)
    (F : ∀ base : Heap, K.In base → base.Ns mainGlobals mg → (∀ p ∈ ts, TabB base mg p.1 p.2) → FnG true P w K mg base k f fn [y] sp) (hbi : ∀ (s : Shared) (uu : Value), K.In s.heap → BindsTo s fn ⟨[uu], []⟩ [(y, uu)])
    (hpr : ∀ H : Hp, (∀ p ∈ ts, H p.2 = some (.tbl #[])) → SqL K H a (zs.map V.int) → sp [.ref a] H (fun v _ => v = .bl true) fun _ _ _ => False) :
    codeAny (model P w) callerA (.call (.ref f) ⟨[.ref a], []⟩) (fun r s' => r = .ok (.ret (.bool true)) ∧ OldK t₁.heap s'.heap ∧ s'.os = t₁.os ∧ AllBare s'.gens) t₁ := by
  have rel := vals_ints hit
  have lz := hit.length
  have tabAt : ∀ b : Addr, b ∈ ts.map (·.2) → t₁.heap.get? b = some { cls := .none, data := .fields #[] } := fun b hbu => by
    obtain ⟨p, hp, e⟩ := List.mem_map.mp hbu
    rw [← e]
    exact htb p hp
  have offT : a ∉ ts.map (·.2) := fun z₀ => by
    have q := tabAt a z₀
    rw [hat] at q
    have zz : Data.seq us.toArray _ = Data.fields #[] := congrArg Obj.data (Option.some.inj q)
    cases zz
  have inT : ∀ p ∈ ts, p.2 ∈ ts.map (·.2) := fun p hp => List.mem_map.mpr ⟨p, hp, rfl⟩
  have go : ∀ H : Hp, (∀ p ∈ ts, H p.2 = some (.tbl #[])) → (∀ b, H b = none ∨ b ∈ ts.map (·.2) ∨ ∃ o xs, H b = some (.frz o (.lst xs))) → SqL K H a (zs.map V.int) → HOk P w H t₁.heap → (∀ b, H b ≠ none → b = a ∨ b ∈ ts.map (·.2)) → (H a ≠ none → K.lookup a = none) →
      codeAny (model P w) callerA (.call (.ref f) ⟨[.ref a], []⟩) (fun r s' => r = .ok (.ret (.bool true)) ∧ OldK t₁.heap s'.heap ∧ s'.os = t₁.os ∧ AllBare s'.gens) t₁ := by
    intro H hta hon hsc hk1 hin hkn
    have below : ∀ {b : Addr} {o : Obj}, t₁.heap.get? b = some o → H b = none → (hidT t₁.heap H).get? b = some o := fun e n => hidT_get e n
    have offD : ∀ {b : Addr} {o : Obj}, t₁.heap.get? b = some o → (∀ us n, o.data ≠ .seq us n) → o.data ≠ .fields #[] → H b = none := fun {b o} e h1 h2 => by
      cases q : H b with
      | none => rfl
      | some uu =>
        rcases hin b (by rw [q]; simp) with e'₀ | e'₀
        · rw [e'₀, hat] at e
          cases e
          exact (h1 _ _ rfl).elim
        · rw [tabAt b e'₀] at e
          cases e
          exact (h2 rfl).elim
    have offA : ∀ {b : Addr} {o : Obj} {es : Array DictEntry} {ep : Nat}, t₁.heap.get? b = some o → o.data = .dict es ep → H b = none := fun {b o es ep} e d => by
      refine offD e (fun us n z₀ => ?_) fun z₀ => ?_
      · rw [d] at z₀
        cases z₀
      · rw [d] at z₀
        cases z₀
    have nsB : ∀ {b : Addr} {m : Str → Option Value}, t₁.heap.Ns b m → (hidT t₁.heap H).Ns b m := fun {b m} ⟨o, es, ep, e, d, r⟩ => ⟨o, es, ep, below e (offA e d), d, r⟩
    have kB : K.In (hidT t₁.heap H) := fun b o e => below (hKX b o e) (by
      cases q : H b with
      | none => rfl
      | some uu =>
        rcases hin b (by rw [q]; simp) with e'₀ | e'₀
        · rw [e'₀] at e q
          rw [hkn (by rw [q]; simp)] at e
          cases e
        · obtain ⟨p, hp, ep⟩ := List.mem_map.mp e'₀
          rw [← ep, hnk p hp] at e
          cases e)
    have hMod : L2.Mod K mg (hidT t₁.heap H) := ⟨kB, nsB hgl, ⟨mb, nsB hbu, hbo⟩, let ⟨mc, h1, h2⟩ := hnl; ⟨mc, nsB h1, h2⟩⟩
    have tabB : ∀ p ∈ ts, TabB (hidT t₁.heap H) mg p.1 p.2 := fun p hp => by
      have hq2 := htb p hp
      refine ⟨?_, ?_, fun z₀ => ?_⟩
      · obtain ⟨o, us, fil, tfi, flg, tgs, inf, txt, tti, e1, r1, r2, r3, r4, r5, r6, r7, r8, hnn⟩ := hC p hp
        refine ⟨o, us, fil, tfi, flg, tgs, inf, txt, tti, below e1 (offD e1 (fun us n z₀ => ?_) fun z₀ => ?_), r1, r2, r3, r4, r5, r6, r7, r8, hnn⟩
        · rw [r2] at z₀
          cases z₀
        · rw [r2] at z₀
          cases z₀
          simp at r3
      · obtain ⟨bi, ox, b1, b2, b3, b4, b5, b6⟩ := hmo
        have nGl : bi ≠ mainGlobals := fun q => by
          obtain ⟨o, es, ep, e, hd, _⟩ := hgl
          rw [q, e] at b3
          cases b3
          rw [hd] at b6
          cases b6
        have nPt : bi ≠ p.2 := fun q => by
          rw [q, hq2] at b3
          cases b3
          cases b6
        refine ⟨bi, ox, b1, b2, nGl, nPt, below b3 (offD b3 (fun us n z₀ => ?_) fun z₀ => ?_), b4, b5, b6⟩
        · rw [b6] at z₀
          cases z₀
        · rw [b6] at z₀
          cases z₀
      · obtain ⟨o, es, ep, e, hd, _⟩ := hgl
        rw [z₀, hq2] at e
        cases e
        cases hd
    have env0 : Env0 P w K mg (hidT t₁.heap H) callerA [] t₁ H := ⟨rfl, hMod, fun b o e => of_hidT e, Nat.le_of_eq (hidT_size _ _), trivial, fun b hbu => absurd (show b ∈ ([] : List Addr) from hbu) (by simp), hk1, .of_eq hg⟩
    refine codeAny_mono ((F _ kB (nsB hgl) tabB).run callerA [] t₁ H ⟨[.ref a], []⟩ [.ref a] [.ref a] _ _ hro (fun _ => rfl) env0 (hbi t₁ (.ref a) hKX) (.cons rfl .nil) (hpr H hta hsc)) fun r s' h => ?_
    cases r with
    | error e =>
      obtain ⟨_, _, _, _, _, _, _, _, _, _, _, _, z₀⟩ := h
      exact z₀.elim
    | ok fl =>
      cases fl with
      | next => exact False.elim h
      | brk => exact False.elim h
      | cont => exact False.elim h
      | ret uu =>
        obtain ⟨v, H', osq, brs, unt, hk2, rr, q⟩ := h
        have qq : v = .bl true := q
        subst qq
        obtain rfl : uu = Value.bool true := rr
        have same : ∀ b o, b ∉ ts.map (·.2) → t₁.heap.get? b = some o → s'.heap.get? b = some o := fun b o nb e => by
          cases q : H b with
          | none => exact unt.keep b o e q (by intro z₀; exact absurd (show b ∈ ([] : List Addr) from z₀) (by simp)) (by simp)
          | some uu =>
            rcases hon b with z₀ | z₀ | ⟨ox, xs, z₀⟩
            · rw [q] at z₀; cases z₀
            · exact absurd z₀ nb
            · have z2 := unt.frzs b ox _ z₀
              obtain ⟨e1, _⟩ := hk1 b _ z₀
              obtain ⟨e2, _⟩ := hk2 b _ z2
              rw [e] at e1; cases e1
              exact e2
        have more1 : ∀ p ∈ ts, ∃ mo : Array Value, s'.heap.get? p.2 = some { cls := .none, data := .fields mo } := fun p hp => by
          obtain ⟨mo, z₀⟩ := unt.tbls p.2 #[] (hta p hp)
          exact ⟨_, hk2 p.2 _ z₀⟩
        refine ⟨rfl, ⟨fun b o e => ?_, fun b o e => ?_⟩, osq, brs⟩
        · by_cases hbu : b ∈ ts.map (·.2)
          · obtain ⟨p, hp, ep⟩ := List.mem_map.mp hbu
            obtain ⟨mo, hm⟩ := more1 p hp
            rw [← ep] at e ⊢
            rw [htb p hp] at e
            cases e
            exact .inr (.inl ⟨((hC p hp).tab (htb p hp)).isCodeTable, rfl, #[], mo, rfl, by rw [Array.empty_append]; exact hm⟩)
          · exact .inl (same b o hbu e)
        · by_cases hbu : b ∈ ts.map (·.2)
          · obtain ⟨p, hp, ep⟩ := List.mem_map.mp hbu
            obtain ⟨mo, hm⟩ := more1 p hp
            rw [← ep]
            exact ⟨_, hm⟩
          · exact ⟨o, same b o hbu e⟩
  cases hk : K.lookup a with
  | some o =>
    have e := hKX a o hk
    rw [hat] at e
    cases e
    refine go (fun b => if b ∈ ts.map (·.2) then some (.tbl #[]) else none) (fun p hp => if_pos (inT p hp)) (fun b => ?_) (.inr ⟨_, us.toArray, _, hk, rfl, rfl, rfl, by rw [List.size_toArray, lz]; exact hsz, by simpa using rel⟩) (fun b uu z₀ => ?_) (fun b z₀ => ?_) fun z₀ => absurd (show (if a ∈ ts.map (·.2) then some (HO.tbl #[]) else none) = none from if_neg offT) z₀
    · by_cases hbu : b ∈ ts.map (·.2)
      · exact .inr (.inl hbu)
      · exact .inl (if_neg hbu)
    · by_cases hbu : b ∈ ts.map (·.2)
      · have zz := (if_pos hbu).symm.trans z₀
        cases zz
        exact tabAt b hbu
      · have zz := (if_neg hbu).symm.trans z₀
        cases zz
    · by_cases hbu : b ∈ ts.map (·.2)
      · exact .inr hbu
      · exact absurd (if_neg hbu) z₀
  | none =>
    refine go (fun b => if b = a then some (.frz { cls := .type "list", data := .seq us.toArray } (.lst (zs.map V.int))) else if b ∈ ts.map (·.2) then some (.tbl #[]) else none) (fun p hp => (if_neg (show ¬ p.2 = a from fun z₀ => offT (by rw [← z₀]; exact inT p hp))).trans (if_pos (inT p hp))) (fun b => ?_)
      (.inl (.inr ⟨{ cls := .type "list", data := .seq us.toArray }, if_pos rfl⟩)) (fun b uu z₀ => ?_) (fun b z₀ => ?_) fun _ => hk
    · by_cases hbu : b = a
      · exact .inr (.inr ⟨_, _, if_pos hbu⟩)
      · by_cases hb2 : b ∈ ts.map (·.2)
        · exact .inr (.inl hb2)
        · exact .inl ((if_neg hbu).trans (if_neg hb2))
    · by_cases hbu : b = a
      · have zz := (if_pos hbu).symm.trans z₀
        cases zz
        rw [hbu]
        exact ⟨hat, by rw [List.length_map]; exact hsz, us, _, rel, hat⟩
      · have z1 := (if_neg hbu).symm.trans z₀
        by_cases hb2 : b ∈ ts.map (·.2)
        · have zz := (if_pos hb2).symm.trans z1
          cases zz
          exact tabAt b hb2
        · have zz := (if_neg hb2).symm.trans z1
          cases zz
    · by_cases hbu : b = a
      · exact .inl hbu
      · by_cases hb2 : b ∈ ts.map (·.2)
        · exact .inr hb2
        · exact absurd ((if_neg hbu).trans (if_neg hb2)) z₀

/-- the law keeps its promise, above what the head has laid -/
def LawG (l : PySem.W.OpenLaw) (w : World) (K : PySem.W.Frag) (k n : Nat) (y : Str) (mg : Str → Option Value) (f : Addr) (h : Heap) : Prop :=
  ∃ (fn : FuncData) (ts : List (Addr × Addr)) (sp : Sp), (∀ p ∈ ts, h.get? p.2 = some { cls := .none, data := .fields #[] }) ∧ (∀ p ∈ ts, K.lookup p.2 = none) ∧ (∀ p ∈ ts, PySem.W.CodeHd h p.1 p.2) ∧ (∀ (s : Shared) (z : Value), K.In s.heap → BindsTo s fn ⟨[z], []⟩ [(y, z)]) ∧
    (∀ (H : Hp) (a : Addr) (zs : List Int), zs.length ≤ n → (∀ z ∈ zs, Builtin.Int.intBits z ≤ 1048576) → (∀ p ∈ ts, H p.2 = some (.tbl #[])) → SqL K H a (zs.map V.int) → sp [.ref a] H (fun v _ => v = .bl true) fun _ _ _ => False) ∧
    ∀ base : Heap, K.In base → base.Ns mainGlobals mg → (∀ p ∈ ts, TabB base mg p.1 p.2) → FnG true l.prog w K mg base k f fn [y] sp
theorem walk_law {l : PySem.W.OpenLaw} {n k : Nat} {q : Program} {loose : List Str} {XP : (Str → Option Value) → Heap → Prop} {YP : World → Heap → Prop} {d : DefRec} {y : Str}
    (hn : l.most = some n) (hn2 : n ≤ sizeLine) (hdf : d.params.defaults = []) (hro : Room k callerA)
    (F : ∀ (w : World) (mg : Str → Option Value) (f : Addr) (h : Heap), YP w h → h.Ns mainGlobals mg → mg d.name = some (.ref f) → ∃ K : PySem.W.Frag, K.In h ∧ LawG l w K k n y mg f h) :
    PySem.W.WalkO q loose XP YP l.row.toRowW
            d [] (fun f vs => PySem.call f vs) := by
  refine Att.attach_callB hn hdf fun w s₀ t₁ mg mb f o pm cd doc a us zs G Y ho hd hcd hmg hobj hit hlen hbits hg => ?_
  obtain ⟨K, hKX, fn, ts, sp, htb, hnk, hC, hbi, hpr, hF⟩ := F w mg f _ Y G.T.g hmg
  exact law_callG hKX G.T.g G.T.b G.T.builtins G.T.nolimit hg htb hnk hC G.T.bmain hobj hit (Nat.le_trans hlen hn2) hro hF hbi fun H hta hS => hpr H a zs hlen hbits hta hS
section
variable {K : PySem.W.Frag} {mg : Str → Option Value} {T : List (Addr × Str)} {E : XK} {X : Cx} {H : Hp} {Q : VK}
/-- draw = _law_begun(script), then the rest -/
theorem law_read {ts : TS} {b : S → M Fl} {N : List Str} {vs : List V} {ok : List Int → Prop} (hN : 2 ≤ N.length) (hp : ImpS K mg E T ts b) (hz : ∀ ns, ok ns → ns.length ≤ 1000) (run : ∀ ns, ok ns → ∃ ρ, b (startL N.length ns (lawDraws ns)) = .ok (.rt (.bl true)) ρ)
    (h : spLaw K T ok vs H Q E) : tSeq (tAsg (tCall (spBegun K) [] E (tCons (tVar 0) tNil)) (gName 1)) ts { nx := fun _ H' => Q .non H', rt := Q } (L2.start N vs) H := by
  obtain ⟨a, ns, rfl, hok, hT, hs, hq⟩ := h
  have hl : ((L2.start N [.ref a]).set 1 (some (.ref 0))).length = N.length := by
    rw [List.length_set]
    unfold L2.start
    simp
    omega
  refine ⟨.ref a, rfl, a, ns, rfl, hs, hz ns hok, fun p q c H' np nq nc pq pc qc ex e1 e2 e3 => ?_⟩
  refine law_rest hp hN (σ := (L2.start N [.ref a]).set 1 (some (.ref p))) ?_ hs hT np nq nc pq pc qc ex e1 e2 e3 ?_ ?_ (run ns hok) hq
  · rw [List.length_set] at hl ⊢; exact hl
  · rw [List.getElem?_set_ne (by decide)]; rfl
  · rw [List.length_set] at hl
    rw [List.getElem?_set_self (by omega)]
end
end TP
set_option Elab.async false
set_option linter.all false
set_option maxRecDepth 100000
set_option maxHeartbeats 2001234
/-! Tree programs: is True, plain errors raised, defs as values, t[::-1]. -/
namespace TP
open PySem L2 PyProof.Rows PySem.Spec LamX
section
variable {K : PySem.W.Frag} {mg : Str → Option Value} {T : List (Addr × Str)} {E : XK} {X : Cx} {e : Expr} {te : TE} {fm : S → M D} {f : S → R D} {pos p p2 p3 p4 p5 : Pos}
/-! ### is True, is not True -/
def opIsB (neg : Bool) : D → D → R D
  | .bl a, .bl b => .ok (.bl (neg ^^ decide (a = b)))
  | _, _ => .stuck
theorem isB_noX {n : Bool} : ∀ x y, NoX (opIsB n x y) := fun x y z => by
  unfold opIsB
  repeat' split
  all_goals exact fun w => by cases w
theorem sem_isB : Op2 K mg rIsB (opIsB false) := by
  intro Φ H x y dx dy Q ex hx hy h
  unfold opIsB at h
  split at h
  · exact ⟨_, _, hx.bl, hy.bl, h.flat ex rfl (by rw [Bool.false_xor]; exact .bl _)⟩
  · exact h.elim
theorem sem_notB : Op2 K mg rNotB (opIsB true) := by
  intro Φ H x y dx dy Q ex hx hy h
  unfold opIsB at h
  split at h
  · exact ⟨_, _, hx.bl, hy.bl, h.flat ex rfl (by rw [Bool.true_xor]; exact .bl _)⟩
  · exact h.elim
/-! ### {} -/
theorem de_dict0 (hk : X.K = K := by rfl) (hm : X.mg = mg := by rfl) : DE K mg E T X (.Dict [] [] pos) tDNewK (dC (.dic [])) :=
  ⟨hk, hm, pe_dnewK, fun B Φ H σ ρ s Q z p np => z _ (L2.upd Φ p (.dK [])) _ (Gr.new s.ex np) (.dic upd_same .nil)⟩
/-! ### raise C("..") of a plain class -/
structure ErrP (K : PySem.W.Frag) (C : Addr) : Prop where
  ex : PySem.W.excIn K C He.veBase "ValueError.__new__" = true
  kp : PySem.W.keepIn
          K (.ref C) = true
  sb : PySem.W.subIn K (.ref C) (.type "BaseException") = some true
  ty : PySem.W.typeIn K (.ref C) = some (.type "type")
def sRaiseP (c : Str) : S → M Fl := fun ρ => .raise ⟨c, []⟩ ρ
theorem ds_raiseP {C : Addr} {x m : Str} {j : Nat} (F : ErrP X.K C) (hc : X.calm = true) (tk : Takes X fun c d _ H => E c d H) (hm : X.mg x = some (.ref C)) (hk : X.K = K := by rfl) (hg' : X.mg = mg := by rfl) (hg : Gl X x := by rfl)
    (hdb : (x == ("__debug__" : Str)) = false := by decide) : DS K mg E T X (.Raise (some (.Call (.Name x p) [.Constant (.str m) j p2] [] p3)) none pos) (fun _ σ H => E (.ref C) none H) (sRaiseP x) :=
  ⟨hk, hg', ps_raise hc tk (pmk_own PySem.F.excBase_ValueError F.ex hm F.kp (raises_own F.sb F.ty) hg hdb), fun B Φ H σ ρ hM s D z => z Φ H σ (.ref C) none (Ex.refl _) s ⟨C, by rw [← hg']; exact hm, rfl, .inl ⟨rfl, rfl⟩⟩⟩
/-! ### a def as a value; a call of what a slot holds -/
theorem de_fn {x : Str} {a : Addr} (hm : mg x = some (.ref a)) (hk : X.K = K := by rfl) (hg' : X.mg = mg := by rfl) (hg : Gl X x := by rfl) (hd : (x == ("__debug__" : Str)) = false := by decide) : DE K mg E T X (.Name x pos) (tC (.ref a)) (dC (.fn x)) :=
  ⟨hk, hg', pe_glob hg (by rw [hg']; exact hm) rfl hd, imp_c fun _ => .fn hm⟩
/-- a def that may be called here -/
def Cand (X : Cx) (f : Addr) (sp : Sp) : Prop := ∃ fd ps, FnAt X f fd ps sp ∧ PySem.W.keepIn X.K (.ref f) = true ∧ Binds X.K fd ps []
theorem Callee.cand {x : Str} {a : Addr} {fd : FuncData} {ps : List Str} {sp : Sp} (C : Callee X x a fd ps sp) : Cand X a sp := ⟨fd, ps, C.ok, C.kp, C.bi⟩
def tCallW (X : Cx) (i : Nat) (E : XK) (t : TA) : TE := fun σ H Q => ∃ a sp, σ[i]? = some (some (.ref a)) ∧ Cand X a sp ∧ t σ H fun vs H1 => sp (vs ++ []) H1 Q E
theorem pe_callW {i : Nat} {x : Str} {es : List Expr} {t : TA} (hN : X.N[i]? = some x) (hv : Vis X.env.scope x) (hx : Passes (L2.CX X.prog X.w) X E) (ha : PA X (e :: es) t) (hdb : (x == ("__debug__" : Str)) = false) (hcd : (x == ("__classdict__" : Str)) = false)
    (he : starEach (e :: es) X.env = (false, eval e X.env) :: starEach es X.env) (hpl : (backTo pos (starEach es X.env)).any (·.1) = false) : PE X (.Call (.Name x p) (e :: es) [] pos) (tCallW X i E t) := by
  refine ⟨fun ps s σ H Q I ⟨a, sp, hs, ⟨fd, qs, F, hk, hb⟩, ht⟩ => ?_⟩
  refine wpAny_Call_Name_kw (thn ((pe_var (pos := p) hN hv hdb hcd).run ps s σ H (fun v H1 => v = .ref a ∧ H1 = H) I ⟨_, hs, rfl, rfl⟩) fun u s1 ⟨v, H1, I1, r1, ev, eH⟩ => ?_)
  subst ev eH
  cases r1
  exact PySem.W.callWith_K (h₀ := X.base) I.ok.mod.kin hk (thn (ha.run pos ps s1 σ _ _ I1 ht) fun us s2 ⟨vs, H2, I2, r, q⟩ => ⟨I2.kIn, run_at F hb hx I2 r q⟩) he hpl
/-- by names -/
def dCallW (tab : List (Str × (List D → R D))) (i : Nat) (gs : S → R (List D)) : S → R D := fun ρ => match ρ[i]? with
  | some (some (.fz (.fn x))) => match tab.lookup x with
    | some F => (gs ρ).bind F
    | none => .stuck
  | _ => .stuck
/-- what stands in the table is a def's promise -/
def TabC (X : Cx) (tab : List (Str × (List D → R D))) : Prop := ∀ x F, tab.lookup x = some F → ∃ a, X.mg x = some (.ref a) ∧ Cand X a (spF X.K X.mg F)
theorem TabC.nil : TabC X [] := fun x F h => by cases h
theorem TabC.cons {y : Str} {a : Addr} {fd : FuncData} {ps : List Str} {G : List D → R D} {tab : List (Str × (List D → R D))} (C : Callee X y a fd ps (spF X.K X.mg G)) (h : TabC X tab) : TabC X ((y, G) :: tab) := fun x F e => by
  by_cases z : x = y
  · subst z
    rw [List.lookup_cons_self] at e
    cases e
    exact ⟨a, C.gl, C.cand⟩
  · have zb : (x == y) = false := by simpa using z
    have e2 : (match x == y with | true => some G | false => tab.lookup x) = some F := e
    rw [zb] at e2
    exact h x F e2
theorem imp_callW {i : Nat} {t : TA} {tab : List (Str × (List D → R D))} {gs : S → R (List D)} (hK : X.K = K) (hg : X.mg = mg) (TC : TabC X tab) (ha : ImpA K mg E T t gs) : ImpE K mg E T (tCallW X i E t) (dCallW tab i gs) := by
  subst hK hg
  intro B Φ H σ ρ s Q z
  unfold dCallW at z
  split at z
  · rename_i x hx
    split at z
    · rename_i F hF
      obtain ⟨a, ga, C⟩ := TC x F hF
      obtain ⟨nd, n⟩ := s.nds
      obtain ⟨v, h1, h2⟩ := n.at_ i _ hx
      generalize nd i = A at h2
      cases h2 with
      | fz h2 =>
        cases h2 with
        | fn g =>
          rw [ga] at g
          cases g
          exact ⟨a, _, h1, C, imp_call (F := F) ha B Φ H σ ρ s Q z⟩
    · exact z.elim
  · exact z.elim
theorem de_callW {i : Nat} {x : Str} {es : List Expr} {t : TA} {tab : List (Str × (List D → R D))} {gs : S → R (List D)} (TC : TabC X tab) (hx : Passes (L2.CX X.prog X.w) X E) (ha : DA K mg E T X (e :: es) t gs) (hN : X.N[i]? = some x) (hv : Vis X.env.scope x) (hdb : (x == ("__debug__" : Str)) = false) (hcd : (x == ("__classdict__" : Str)) = false)
    (he : starEach (e :: es) X.env = (false, eval e X.env) :: starEach es X.env) (hpl : (backTo pos (starEach es X.env)).any (·.1) = false) : DE K mg E T X (.Call (.Name x p) (e :: es) [] pos) (tCallW X i E t) (dCallW tab i gs) :=
  ⟨ha.k, ha.m, pe_callW hN hv hx ha.pe hdb hcd he hpl, imp_callW ha.k ha.m TC ha.imp⟩
end
/-! ### t[::-1] -/
section
variable {prog : Program} {w : World} {A : Around} {Ex : Value → Shared → Prop} {s : Shared}
theorem applied_back {sl : Addr} {vl vu vs : Value} {n : Nat} {Q : Int × Int × Nat → Shared → Prop} (hs : s.heap.IsSliceOf sl vl vu vs) (pl : IsPart vl none) (pu : IsPart vu none) (ps : IsPart vs (some (-1)))
    (h : Q ((n : Int) - 1, -1, n) s) : wpAny (model prog w) A (Builtin.Slice.sliceApplied (.ref sl) (pure (n : Int))) Q Ex s := by
  obtain ⟨ob, hob, _, hdt⟩ := id hs
  unfold Builtin.Slice.sliceApplied
          Builtin.Slice.sliceFields
  refine wpAny_bind (wpAny_bind (wpAny_field hob hdt (x := vl) rfl (wpAny_bind (wpAny_field hob hdt (x := vu) rfl (wpAny_bind (wpAny_field hob hdt (x := vs) rfl (wpAny_pure ?_)))))))
  refine wpAny_bind (HT.slicePart_ ps ?_)
  show wpAny _ _ (if ((-1 : Int) == 0) = true then _ else _) _ _ s
  rw [if_neg (by decide)]
  refine wpAny_bind (HT.slicePart_ pl (wpAny_bind (HT.slicePart_ pu (wpAny_bind (wpAny_pure ?_)))))
  show wpAny _ _ (match Builtin.Slice.sliceAdjust none none (-1) (n : Int) with | (lo, hi) => pure (lo, (-1 : Int), Builtin.Slice.slicePlaces lo hi (-1))) _ _ s
  have e : Builtin.Slice.sliceAdjust none none (-1) (n : Int) = ((n : Int) - 1, -1) := by
    unfold
            Builtin.Slice.sliceAdjust
    rfl
  rw [e]
  have e2 : Builtin.Slice.slicePlaces ((n : Int) - 1) (-1) (-1) = n := by
    unfold
            Builtin.Slice.slicePlaces
    have g : ¬ ((-1 : Int) > 0) := by decide
    have g2 : (- -1 : Int) = 1 := rfl
    simp only [g, if_false, g2, Int.ediv_one]
    split <;> omega
  show wpAny _ _ (pure ((n : Int) - 1, (-1 : Int), Builtin.Slice.slicePlaces ((n : Int) - 1) (-1) (-1))) _ _ s
  rw [e2]
  exact wpAny_pure h
theorem pick_back (xs : Array Value) : ((List.range xs.size).filterMap fun (m : Nat) => xs[(((xs.size : Int) - 1) + (m : Int) * (-1)).toNat]?).toArray = xs.toList.reverse.toArray := by
  have e : (List.range xs.size).filterMap (fun (m : Nat) => xs[(((xs.size : Int) - 1) + (m : Int) * (-1)).toNat]?) = ((List.range xs.size).map fun k => xs.size - 1 - k).filterMap (xs[·]?) := by
    rw [List.filterMap_map]
    congr 1
    funext m
    have : (((xs.size : Int) - 1) + (m : Int) * (-1)).toNat = xs.size - 1 - m := by omega
    show xs[_]? = xs[_]?
    rw [this]
  rw [e, PySem.W.krv_range, List.filterMap_reverse, PySem.W.krv_all]
theorem item_back {t sl : Addr} {items : Array Value} {vl vu vs : Value} {Q : Value → Shared → Prop} (ht : IsTup s.heap t items) (hs : s.heap.IsSliceOf sl vl vu vs) (pl : IsPart vl none) (pu : IsPart vu none) (ps : IsPart vs (some (-1)))
    (h : Q (.ref s.heap.objs.size) { s with heap := s.heap.push { cls := .type "tuple", data := .seq items.toList.reverse.toArray } }) (hsz : items.size ≤ sizeLine) : wpAny (model prog w) A (getItem (.ref t) (.ref sl)) Q Ex s := by
  have hok : sizeOk (.seq items.toList.reverse.toArray) := by
    show items.toList.reverse.toArray.size ≤ sizeLine
    rw [List.size_toArray, List.length_reverse, Array.length_toList]
    exact hsz
  obtain ⟨ob, hob, hcl, _⟩ := id hs
  have tyS : s.TypeIs (.ref sl) "slice" := ⟨ob, hob, hcl⟩
  unfold getItem
  try (with_reducible refine wpAny_holding ?_)
  try (refine wpAny_bind (wpAny_pure ?_))
  refine wpAny_bind (wpAny_sequenceKey
          ht.typeIs (by decide) ?_)
  refine wpAny_bind (wpAny_callSpecial?_slot (name := Str.ofString
          "__getitem__") ht.typeIs PyProof.Rows.slot_tuple_getitem
    (wpAny_call_entry PyProof.Rows.slot_tuple_getitem ht.typeIs PyProof.Rows.entry_tuple_getitem ?_ (PyProof.Rows.args_tuple_getitem _ _)))
  show wpAny _ _ (Builtin.Tuple.tupleItemsOf
          (.ref t) >>= _) _ _ s
  refine wpAny_bind (PyProof.Rows.tupleItemsOf_ ht ?_)
  refine wpAny_bind (wpAny_typeOf tyS ?_)
  rw [if_pos (by decide)]
  refine wpAny_bind (applied_back hs pl pu ps ?_)
  have hno : ¬ (((items.size : Int) - 1 == 0 && (-1 : Int) == 1 && items.size == items.size) = true) := by
    intro q₀
    rw [Bool.and_eq_true, Bool.and_eq_true] at q₀
    exact absurd (eq_of_beq q₀.1.2) (by decide)
  show wpAny _ _ (if ((items.size : Int) - 1 == 0 && (-1 : Int) == 1 && items.size == items.size) = true then _ else _) _ _ s
  rw [if_neg hno, pick_back]
  first
    | exact wpAny_bind (m := Builtin.Tuple.tupleExact _) (wpAny_newObj_type (wpAny_pure ⟨_, rfl, wpAny_pure h⟩) hok)
    | exact wpAny_bind (m := Builtin.Tuple.tupleExact _) (wpAny_newObj_type (wpAny_bind (wpAny_pure (wpAny_pure ⟨_, rfl, wpAny_pure h⟩))) hok)
    | exact wpAny_bind (wpAny_bind (m := Builtin.Tuple.tupleExact _) (wpAny_newObj_type (wpAny_pure (wpAny_pure ⟨_, rfl, wpAny_pure h⟩)) hok))
    | exact wpAny_bind (wpAny_bind (m := Builtin.Tuple.tupleExact _) (wpAny_newObj_type (wpAny_pure ⟨_, rfl, wpAny_pure h⟩) hok))
end
section
variable {K : PySem.W.Frag} {mg : Str → Option Value} {T : List (Addr × Str)} {E : XK} {X : Cx} {e : Expr} {te : TE} {f : S → R D} {fm : S → M D} {k : Nat} {p1 p2 p3 pos : Pos}
def tRevT (K : PySem.W.Frag) (te : TE) : TE := fun σ H Q => te σ H fun x H1 => ∃ a xs, x = .ref a ∧ SqT K H1 a xs ∧ NewT H1 xs.reverse Q
theorem pe_revT (he : PE X e te) : PE X (.Subscript e (.Slice none none (some (.UnaryOp .USub (.Constant (.int 1) k p1) p2)) p3) pos) (tRevT X.K te) := by
  refine ⟨fun ps s σ H Q I h => ?_⟩
  refine Subscript_ (thn (he.run ps s σ H _ I h) fun v s1 ⟨x, H1, I1, r1, a, xs, ex, hx, q⟩ => ?_)
  subst ex
  cases r1
  have hst : PO X (some (.UnaryOp .USub (.Constant (.int 1) k p1) p2)) (tPart (tUn (rU fun i₀ => .int (-i₀)) (tC (.int 1)))) := po_some (pe_un un_neg pe_int)
  refine wpAny_Slice (thn (po_none.run ps s1 σ H1 (fun o H2 => o = none ∧ H2 = H1) I1 ⟨rfl, rfl⟩) fun vl s2 ⟨l, H2, I2, pl, el, e2⟩ => ?_)
  subst el e2
  refine thn (po_none.run ps s2 σ H2 (fun o H3 => o = none ∧ H3 = H2) I2 ⟨rfl, rfl⟩) fun vu s3 ⟨u, H3, I3, pu, eu, e3⟩ => ?_
  subst eu e3
  refine thn (hst.run ps s3 σ H3 (fun o H4 => o = some (-1) ∧ H4 = H3) I3 ⟨1, rfl, -1, rfl, rfl, rfl⟩) fun vs s4 ⟨o, H4, I4, pt, eo, e4⟩ => ?_
  subst eo e4
  have I5 : Inv X ps σ H4 { s4 with heap := s4.heap.push { cls := .type "slice", data := .fields #[vl, vu, vs] } } := I4.kept (t' := s4.toks) fun b ob q => Heap.get?_push_of_some _ q
  obtain ⟨its, r, ht, hz⟩ := I5.tuple hx
  have hlen := r.length
  show wpAny (model X.prog X.w) X.A (subscriptTail e (.Slice none none (some (.UnaryOp .USub (.Constant (.int 1) k p1) p2)) p3) (.ref a) (.ref s4.heap.objs.size)) (EP X ps σ Q) X.xe { s4 with heap := s4.heap.push { cls := .type "slice", data := .fields #[vl, vu, vs] } }
  refine tail_any (ops := [.ref a, .ref s4.heap.objs.size]) ht.typeIs PyProof.Rows.slot_tuple_getitem.lookup ?_ (by with_unfolding_all rfl)
  refine item_back ht (Heap.IsSliceOf.new _ vl vu vs) pl pu pt ?_ (by rw [List.size_toArray]; omega)
  exact new_tup (s := { s4 with heap := s4.heap.push { cls := .type "slice", data := .fields #[vl, vu, vs] } }) (h' := s4.heap.push { cls := .type "slice", data := .fields #[vl, vu, vs] }) (tk := s4.toks) I5 (fun _ _ e => e) (by simpa using hz) r.reverse q
def revR : D → R D
  | .tup ds => .ok (.tup ds.reverse)
  | _ => .stuck
theorem de_rev (ha : DB K mg E T X e te f) : DE K mg E T X (.Subscript e (.Slice none none (some (.UnaryOp .USub (.Constant (.int 1) k p1) p2)) p3) pos) (tRevT X.K te) (d1 revR f) := by
  refine ⟨ha.k, ha.m, pe_revT ha.pe, fun B Φ H σ ρ s Q z => ha.imp B Φ H σ ρ s _ (PostB.bindE z fun d v Φ1 H1 g1 s1 z1 => ?_)⟩
  unfold revR at z1
  split at z1
  · obtain ⟨p, vs, rfl, h1, _, s2⟩ := s1.tup g1.ex
    have hk := ha.k
    subst hk
    exact ⟨p, vs, rfl, h1, PostE.newT g1.ex z1 (SeeAll.reverse s2)⟩
  · exact z1.elim
end
/-! ### a comprehension whose names are also the def's own -/
def unwipe (ρ : S) : List Nat → S → S
  | [], ρ4 => ρ4
  | v :: vs, ρ4 => match ρ[v]? with
    | some (some (.fz d)) => (unwipe ρ vs ρ4).set v (some (.fz d))
    | _ => (unwipe ρ vs ρ4).set v none
def keepC (vs : List Nat) (f : S → M (List D)) : S → M (List D) := fun ρ => (f (wipeR ρ vs)).bind fun ys ρ4 => .ok ys (unwipe ρ vs ρ4)
section
variable {K : PySem.W.Frag} {mg : Str → Option Value} {T : List (Addr × Str)} {E : XK} {B : Bs} {Φ Φ' H H' : Hp} {σ : L2.St} {ρ ρ4 : S}
theorem NdOk.less {τ1 τ2 : S} {nd : Nat → List Addr} (x : NdOk K mg B Φ H σ τ1 nd) (h : ∀ i : Nat, τ1[i]? = τ2[i]? ∨ (τ2[i]? = some none ∧ ∃ d, τ1[i]? = some (some (Sl.fz d)))) : NdOk K mg B Φ H σ τ2 nd := by
  have at1 : ∀ i s, τ2[i]? = some (some s) → τ1[i]? = some (some s) := fun i s e => by
    rcases h i with w | ⟨w, _⟩
    · rw [w]; exact e
    · rw [w] at e; cases e
  refine ⟨fun i s e => x.at_ i s (at1 i s e), x.own, x.inj, fun i k => ?_, fun i a ds m e => x.own2 i a ds m (at1 i _ e), fun i s l e hl => x.dr0 i s l (at1 i s e) hl⟩
  rcases h i with w | ⟨w, d, e⟩
  · exact x.emp i fun s e => k s (by rw [← w]; exact e)
  · obtain ⟨u, _, h2⟩ := x.at_ i _ e
    generalize nd i = A at h2
    cases h2
    rfl
theorem NdOk.drop1 {nd : Nat → List Addr} (x : NdOk K mg B Φ H σ ρ nd) (v : Nat) : NdOk K mg B Φ H σ (ρ.set v none) fun i => if i = v then [] else nd i := by
  have at1 : ∀ i s, (ρ.set v none)[i]? = some (some s) → i ≠ v ∧ ρ[i]? = some (some s) := fun i s e => by
    by_cases z : i = v
    · subst z
      rw [List.getElem?_set] at e
      simp at e
    · exact ⟨z, by rw [List.getElem?_set_ne (Ne.symm z)] at e; exact e⟩
  refine ⟨fun i s e => ?_, fun i a m => ?_, fun i j a m1 m2 => ?_, fun i k => ?_, fun i a ds m e => ?_, fun i s l e hl => ?_⟩
  · obtain ⟨z, e⟩ := at1 i s e
    obtain ⟨u, h1, h2⟩ := x.at_ i s e
    exact ⟨u, h1, by rw [if_neg z]; exact h2⟩
  · by_cases z : i = v
    · rw [if_pos z] at m; cases m
    · rw [if_neg z] at m; exact x.own i a m
  · by_cases z : i = v
    · rw [if_pos z] at m1; cases m1
    · by_cases z2 : j = v
      · rw [if_pos z2] at m2; cases m2
      · rw [if_neg z] at m1; rw [if_neg z2] at m2; exact x.inj i j a m1 m2
  · show (if i = v then [] else nd i) = []
    by_cases z : i = v
    · rw [if_pos z]
    · rw [if_neg z]
      exact x.emp i fun s e => k s (by rw [List.getElem?_set_ne (Ne.symm z)]; exact e)
  · obtain ⟨z, e⟩ := at1 i _ e
    rw [if_neg z] at m
    exact x.own2 i a ds m e
  · obtain ⟨z, e⟩ := at1 i s e
    rw [if_neg z]
    exact x.dr0 i s l e hl
theorem NdOk.dropAll {nd : Nat → List Addr} (x : NdOk K mg B Φ H σ ρ nd) : ∀ vs, ∃ nd', NdOk K mg B Φ H σ (wipeR ρ vs) nd' ∧ ∀ j a, a ∈ nd' j → a ∈ nd j
  | [] => ⟨nd, x, fun _ _ h => h⟩
  | v :: vs => by
    obtain ⟨nd', x', h⟩ := NdOk.dropAll x vs
    refine ⟨_, x'.drop1 v, fun j a m => ?_⟩
    by_cases z : j = v
    · rw [if_pos z] at m; cases m
    · rw [if_neg z] at m; exact h j a m
theorem unwipe_rel : ∀ (vs : List Nat) (i : Nat), (unwipe ρ vs ρ4)[i]? = (wipeR ρ4 vs)[i]? ∨ ((wipeR ρ4 vs)[i]? = some none ∧ ∃ d, (unwipe ρ vs ρ4)[i]? = some (some (Sl.fz d)))
  | [], i => .inl rfl
  | v :: vs, i => by
    have ih := unwipe_rel vs i
    have hl : (unwipe ρ vs ρ4).length = (wipeR ρ4 vs).length := by
      have : ∀ vs, (unwipe ρ vs ρ4).length = ρ4.length := fun vs => by
        induction vs with
        | nil => rfl
        | cons v vs ih => unfold unwipe; split <;> simp [ih]
      rw [this, wipeR_len]
    unfold unwipe wipeR
    by_cases z : v = i
    · subst z
      split
      · rename_i d w
        by_cases lt : v < (wipeR ρ4 vs).length
        · exact .inr ⟨List.getElem?_set_self lt, d, List.getElem?_set_self (by omega)⟩
        · exact .inl (by rw [List.getElem?_eq_none (by rw [List.length_set]; omega), List.getElem?_eq_none (by rw [List.length_set]; omega)])
      · by_cases lt : v < (wipeR ρ4 vs).length
        · exact .inl (by rw [List.getElem?_set_self lt, List.getElem?_set_self (by omega)])
        · exact .inl (by rw [List.getElem?_eq_none (by rw [List.length_set]; omega), List.getElem?_eq_none (by rw [List.length_set]; omega)])
    · split
      · rw [List.getElem?_set_ne z, List.getElem?_set_ne z]; exact ih
      · rw [List.getElem?_set_ne z, List.getElem?_set_ne z]; exact ih
theorem SOk.unwipe (s : SOk K mg T B Φ H σ ρ) (e : Ex Φ Φ') (s4 : SOk K mg T B Φ' H' σ ρ4) : ∀ vs, SOk K mg T B Φ' H' σ (TP.unwipe ρ vs ρ4)
  | [] => s4
  | v :: vs => by
    have ih := SOk.unwipe s e s4 vs
    unfold TP.unwipe
    split
    · rename_i d w
      obtain ⟨nd, x⟩ := id s.nds
      obtain ⟨u, h1, h2⟩ := x.at_ v _ w
      generalize nd v = A at h2
      cases h2 with
      | fz r =>
        have q := ih.set v (See.mono e r)
        have es : σ.set v (some u) = σ := by
          apply List.ext_getElem?
          intro k
          by_cases z : v = k
          · subst z
            rw [h1, List.getElem?_set_self (List.getElem?_eq_some_iff.mp h1).1]
          · rw [List.getElem?_set_ne z]
        rw [es] at q
        exact q
    · exact ih.drop v
theorem imp_keep {t : TE} {f : S → M (List D)} (vs : List Nat) (h : ImpMN K mg E T t f) : ImpMN K mg E T t (keepC vs f) := by
  intro B Φ H σ ρ s Q z
  refine h B Φ H σ (wipeR ρ vs) (s.dropAll vs) Q ?_
  unfold keepC at z
  cases q : f (wipeR ρ vs) with
  | ok ds ρ4 =>
    rw [q] at z
    intro p vs' Φ' H' e s4 hn
    refine z p vs' Φ' H' e (SOk.unwipe s e s4 vs) fun nd x j m => ?_
    obtain ⟨nd0, x0⟩ := id s4.nds
    obtain ⟨nd', x', hd⟩ := x0.dropAll vs
    have xw := x.less (unwipe_rel (ρ := ρ) (ρ4 := ρ4) vs)
    rw [xw.uniq x'] at m
    exact hn nd0 x0 j (hd j p m)
  | raise x ρ4 => rw [q] at z; exact z
  | stuck => rw [q] at z; exact z
end
theorem DMN.keep {K : PySem.W.Frag} {mg : Str → Option Value} {T : List (Addr × Str)} {E : XK} {X : Cx} {e : Expr} {t : TE} {f : S → M (List D)} (vs : List Nat) (h : DMN K mg E T X e t f) : DMN K mg E T X e t (keepC vs f) := ⟨h.k, h.m, h.pe, imp_keep vs h.imp⟩
/-! ### .. stored in a local name -/
section
variable {K : PySem.W.Frag} {mg : Str → Option Value} {T : List (Addr × Str)} {E : XK} {X : Cx} {elt tg iter : Expr} {ifs : List Expr} {tt : TT} {te : TE} {pos py spos : Pos} {y : Str}
variable {scope : Scope} {own : List (Str × Nat)} {wi : TI} {g : TG} {fi : S → M (List D)} {asg : D → S → Option S} {is : List Nat} {tf : S → M Bool} {ef : S → M D} (i : Nat)
section
variable (hy : X.N[i]? = some y) (hyl : X.env.scope.names.lookup y = some .local) (hsw : swapsWith (.ListComp elt [⟨tg, iter, ifs, 0⟩] scope pos) (some (.Name y py)) spos.line X.env = pure true)
  (hc : X.calm = true) (hN : X.N.Nodup) (hi : DI K mg E T X tg iter wi fi) (ok : BlkOk X.N X.env.scope scope own)
  (hg : ∀ (s : Shared) (H : Hp) (C : Addr) (cl : List (Str × Addr)) (fp : List Addr), DG K mg T (X.blk s H scope (compEnvC scope cl C X.env) fp) tg g asg is) (hv : ∀ i ∈ is, i ∈ own.map (·.2))
  (ht : ∀ (s : Shared) (H : Hp) (C : Addr) (cl : List (Str × Addr)) (fp : List Addr), DTs K mg (fun _ _ _ => False) T (X.blk s H scope (compEnvC scope cl C X.env) fp) ifs tt tf)
  (he : ∀ (s : Shared) (H : Hp) (C : Addr) (cl : List (Str × Addr)) (fp : List Addr), DM K mg (fun _ _ _ => False) T (X.blk s H scope (compEnvC scope cl C X.env) fp) elt te ef) (hs : ∀ x, foldedSetIterable iter X.env x = pure x) (s0 : Shared)
include hy hyl hsw hc hN hi ok hg hv ht he hs s0
theorem ds_setLcKO : DS K mg E T X (.Assign [.Name y py] (.ListComp elt [⟨tg, iter, ifs, 0⟩] scope pos) spos) (tAsg (tLc wi g tt te (own.map (·.2))) (gName i)) (sSet i (vMN (keepC (own.map (·.2)) (fComp (own.map (·.2)) fi asg tf ef)))) :=
  ⟨hi.k, hi.m, ps_setLc hc hN hy hyl hsw hi.pi ok (fun s H C cl fp => (hg s H C cl fp).pg) (fun s H C cl fp => (ht s H C cl fp).pe) (fun s H C cl fp => (he s H C cl fp).pe) hs, imp_set ((dmn_lc (pos := pos) hc hN hi ok hg hv ht he hs s0).keep _).toV.imp⟩
theorem ds_setLcKF : DS K mg E T X (.Assign [.Name y py] (.ListComp elt [⟨tg, iter, ifs, 0⟩] scope pos) spos) (tAsg (tLc wi g tt te (own.map (·.2))) (gName i)) (sSet i (vM (lM (keepC (own.map (·.2)) (fComp (own.map (·.2)) fi asg tf ef))))) :=
  ⟨hi.k, hi.m, ps_setLc hc hN hy hyl hsw hi.pi ok (fun s H C cl fp => (hg s H C cl fp).pg) (fun s H C cl fp => (ht s H C cl fp).pe) (fun s H C cl fp => (he s H C cl fp).pe) hs, imp_set ((dmn_lc (pos := pos) hc hN hi ok hg hv ht he hs s0).keep _).toM.toV.imp⟩
end
end
end TP
set_option Elab.async false
set_option linter.all false
set_option maxRecDepth 100000
/-! Tree programs: the least of a list of tuples of numbers. -/
namespace TP
open PySem L2 PyProof.Rows PySem.Spec
open PySem.W (minD AlikeAll min_list_data reads_keeps dataLt)
/-- the first difference decides, else the shorter -/
def lexL : List Int → List Int → Bool
  | [], [] => false
  | [], _ :: _ => true
  | _ :: _, [] => false
  | x :: xs, y :: ys => if x = y then lexL xs ys else decide (x < y)
def minL (a : List Int) (as : List (List Int)) : List Int := as.foldl (fun m y => if lexL y m = true then y else m) a
def D.tupI : D → Option (List Int)
  | .tup ds => D.ints ds
  | _ => none
def tupIs : List D → Option (List (List Int))
  | [] => some []
  | d :: ds => d.tupI.bind fun a => (tupIs ds).map (a :: ·)
def bMinT : D → R D
  | .lst ds => match tupIs ds with
    | some (a :: as) => .ok (.tup ((minL a as).map D.int))
    | _ => .stuck
  | _ => .stuck
theorem minT_nx : ∀ x, NoX (bMinT x) := fun x z => by
  unfold bMinT
  repeat' split
  all_goals exact fun w => by cases w
theorem tupI_some {d : D} {a : List Int} (h : d.tupI = some a) : d = .tup (a.map D.int) := by
  cases d <;> first | cases h | skip
  exact congrArg D.tup (ints_some h)
theorem tupIs_some : ∀ {ds : List D} {as : List (List Int)}, tupIs ds = some as → ds = as.map fun a => D.tup (a.map D.int)
  | [], as, h => by cases h; rfl
  | d :: ds, as, h => by
    obtain ⟨a, e1, e2⟩ := bindSome (show (d.tupI).bind _ = some _ from h)
    obtain ⟨r, e3, rfl⟩ := mapSome e2
    rw [tupI_some e1, tupIs_some e3]
    rfl
theorem ints_of : ∀ a : List Int, D.ints (a.map D.int) = some a
  | [] => rfl
  | n :: r => by
    show (D.ints (r.map D.int)).map (n :: ·) = _
    rw [ints_of r]; rfl
theorem tupIs_map : ∀ as : List (List Int), tupIs (as.map fun a => D.tup (a.map D.int)) = some as
  | [] => rfl
  | a :: as => by
    show (D.ints (a.map D.int)).bind (fun b => (tupIs (as.map fun a => D.tup (a.map D.int))).map (b :: ·)) = _
    rw [ints_of, tupIs_map as]
    rfl
def pyT (a : List Int) : PyData := .tuple (a.map PyData.int)
theorem rp_ints : ∀ a : List Int, rpAll (a.map D.int) = some (a.map PyData.int)
  | [] => rfl
  | n :: r => by
    show (some (PyData.int n)).bind (fun y => (rpAll (r.map D.int)).map fun ys => y :: ys) = _
    rw [rp_ints r]
    rfl
theorem rp_tupI (a : List Int) : D.rp (.tup (a.map D.int)) = some (pyT a) := by
  show (rpAll (a.map D.int)).map PyData.tuple = _
  rw [rp_ints]
  rfl
theorem rp_tupIs : ∀ as : List (List Int), rpAll (as.map fun a => D.tup (a.map D.int)) = some (as.map pyT)
  | [] => rfl
  | a :: as => by
    show (D.rp (.tup (a.map D.int))).bind (fun y => (rpAll (as.map fun a => D.tup (a.map D.int))).map fun ys => y :: ys) = _
    rw [rp_tupI, rp_tupIs as]
    rfl
theorem lexL_eq : ∀ a b : List Int, PySem.W.listLt a b = lexL a b
  | [], [] => rfl
  | [], _ :: _ => rfl
  | _ :: _, [] => rfl
  | x :: xs, y :: ys => by
    show (if x = y then PySem.W.listLt xs ys else decide (x < y)) = if x = y then lexL xs ys else decide (x < y)
    rw [lexL_eq xs ys]
theorem lt_pyT (a b : List Int) : PySem.W.dataLt (pyT a) (pyT b) = lexL a b := by
  rw [← lexL_eq]
  exact (PySem.W.dataLt_tuple _ _).trans (PySem.W.lexAll_map a b)
theorem minD_pyT (a : List Int) (as : List (List Int)) : minD (pyT a) (as.map pyT) = pyT (minL a as) := by
  unfold minD minL
  induction as generalizing a with
  | nil => rfl
  | cons y ys ih =>
    rw [List.map_cons, List.foldl_cons,
            List.foldl_cons, ← ih]
    show List.foldl _ (if dataLt (pyT y) (pyT a) = true then pyT y else pyT a) _ = _
    rw [show dataLt (pyT y) (pyT a) = lexL y a from lt_pyT y a]
    cases lexL y a <;> rfl
theorem pyT_inj {a b : List Int} (h : pyT a = pyT b) : a = b := by
  have h := PyData.tuple.inj h
  exact (List.map_inj_right fun x y e => PyData.int.inj e).mp h
theorem alike_pyT (as : List (List Int)) : AlikeAll (as.map pyT) := by
  constructor
  · intro x hx y hy
    obtain ⟨a₀, _, rfl⟩ := List.mem_map.mp hx
    obtain ⟨b₀, _, rfl⟩ := List.mem_map.mp hy
    show PySem.W.alike (.tuple _) (.tuple _) = true
    simp only [PySem.W.alike]
    exact PySem.W.alikeAll_map a₀ b₀
  · intro x hx
    obtain ⟨a₀, _, rfl⟩ := List.mem_map.mp hx
    exact fun e => by cases e
theorem depth_ints : ∀ a : List Int, PyData.depthAll (a.map PyData.int) = 0
  | [] => rfl
  | n :: r => by
    show max 0 (PyData.depthAll (r.map PyData.int)) = 0
    rw [depth_ints r]
    rfl
theorem depth_pyT : ∀ as : List (List Int), PyData.depthAll (as.map pyT) ≤ 1
  | [] => Nat.zero_le _
  | a :: as => by
    show max ((PyData.depthAll (a.map PyData.int)) + 1) (PyData.depthAll (as.map pyT)) ≤ 1
    rw [depth_ints a]
    exact Nat.max_le.mpr ⟨Nat.le_refl _, depth_pyT as⟩
def rMinT (K : PySem.W.Frag) (mg : Str → Option Value) : List V → Hp → VK → Prop := fun xs H Q => ∃ p vs Φ a as, xs = [V.ref p] ∧ Ex Φ H ∧ SqL K H p vs ∧ SeeAll K mg Φ vs ((a :: as).map fun a => .tup (a.map D.int)) ∧ ∀ v, See K mg Φ v (.tup ((minL a as).map D.int)) → Q v H
theorem vals_at : ∀ {vs : List V} {us : List Value}, Vals vs us → ∀ (i : Nat) (u : Value), us[i]? = some u → ∃ v, vs[i]? = some v ∧ RelV v u
  | _, _, .nil, _, _, h => by simp at h
  | _, _, .cons p q, 0, u, h => ⟨_, rfl, by
    have := Option.some.inj (show some _ = some u from h)
    subst this
    exact p⟩
  | _, _, .cons p q, i + 1, u, h => by
    obtain ⟨v, e, r⟩ := vals_at q i u (by simpa using h)
    exact ⟨v, by simpa using e, r⟩
theorem see_at {K : PySem.W.Frag} {mg : Str → Option Value} {Φ : Hp} : ∀ {vs : List V} {ds : List D}, SeeAll K mg Φ vs ds → ∀ (i : Nat) (v : V), vs[i]? = some v → ∃ d, ds[i]? = some d ∧ See K mg Φ v d
  | _, _, .nil, _, _, h => by simp at h
  | _, _, .cons p q, 0, v, h => ⟨_, rfl, by
    have := Option.some.inj (show some _ = some v from h)
    subst this
    exact p⟩
  | _, _, .cons p q, i + 1, v, h => by
    obtain ⟨d, e, r⟩ := see_at q i v (by simpa using h)
    exact ⟨d, by simpa using e, r⟩
theorem cr_minT {X : Cx} (hc : X.calm = true) (S : SysIn X.K) (hu : X.A.units + 64 < cLine) : CallR X (.builtin "min") (rMinT X.K X.mg) := by
  intro pins s₀ σ H xs us Q I r h
  obtain ⟨p, vs, Φ, a, as, rfl, ex, q1, rs, q⟩ := h
  rw [Vals.ref1 r]
  obtain ⟨its, rv, hl, _⟩ := I.list q1
  obtain ⟨bs, rd, _⟩ := SeeAll.rd S I ex rs rv (rp_tupIs (a :: as))
  refine min_list_data (x := pyT a) (xs := as.map pyT) (I.ok.hd hc) hl.isList (by simpa using rd) (alike_pyT (a :: as)) (by have := depth_pyT (a :: as); simp only [List.map_cons] at this; omega) fun i v h' tk cs hi rr hk => ?_
  have hi : its[i]? = some v := by simpa using hi
  obtain ⟨y, ey, ry⟩ := vals_at rv i v hi
  obtain ⟨d, ed, sd⟩ := see_at rs i y ey
  refine ⟨y, H, I.kept (t' := tk) hk, ry, q y ?_⟩
  rw [List.getElem?_map] at ed
  obtain ⟨b, eb, rfl⟩ := mapSome ed
  obtain ⟨es, re, _⟩ := See.rd S I ex sd ry (rp_tupI b)
  have := (Reads.unique (reads_keeps hk re) _ _ rr).1
  rw [minD_pyT] at this
  rw [← pyT_inj this]
  exact sd
theorem sem_minT {K : PySem.W.Frag} {mg : Str → Option Value} : Op1 K mg (rMinT K mg) bMinT := by
  intro Φ H x dx Q ex hx h
  unfold bMinT at h
  split at h
  · split at h
    · rename_i ds a as e
      obtain ⟨p, vs, rfl, e1, s⟩ := hx.lst ex
      rw [tupIs_some e] at s
      exact ⟨p, vs, Φ, a, as, rfl, ex, .inl (.inl e1), s, fun v sv => h.flat ex rfl sv⟩
    · exact h.elim
  · exact h.elim
/-! ### x += k, numbers -/
def sAugI (i : Nat) (k : Int → Int → Int) (f : S → M D) : S → M Fl := fun ρ => match ρ[i]? with
  | some (some (.fz (.int a))) => (f ρ).bind fun e ρ1 => match e with
    | .int b => .ok .nx (ρ1.set i (some (.fz (.int (k a b)))))
    | _ => .stuck
  | _ => .stuck
section
variable {K : PySem.W.Frag} {mg : Str → Option Value} {T : List (Addr × Str)} {E : XK} {X : Cx} {e : Expr} {te : TE} {fm : S → M D} {pos p : Pos} {x : Str}
theorem slot_int {B : Bs} {Φ H : Hp} {σ : L2.St} {ρ : S} {i : Nat} {a : Int} (s : SOk K mg T B Φ H σ ρ) (h : ρ[i]? = some (some (.fz (.int a)))) : σ[i]? = some (some (.int a)) := by
  obtain ⟨nd, n⟩ := s.nds
  obtain ⟨v, e1, e2⟩ := n.at_ i _ h
  generalize hA : nd i = A at e2
  cases e2 with
  | fz r => cases r; exact e1
theorem ds_aug (i : Nat) {op : Operator} {k : Int → Int → Int} (hN : X.N.Nodup) (ho : PIp X op (ipI k)) (h : DM K mg E T X e te fm) (hi : X.N[i]? = some x := by rfl) (hx : Loc X.env.scope x := by first | exact Or.inl rfl | exact Or.inr rfl)
    (hf : X.fn x = true ∨ X.env.scope.names.lookup x = some .local := by first | exact .inl rfl | exact .inr rfl | assumption) :
    DS K mg E T X (.AugAssign (.Name x p) op e pos) (tAug i te (ipI k)) (sAugI i k fm) := by
  refine ⟨h.k, h.m, ps_aug hN hi hx h.pe ho hf, fun B Φ H σ ρ hM s D z => ?_⟩
  unfold sAugI at z
  split at z
  rotate_left
  · exact z.elim
  rename_i a w
  refine ⟨.int a, slot_int s w, h.imp B Φ H σ ρ s _ (PostM.toS z fun d ρ1 v Φ1 H1 e1 s1 sv z1 => ?_)⟩
  split at z1
  · rename_i b
    cases sv
    exact ⟨a, b, rfl, rfl, z1 Φ1 _ _ (Ex.refl _) (s1.set i (.int _))⟩
  · exact z1.elim
end
end TP
set_option Elab.async false
set_option linter.all false
set_option maxRecDepth 100000
/-! Tree programs: a tuple several times. -/
namespace TP
open PySem L2 PyProof.Rows PySem.Spec
theorem vals_rep {xs : List V} {us : List Value} (h : Vals xs us) : ∀ m : Nat, Vals (List.replicate m xs).flatten (List.replicate m us).flatten
  | 0 => .nil
  | m + 1 => by
    rw [List.replicate_succ, List.replicate_succ,
            List.flatten_cons, List.flatten_cons]
    exact vals_app h (vals_rep h m)
theorem see_rep {K : PySem.W.Frag} {mg : Str → Option Value} {Φ : Hp} {vs : List V} {ds : List D} (h : SeeAll K mg Φ vs ds) : ∀ m : Nat, SeeAll K mg Φ (List.replicate m vs).flatten (List.replicate m ds).flatten
  | 0 => .nil
  | m + 1 => by
    rw [List.replicate_succ, List.replicate_succ,
            List.flatten_cons, List.flatten_cons]
    exact h.append (see_rep h m)
theorem rep_len {α : Type} (xs : List α) : ∀ m : Nat, (List.replicate m xs).flatten.length = m * xs.length
  | 0 => by simp
  | m + 1 => by
    rw [List.replicate_succ, List.flatten_cons, List.length_append, rep_len xs m, Nat.succ_mul]
    omega
def rMulF (K : PySem.W.Frag) : R2 := fun x y H Q => ∃ l k xs, x = .ref l ∧ y = .int k ∧ SqT K H l xs ∧ 0 < xs.length ∧ 2 ≤ k ∧ k.toNat * xs.length ≤ 1000000 ∧ NewT H (List.replicate k.toNat xs).flatten Q
theorem op_mulF {X : Cx} : OpR X (binaryOp .Mult) (rMulF X.K) := by
  rintro pins s σ H x y v u Q I rx ry ⟨l, k, xs, rfl, rfl, hq, hp, hk, hm, q⟩
  cases rx
  obtain ⟨t, rfl⟩ := ry
  obtain ⟨us, rv, ⟨⟨cl, dd, dt, sl⟩, ho, e1, n, e2⟩, _⟩ := I.tuple hq
  simp only at e1 e2
  subst e1 e2
  have hl : us.length = xs.length := (rv.length).symm
  have ha : us.toArray.size = xs.length := by rw [List.size_toArray, hl]
  have he : us.toArray.isEmpty = false := by
    rw [Array.isEmpty_eq_false_iff_exists_mem] <;> first | skip
    exact ⟨us[0]'(by omega), by simp⟩
  have kn : ((k.toNat : Nat) : Int) = k := by omega
  have hz : k.toNat ≤ 1000000 := Nat.le_trans (Nat.le_mul_of_pos_right _ hp) hm
  have prod : ((us.toArray.size : Nat) : Int) * k = ((k.toNat * xs.length : Nat) : Int) := by
    rw [ha, Int.natCast_mul, kn, Int.mul_comm]
  have fl : (List.replicate k.toNat us).flatten.length ≤ sizeLine := by
    rw [rep_len, hl, sizeLine_eq]
    omega
  have q1 : (decide (k < -(2 ^ 63)) || decide (k ≥ 2 ^ 63)) = false := Bool.or_eq_false_iff.mpr ⟨decide_eq_false (by omega), decide_eq_false (by omega)⟩
  have q2 : (us.toArray.isEmpty || k == 1) = false := Bool.or_eq_false_iff.mpr ⟨he, beq_false_of_ne (by omega)⟩
  have q3 : (decide (k ≤ 0) || us.toArray.isEmpty) = false := Bool.or_eq_false_iff.mpr ⟨decide_eq_false (by omega), he⟩
  have q4 : Builtin.Tuple.tupleTooMany (((us.toArray.size : Nat) : Int) * k) = false := by
    rw [prod]
    unfold
            Builtin.Tuple.tupleTooMany
    rw [sizeLine_eq]
    exact decide_eq_false
            (by omega)
  have q5 : ¬ ((us.toArray.size : Nat) : Int) * k > (2 ^ 63 - 1) / 8 := by rw [prod]; omega
  have q6 : (List.foldl (fun x1 x2 => x1 ++ x2) #[] (List.replicate k.toNat us.toArray)).size ≤ sizeLine := by rw [size_rep, List.size_toArray]; exact fl
  have last := new_tup (s := s) (h' := s.heap) (tk := s.toks) I (fun _ _ e => e) (by rw [rep_len]; rw [sizeLine_eq]; omega) (vals_rep rv k.toNat) q
  exact wpAny_binaryOp_repeat_ref (T := "tuple") (U := "int") (by decide) ⟨_, ho, rfl⟩ (fun s' => typeIs_int s' k t) noFill_tuple_mul PySem.F.fills_int_mul PySem.F.slot_int_rmul repeat_tuple PySem.F.slot_int_index.lookup
    (call_meets PySem.F.slot_int_rmul (typeIs_int s k t) PySem.F.entry_int_rmul (PySem.F.args_int_rmul_2 _ _) (int_rmul_tuple k t l us.toArray n dd sl) ⟨ho, rfl, ⟨_, ho, rfl⟩, call_meets PySem.F.slot_tuple_mul ⟨_, ho, rfl⟩ PySem.F.entry_tuple_mul (PySem.F.args_tuple_mul_2 _ _) (tuple_mulW l us.toArray n dd sl k t q1 q2 q3 q5 q4 q6) ⟨ho, by rw [size_rep]; exact last⟩⟩)
def opMulT : D → D → R D
  | .int i, .int j => opMul (.int i) (.int j)
  | .tup ds, .int k => if 0 < ds.length ∧ 2 ≤ k ∧ k.toNat * ds.length ≤ 1000000 then .ok (.tup (List.replicate k.toNat ds).flatten) else .stuck
  | _, _ => .stuck
theorem mulT_noX : ∀ x y, NoX (opMulT x y) := fun x y z => by
  unfold opMulT
  split
  · exact opI_noX _ _ z
  · split <;> exact fun w => by cases w
  · exact fun w => by cases w
theorem or_mul {X : Cx} : OpR X (binaryOp .Mult) (fun x y H Q => rI CMul3 (fun i j => .int (i * j)) x y H Q ∨ rMulF X.K x y H Q) := op_mul3.or op_mulF
theorem sem_mulT {K : PySem.W.Frag} {mg : Str → Option Value} : Op2 K mg (fun x y H Q => rI CMul3 (fun i j => .int (i * j)) x y H Q ∨ rMulF K x y H Q) opMulT := by
  intro Φ H x y dx dy Q ex hx hy h
  unfold opMulT at h
  split at h
  · exact .inl (sem_mul Φ H x y _ _ Q ex hx hy h)
  · split at h
    · rename_i ds k c
      obtain ⟨p, vs, rfl, e1, f1, s1⟩ := hx.tup ex
      cases hy.int
      have hl := SeeAll.length s1
      exact .inr ⟨p, k, vs, rfl, rfl, e1, by rw [hl]; exact c.1, c.2.1, by rw [hl]; exact c.2.2, PostE.newT ex h (see_rep s1 k.toNat)⟩
    · exact h.elim
  · exact h.elim
/-! ### xs[::-1] of a list -/
def revLR : D → R D
  | .lst ds => .ok (.lst ds.reverse)
  | _ => .stuck
section
variable {K : PySem.W.Frag} {mg : Str → Option Value} {T : List (Addr × Str)} {E : XK} {X : Cx} {e : Expr} {te : TE} {f : S → R D} {k : Nat} {p1 p2 p3 pos : Pos}
theorem de_revL (ha : DB K mg E T X e te f) : DE K mg E T X (.Subscript e (.Slice none none (some (.UnaryOp .USub (.Constant (.int 1) k p1) p2)) p3) pos) (tRevL X.K te) (d1 revLR f) := by
  refine ⟨ha.k, ha.m, pe_revL ha.pe, fun B Φ H σ ρ s Q z => ha.imp B Φ H σ ρ s _ (PostB.bindE z fun d v Φ1 H1 g1 s1 z1 => ?_)⟩
  unfold revLR at z1
  split at z1
  · obtain ⟨p, vs, rfl, h1, s2⟩ := s1.lst g1.ex
    have hk := ha.k
    subst hk
    exact ⟨p, vs, rfl, .inl (.inl h1), PostE.newL g1.ex z1 (SeeAll.reverse s2)⟩
  · exact z1.elim
end
end TP
set_option Elab.async false
set_option linter.all false
set_option maxRecDepth 100000
/-! Tree programs: a tuple once, or an empty one: itself. -/
namespace TP
open PySem L2 PyProof.Rows PySem.Spec
theorem mul_same (l : Addr) (items : Array Value) (n : Nat) (dd : Option Addr) (sl : Array (Option Value)) (x : Int) (u : Tok) (k0 : (decide (x < -(2 ^ 63)) || decide (x ≥ 2 ^ 63)) = false) (k1 : (items.isEmpty || x == 1) = true) :
    Meets (Builtin.«tuple.__mul__» ⟨[.ref l, .int x u], []⟩) (fun _ R s => s.heap.get? l = some { cls := .type "tuple", dict := dd, data := .seq items n, slots := sl } ∧ R (.ok (.ret (.ref l))) s) :=
  .of_wp fun prog w A R s z => by
    obtain ⟨hp, g₀, d, tk, os⟩ := s
    obtain ⟨hl₀, z⟩ := z
    have ix := AutoSeq1.idx_int
    wp_walk using wpAny_loadPart' hl₀
    repeat (first
      | (refine wpAny_ite_false (decide_eq_false (by rw [k0]; exact Bool.false_ne_true)) ?_
         wp_walk using wpAny_loadPart' hl₀)
      | (refine wpAny_ite_true (decide_eq_true (by rw [k1])) ?_
         wp_walk using wpAny_loadPart' hl₀))
    exact ⟨_, rfl, z⟩
def rMulS (K : PySem.W.Frag) : R2 := fun x y H Q => ∃ l k xs, x = .ref l ∧ y = .int k ∧ SqT K H l xs ∧ (xs.length = 0 ∨ k = 1) ∧ k.natAbs < 2 ^ 62 ∧ Q (.ref l) H
theorem op_mulS {X : Cx} : OpR X (binaryOp .Mult) (rMulS X.K) := by
  rintro pins s σ H x y v u Q I rx ry ⟨l, k, xs, rfl, rfl, hq, hk, hz, q⟩
  cases rx
  obtain ⟨t, rfl⟩ := ry
  obtain ⟨us, rv, ⟨⟨cl, dd, dt, sl⟩, ho, e1, n, e2⟩, _⟩ := I.tuple hq
  simp only at e1 e2
  subst e1 e2
  have hl : us.length = xs.length := (rv.length).symm
  have q1 : (decide (k < -(2 ^ 63)) || decide (k ≥ 2 ^ 63)) = false := Bool.or_eq_false_iff.mpr ⟨decide_eq_false (by omega), decide_eq_false (by omega)⟩
  have q2 : (us.toArray.isEmpty || k == 1) = true := by
    rcases hk with hk | hk
    · have : us = [] := List.length_eq_zero_iff.mp (by omega)
      rw [this]; rfl
    · rw [hk]; simp
  exact wpAny_binaryOp_repeat_ref (T := "tuple") (U := "int") (by decide) ⟨_, ho, rfl⟩ (fun s' => typeIs_int s' k t) noFill_tuple_mul PySem.F.fills_int_mul PySem.F.slot_int_rmul repeat_tuple PySem.F.slot_int_index.lookup
    (call_meets PySem.F.slot_int_rmul (typeIs_int s k t) PySem.F.entry_int_rmul (PySem.F.args_int_rmul_2 _ _) (int_rmul_tuple k t l us.toArray n dd sl) ⟨ho, rfl, ⟨_, ho, rfl⟩, call_meets PySem.F.slot_tuple_mul ⟨_, ho, rfl⟩ PySem.F.entry_tuple_mul (PySem.F.args_tuple_mul_2 _ _) (mul_same l us.toArray n dd sl k t q1 q2) ⟨ho, ⟨.ref l, H, I.tok _, rfl, q⟩⟩⟩)
/-- numbers; a tuple any number of times from once on -/
def opMulU : D → D → R D
  | .int i, .int j => opMul (.int i) (.int j)
  | .tup ds, .int k => if ds.length = 0 ∧ k.natAbs < 2 ^ 62 ∨ k = 1 then .ok (.tup ds) else opMulT (.tup ds) (.int k)
  | _, _ => .stuck
theorem mulU_noX : ∀ x y, NoX (opMulU x y) := fun x y z => by
  unfold opMulU
  split
  · exact opI_noX _ _ z
  · split
    · exact fun w => by cases w
    · exact mulT_noX _ _ z
  · exact fun w => by cases w
abbrev rMulU (K : PySem.W.Frag) : R2 := fun x y H Q => (rI CMul3 (fun i j => .int (i * j)) x y H Q ∨ rMulF K x y H Q) ∨ rMulS K x y H Q
theorem or_mulU {X : Cx} : OpR X (binaryOp .Mult) (rMulU X.K) := or_mul.or op_mulS
theorem sem_mulU {K : PySem.W.Frag} {mg : Str → Option Value} : Op2 K mg (rMulU K) opMulU := by
  intro Φ H x y dx dy Q ex hx hy h
  unfold opMulU at h
  split at h
  · exact .inl (.inl (sem_mul Φ H x y _ _ Q ex hx hy h))
  · split at h
    · rename_i ds k c
      obtain ⟨p, vs, rfl, e1, f1, s1⟩ := hx.tup ex
      cases hy.int
      have hl := SeeAll.length s1
      refine .inr ⟨p, k, vs, rfl, rfl, e1, ?_, ?_, h.flat ex rfl (.tup f1 s1)⟩
      · rcases c with c | c
        · exact .inl (by rw [hl]; exact c.1)
        · exact .inr c
      · rcases c with c | c
        · exact c.2
        · rw [c]; decide
    · exact .inl (sem_mulT Φ H x y _ _ Q ex hx hy h)
  · exact h.elim
end TP
set_option Elab.async false
set_option linter.all false
set_option maxRecDepth 100000
/-! Tree programs: texts put together. -/
namespace TP
open PySem L2 PyProof.Rows PySem.Spec
def strsD : List D → Option (List Str)
  | [] => some []
  | .str s :: ds => (strsD ds).map (s :: ·)
  | _ :: _ => none
theorem strsD_some : ∀ {ds : List D} {ys : List Str}, strsD ds = some ys → ds = ys.map D.str
  | [], ys, h => by cases h; rfl
  | d :: ds, ys, h => by
    cases d <;> first | cases h | skip
    obtain ⟨r, e, rfl⟩ := mapSome (show (strsD ds).map _ = some _ from h)
    rw [strsD_some e]; rfl
theorem see_strs {K : PySem.W.Frag} {mg : Str → Option Value} {Φ : Hp} : ∀ {ys : List Str} {vs : List V}, SeeAll K mg Φ vs (ys.map D.str) → vs = ys.map V.str
  | [], _, h => by cases h; rfl
  | y :: ys, _, h => by
    cases h with
    | cons p q => cases p; rw [see_strs q]; rfl
def bJoin (a : Str) : D → R D
  | .lst ds => match strsD ds with
    | some ys => if (ys.map (·.length)).sum + ys.length * a.length ≤ 16777216 then .ok (.str (Txt.join a ys)) else .stuck
    | none => .stuck
  | _ => .stuck
theorem join_nx (a : Str) : ∀ x, NoX (bJoin a x) := fun x z => by
  unfold bJoin
  repeat' split
  all_goals exact fun w => by cases w
section
variable {K : PySem.W.Frag} {mg : Str → Option Value} {T : List (Addr × Str)} {E : XK} {X : Cx} {e : Expr} {te : TE} {fm : S → M D} {apos pos p0 : Pos} {a : Str} {j : Nat}
theorem dm_join (h : DM K mg E T X e te fm) (hs : starEach [e] X.env = (false, eval e X.env) :: starEach [] X.env := by rfl) (hbase : attributeBase (.Constant (.str a) j p0) "join" X.env (eval (.Constant (.str a) j p0) X.env) = eval (.Constant (.str a) j p0) X.env := by rfl) (hline : (apos.endLine == pos.line) = true := by rfl) :
    DM K mg E T X (.Call (.Attribute (.Constant (.str a) j p0) "join" apos) [e] [] pos) (tM1 (fun x xs H Q => ∃ a p, ∃ ys : List Str, x = .str a ∧ xs = [.ref p] ∧ (SqL X.K H p (ys.map V.str) ∨ SqT X.K H p (ys.map V.str)) ∧
      (ys.map (·.length)).sum + ys.length * a.length ≤ 16777216 ∧ Q (.str (Txt.join a ys)) H) (tC (.str a)) te) (fun ρ => (fm ρ).lift (bJoin a)) := by
  refine ⟨h.k, h.m, pe_join pe_str h.pe hs hbase hline, fun B Φ H σ ρ s Q z => ?_⟩
  refine ⟨⟨a, rfl⟩, h.imp B Φ H σ ρ s _ (PostM.bind z fun d ρ1 v Φ1 H1 e1 s1 sv z1 => ?_)⟩
  have z2 := PostM.ofR (join_nx a _) s1 z1
  unfold bJoin at z2
  split at z2
  · split at z2
    · split at z2
      · rename_i ds ys hy hz
        rw [strsD_some hy] at sv
        cases sv with
        | lst q r =>
          have hv := see_strs r
          subst hv
          exact ⟨a, _, ys, rfl, rfl, .inl (.inl (.inl (s1.ex _ _ q))), hz, z2.flat s1.ex rfl (.str _)⟩
      · exact z2.elim
    · exact z2.elim
  · exact z2.elim
end
end TP
set_option Elab.async false
set_option linter.all false
set_option maxRecDepth 100000
/-! Tree programs: exceptions that are made, as values. -/
namespace TP
open PySem L2 PyProof.Rows PySem.Spec
section
variable {X : Cx} {e : Expr}
/-- what makes an exception gives it as a value -/
theorem pe_made {t : L2.St → Hp → XK → Prop} (hx : X.ex = []) (hs : X.stack = X.env :: X.outer) (h : PMk X e t) : PE X e (fun σ H Q => t σ H fun cls d H1 => ∀ a, H1 a = none → Q (.ref a) (L2.upd H1 a (XcO cls d a))) := by
  refine ⟨fun pins s σ H Q I q => wpAny_mono (h pins s σ H _ I q) (fun u s1 hu => ?_) fun _ _ x => x⟩
  obtain ⟨a, oe, vs, sI, H1, cls, d, rfl, J, kp, na, he, hz, hd, _, nH, os, ag, _, q1⟩ := hu
  have J1 : Inv X pins σ H1 s1 := J.landed (B := sI.heap) (fun b o z _ => z) kp (Heap.UpToSlots.of_keeps kp) os ag
  have nfr : a ∉ frs X.stack := fun hm => by
    obtain ⟨_, o, z, _⟩ := J.stack.mem hm
    rw [na] at z; cases z
  have nf : a ∉ X.fs := fun hm => by
    obtain ⟨e₀, m, z⟩ := List.mem_filterMap.mp hm
    exact nfr (List.mem_filterMap.mpr ⟨e₀, by rw [hs]; exact List.mem_cons_of_mem _ m, z⟩)
  exact ⟨.ref a, L2.upd H1 a (XcO cls d a), inv_track J na nf hx J1 ⟨⟨oe, vs, he, hz, hd⟩, ⟨_, he⟩, fun h1 h2 ⟨oe, vs, q1, q2, q3⟩ k => ⟨oe, vs, k _ q1, q2, q3⟩⟩ nH, rfl, q1 a nH⟩
end
section
variable {K : PySem.W.Frag} {mg : Str → Option Value} {T : List (Addr × Str)} {E : XK} {X : Cx} {e : Expr} {te : TE} {f : S → R D} {p pos : Pos} {x : Str} {C : Addr}
/-- C(e), C without an own __init__ -/
theorem de_exc0 (F : ErrP X.K C) (hm : X.mg x = some (.ref C)) (hx : X.ex = []) (hst : X.stack = X.env :: X.outer) (ha : DB K mg E T X e te f) (hg : Gl X x := by rfl) (hs : starEach [e] X.env = (false, eval e X.env) :: starEach [] X.env := by rfl)
    (hdb : (x == ("__debug__" : Str)) = false := by decide) : DE K mg E T X (.Call (.Name x p) [e] [] pos) (fun σ H Q => te σ H fun _ H1 => ∀ a, H1 a = none → Q (.ref a) (L2.upd H1 a (XcO (.ref C) none a))) (fun ρ => (f ρ).bind fun _ => .ok (.exc x [])) := by
  refine ⟨ha.k, ha.m, pe_made hx hst (SkE.pmk_own1 PySem.F.excBase_ValueError F.ex hm F.kp (raises_own F.sb F.ty) hg ha.pe hs hdb), fun B Φ H σ ρ s Q z => ha.imp B Φ H σ ρ s _ (PostB.bindE z fun d v Φ1 H1 g1 _ z1 a na => ?_)⟩
  exact z1 _ _ _ (Gr.new g1.ex na) (.exc0 (by rw [← ha.m]; exact hm) upd_same)
theorem de_exc1 {fI : Addr} {par attr : Str} {k : Nat} (F : ErrK X.prog X.K C fI par attr) (hr : Room (k + 1) X.A) (hm : X.mg x = some (.ref C)) (hx : X.ex = []) (hst : X.stack = X.env :: X.outer) (ha : DE K mg E T X e te f) (hg : Gl X x := by rfl)
    (hdb : (x == ("__debug__" : Str)) = false := by decide) (he : starEach [e] X.env = (false, eval e X.env) :: starEach [] X.env := by rfl) (hpl : (backTo pos (starEach ([] : List Expr) X.env)).any (·.1) = false := by rfl) :
    DE K mg E T X (.Call (.Name x p) [e] [] pos) (fun σ H Q => tErr C attr te σ H fun cls d H1 => ∀ a, H1 a = none → Q (.ref a) (L2.upd H1 a (XcO cls d a))) (fun ρ => (f ρ).bind fun d => .ok (.exc x [(attr, d)])) := by
  refine ⟨ha.k, ha.m, pe_made hx hst (pmk_err F hr hg hm ha.pe hdb he hpl), fun B Φ H σ ρ s Q z => ?_⟩
  have z : PostE K mg E Φ H ((f ρ).bind fun d => .ok (.exc x [(attr, d)])) Q := z
  refine ha.imp B Φ H σ ρ s _ ?_
  cases q : f ρ with
  | ok d =>
    rw [q] at z
    intro v Φ1 H1 g1 sv
    refine ⟨v, rfl, fun dd nd a na => ?_⟩
    have z : PostE K mg E Φ H (.ok (.exc x [(attr, d)])) Q := z
    have g2 : Gr Φ1 H1 (L2.upd Φ1 dd (.xd [(attr, v)])) (L2.upd H1 dd (.xd [(attr, v)])) := Gr.new g1.ex nd
    have g3 := Gr.new (o := XcO (.ref C) (some dd) a) g2.ex na
    have ne : dd ≠ a := fun w => by rw [← w, upd_same] at na; cases na
    refine z _ _ _ (g1.trans (g2.trans g3)) (.exc1 (by rw [← ha.m]; exact hm) upd_same (by rw [upd_ne ne]; exact upd_same) (.cons ?_ .nil))
    exact See.mono (g2.trans g3).p sv
  | raise y => rw [q] at z; exact z
  | stuck => rw [q] at z; exact z
end
end TP
set_option Elab.async false
set_option linter.all false
set_option maxRecDepth 100000
set_option maxHeartbeats 4001234
/-! Tree programs: exceptions made by a keyword. -/
namespace TP
open PySem PySem.Spec
        PySem.Calls PyProof.Rows PySem.W HandSPX
section
variable {prog : Program} {w : World} {A : Around} {E : Value → Shared → Prop} {R : Result
        → Shared → Prop} {h : Heap} {g : Array GenState} {d : Drawn} {t : Nat} {os : OsState}
variable {nm q : Str} {C N : Addr} {bs bm bmB : List Value} {hdct : Bool} {sn : List Str} {sub : List Value} {ab : Bool} {col : Option Bool} {dd : Option Addr} {k0 k1 k2 k3 k5 : Option Value} {B newId initId : String} {kws : List (Str × Value)}
theorem kw_check_new {M : Model} (F : ExcBaseFacts B newId initId bmB) (hT : ∀ X : String, bm.contains (.type X) = bmB.contains (.type X)) {rest : List Value} {Q : Unit → Shared → Prop}
    (hCl : h.get? C = some (excClassObj nm q C N bs bm hdct sn sub ab col dd k0 k1 k2 k3 k5 newId)) (hq : Q () ⟨h, g, d, t, os⟩) : wpAny M A (checkBuiltinCall newId ⟨.ref C :: rest, kws⟩) Q E ⟨h, g, d, t, os⟩ := by
  have hcon : (Value.ref C :: bm).contains (.type B) = true := by rw [List.contains_cons, hT, F.hasB, Bool.or_true]
  have hstar := F.noStar
  simp only [checkBuiltinCall,
          F.newKind, F.newSplit, F.newRow]
  repeat (first | refine wpAny_loadPart_at hCl ?_ | (refine wpAny_isSubtype_exc hCl ?_; rw [hcon]) | refine wpAny_staticBase_exc hCl ?_ | refine wpAny_madeBy_exc hCl ?_ | simp only [bne_self_eq_false, Bool.false_eq_true, if_false] | wp_step)
  exact hq
theorem kw_new (F : ExcBaseFacts B newId initId bmB) (hT : ∀ X : String, bm.contains (.type X) = bmB.contains (.type X)) {rest : List Value}
    (hCl : h.get? C = some (excClassObj nm q C N bs bm hdct sn sub ab col dd k0 k1 k2 k3 k5 newId))
    (hq : R (.ok (.ret (.ref (h.objs.size + 1)))) ⟨(h.push {
            cls := .type "tuple", data := .seq rest.toArray }).push
      { cls := .ref C, data := .fields #[.ref h.objs.size, .none, .none, .none,
              .bool false, .none] }, g, d, t, os⟩) (hrest : rest.length ≤ sizeLine) :
    codeAny (model prog w) A (.builtin newId ⟨.ref C :: rest, kws⟩) R ⟨h, g, d, t, os⟩ := by
  have hends := F.ends
  have hcB₀ : (Value.ref C :: bm).contains (.type B) = true := by rw [List.contains_cons, hT, F.hasB, Bool.or_true]
  have hcA₀ : (Value.ref C :: bm).contains (.type "AttributeError") = false := by rw [List.contains_cons, hT, F.noAttr]; rfl
  have hcN₀ : (Value.ref C :: bm).contains (.type "NameError") = false := by rw [List.contains_cons, hT, F.noName]; rfl
  refine codeAny_builtinAt
          F.entry ?_
  unfold
          Builtin.«BaseException.__new__»
  refine PySem.wpAt_bind ?_
  show PySem.wpAt _ _ _ (stack >>= _) _ _ _
  refine PySem.wpAt_bind (PySem.wpAt_stack fun p below => PySem.wpAt_of_wpAny ?_)
  wp_walk
  refine PySem.wpAt_of_wpAny ?_
  rw [F.owner]
  repeat (first | with_reducible refine wpAny_madeHere_exc F.canon hCl ?_ | with_reducible refine wpAny_loadPart_at hCl ?_ | (with_reducible refine wpAny_isSubtype_exc hCl ?_; first | rw [hcB₀] | rw [hcA₀] | rw [hcN₀]) | wp_step)
  show R _ _
  rw [Heap.size_push]
  exact hq
theorem kw_type_call (F : ExcBaseFacts B newId initId bmB) (hT : ∀ X : String, bm.contains (.type X) = bmB.contains (.type X)) {rest : List Value} {fI : Addr} {Q : Fin → Shared → Prop}
    (hCl : h.get? C = some (excClassObj nm q C N bs bm hdct sn sub ab col dd k0 k1 k2 k3 k5 newId))
    (hi : W.Looks (model prog w) h (typeLookup (.ref C) "__init__") (some (.ref fI))) (hb : ∀ self, W.Looks
            (model prog w) h (bindSpecial (.ref fI) self) (.ref fI, [self])) (hrest : rest.length ≤ sizeLine)
    (hq : codeAny (model prog w) A (.call (.ref fI) ⟨.ref (h.objs.size + 1) :: rest, kws⟩)
      (fun r s' => match r with | .ok (.ret v) => v = .none ∧ Q (.done (.ret
              (.ref (h.objs.size + 1)))) s' | .ok _ => False | .error e => E e s')
      ⟨(h.push (W.kdv_tup rest)).push
              (excO C h.objs.size), g, d, t, os⟩) :
    wpAny (model prog w) A (Builtin.«type.__call__» ⟨.ref C :: rest, kws⟩) Q E ⟨h, g, d, t, os⟩ := by
  repeat (first | with_reducible refine wpAny_loadPart_at hCl ?_ | with_reducible refine wpAny_madeBy_exc hCl ?_ | wp_step)
  refine codeAny_call_builtin_code (Code.quiet_builtin _ F.quiet) (kw_check_new F hT hCl ?_)
  refine kw_new F hT hCl ?_ hrest
  show wpAny _ _ _ _ _ _
  have k₀ : ∀ b o, h.get? b = some o → ((h.push (W.kdv_tup rest)).push (excO C h.objs.size)).get? b = some o := fun b o e => Heap.get?_push_of_some _ (Heap.get?_push_of_some _ e)
  have hCl₁ := k₀ _ _ hCl
  have hgt1 : ((h.push (W.kdv_tup rest)).push (excO C h.objs.size)).get? (h.objs.size + 1) = some (excO C h.objs.size) := by heap_get
  have hcC₀ : (Value.ref C :: bm).contains (.ref C) = true := by simp
  have i1 := hi.keeps k₀
  have b1 := (hb (.ref (h.objs.size + 1))).keeps k₀
  unfold isInstance
  repeat (first | with_reducible refine wpAny_loadPart_at hgt1 ?_ | (with_reducible refine wpAny_isSubtype_exc hCl₁ ?_; rw [hcC₀]) | wp_step)
  show wpAny _ _ (typeLookup
          (.ref C) _) _ _ _
  refine i1.at ?_
  refine wpAny_holding
          (wpAny_bind (b1.at ?_))
  refine wpAny_bind (wpAny_call (codeAny_mono hq fun r s' z₀ => ?_))
  rcases r with e | (v | _ | _ | _) <;> first | exact z₀ | exact z₀.elim | skip
  obtain ⟨rfl, z₀⟩ := z₀
  first
    | exact wpAny_pure (wpAny_pure z₀)
    | (wp_walk; exact z₀)
theorem kw_check_type {M : Model} {rest : List Value} {Q : Unit → Shared → Prop} (hCl : h.get? C = some (excClassObj nm q C N bs bm hdct sn sub ab col dd k0 k1 k2 k3 k5 newId))
    (hq : Q () ⟨h, g, d, t, os⟩) : wpAny M A (checkBuiltinCall "type.__call__" ⟨.ref C :: rest, kws⟩) Q E ⟨h, g, d, t, os⟩ := by
  have f3 := tc_sub
  have hT : (⟨h, g, d, t, os⟩ : Shared).TypeIs (.ref C) "type" := ⟨_, hCl, rfl⟩
  simp only [checkBuiltinCall,
          tc_kind, tc_split]
  repeat (any_goals (first | assumption | with_reducible refine wpAny_loadPart_at hCl ?_ | with_reducible refine wpAny_onRaise ?_ | with_reducible refine wpAny_map ?_ | wp_step))
theorem kw_call_own (F : ExcBaseFacts B newId initId bmB) (hT : ∀ X : String, bm.contains (.type X) = bmB.contains (.type X)) {rest : List Value} {fI : Addr}
    (hCl : h.get? C = some (excClassObj nm q C N bs bm hdct sn sub ab col dd k0 k1 k2 k3 k5 newId))
    (hi : W.Looks (model prog w) h (typeLookup (.ref C) "__init__") (some (.ref fI))) (hb : ∀ self, W.Looks
            (model prog w) h (bindSpecial (.ref fI) self) (.ref fI, [self])) (hrest : rest.length ≤ sizeLine)
    (hq : codeAny (model prog w) (A.under (.builtin "type.__call__" ⟨.ref C :: rest, kws⟩)) (.call (.ref fI) ⟨.ref (h.objs.size + 1) :: rest, kws⟩) (W.InitBack (h.objs.size + 1) R)
      ⟨(h.push (W.kdv_tup rest)).push
              (excO C h.objs.size), g, d, t, os⟩) :
    codeAny (model prog w) A (.call (.ref C) ⟨rest, kws⟩) R ⟨h, g, d, t, os⟩ := by
  have f1 := tc_lookup
  have f2 := tc_bind (.ref C)
  have hTy : (⟨h, g, d, t, os⟩ : Shared).TypeIs (.ref C) "type" := ⟨_, hCl, rfl⟩
  refine codeAny_of_tree ?_
  show wpAny _ _ (callAny
          (.ref C) _) _ _ _
  repeat (any_goals (first | assumption | with_reducible refine wpAny_loadPart_at hCl ?_ | wp_step))
  refine ⟨rfl, ?_⟩
  refine codeAny_call_builtin_at (Code.quiet_builtin _ (by decide +kernel)) entry_typeCall (kw_check_type hCl (kw_type_call F hT hCl hi hb hrest ?_))
  refine codeAny_mono hq fun r₀ s' z => ?_
  rcases r₀ with e | (v | _ | _ | _) <;> exact z
end
open L2
theorem pmk_errK {X : Cx} {C fI : Addr} {par attr x : Str} {k : Nat} {e : Expr} {te : TE} {p pos kpos : Pos} (F : ErrK X.prog X.K C fI par attr) (hr : Room (k + 1) X.A) (hg : Gl X x) (hm : X.mg x = some (.ref C)) (ha : PE X e te)
    (hdb : (x == ("__debug__" : Str)) = false) (hall : (backToKw pos (keywordEach [⟨some par, e, kpos⟩] X.env)).all (·.1.isSome) = true) (hks : (backToKw pos (keywordEach [⟨some par, e, kpos⟩] X.env)).filterMap (·.1) = [par])
    (hpl : ((backTo pos (starEach [] X.env)).any (·.1) || (backToKw pos (keywordEach [⟨some par, e, kpos⟩] X.env)).any (·.1.isNone)) = false) :
    PMk X (.Call (.Name x p) [] [⟨some par, e, kpos⟩] pos) (tErr C attr te) := by
  intro pins s σ H Q I₀ h
  obtain ⟨nm, q, N, bs, bm, sn, sub, ab, col, dd, k0, k1, k2, k3, k5, hC, hbm⟩ := F.T.cls
  refine wpAny_Call_Name_kw (ld_glob I₀ hg hm ?_ hdb)
  refine PySem.W.callWith_KW0 (h₀ := X.base) I₀.ok.mod.kin F.T.kC hall ?_ hpl
  refine thn ((pk_cons ha pk_nil).run pos pins s σ H _ I₀ h) fun us s1 ⟨vs, H1, I1, r1, v, ev, q1⟩ => ⟨I1.kIn, ?_⟩
  subst ev
  obtain ⟨u₀, rfl, ru⟩ := vals1 r1
  rw [hks]
  show wpAny _ _ (call (.ref C) [] [(par, u₀)]) _ _ _
  obtain ⟨hp, g₀, dr, tk, os⟩ := s1
  have kk : ∀ b o, hp.get? b = some o → ((hp.push (PySem.W.kdv_tup [])).push (HandSPX.excO C hp.objs.size)).get? b = some o := fun b o z => Heap.get?_push_of_some _ (Heap.get?_push_of_some _ z)
  have hget : ((hp.push (PySem.W.kdv_tup [])).push (HandSPX.excO C hp.objs.size)).get? (hp.objs.size + 1) = some (HandSPX.excO C hp.objs.size) := by heap_get
  have hK : X.K.lookup (hp.objs.size + 1) = none := by
    cases z : X.K.lookup (hp.objs.size + 1) with
    | none => rfl
    | some o => exact absurd (Heap.lt_size (I1.kIn _ _ z)) (by show ¬ hp.objs.size + 1 < hp.objs.size; omega)
  have rm : (X.A.under (.builtin "type.__call__" ⟨.ref C :: [], [(par, u₀)]⟩)).depth < recursionLimit := (hr.make C [] [(par, u₀)]).depth
  refine wpAny_call (kw_call_own PySem.F.excBase_ValueError (fun Y => HandSPX.refsVE_contains Y bm hbm) (I1.kIn _ _ hC) (looks_findIn I1.kIn F.iC) (fun self => bind_fn I1.kIn self F.tI) (by show 0 ≤ sizeLine; omega)
    (err_initA (.inr rfl) F (I1.kIn.keeps kk) ((glb_of I1).keeps kk) rm hK hget fun h' t' t1 dx k dn dne hx hn => ?_))
  obtain ⟨G, g1, g2⟩ := restrict h' fun b => decide (b ≠ hp.objs.size + 1)
  have gk : ∀ b, b ≠ hp.objs.size + 1 → G.get? b = h'.get? b := fun b hb => g1 b (decide_eq_true hb)
  have ge : G.get? (hp.objs.size + 1) = none := g2 _ (by simp)
  have nha : ∀ {b : Addr} {o : Obj}, hp.get? b = some o → b ≠ hp.objs.size + 1 := fun {b o} z => Nat.ne_of_lt (Nat.lt_succ_of_lt (Heap.lt_size z))
  have kG : ∀ b o, hp.get? b = some o → G.get? b = some o := fun b o z => (gk b (nha z)).trans (k b o (nha z) (kk b o z))
  have ld : hp.objs.size ≤ dx := Nat.le_trans (by rw [Heap.size_push, Heap.size_push]; omega) dn
  have hd1 : H1 dx = none := I1.hok.fresh ld
  have J : Inv X pins σ (L2.upd H1 dx (.xd [(attr, v)])) ⟨G, g₀, dr, t', os⟩ := I1.laid (t' := t') (h' := G) kG ld (by
    refine ⟨_, hn.at fun o z => (gk _ dne).trans z, fun y => ?_⟩
    by_cases hy : y = attr
    · subst hy
      rw [if_pos rfl]
      have z : ([(y, v)] : List (Str × V)).lookup y = some v := by simp [List.lookup]
      rw [z]; exact ru
    · have z : (y == attr) = false := by simpa using hy
      rw [if_neg hy]
      simp [List.lookup, z, RelO])
  refine ⟨rfl, hp.objs.size + 1, _, _, ⟨G, g₀, dr, t', os⟩, _, .ref C, some dx, rfl, J, fun b o z => ?_, ge, hx, ⟨rfl, rfl⟩, rfl, rfl, ?_, rfl, I1.bare, raises_own F.T.exC F.T.tyC, q1 dx hd1⟩
  · by_cases hb : b = hp.objs.size + 1
    · rw [hb, ge] at z; cases z
    · exact (gk b hb).symm.trans z
  · rw [upd_ne (Ne.symm dne)]; exact I1.hok.fresh (Nat.le_succ _)

section
variable {K : PySem.W.Frag} {mg : Str → Option Value} {T : List (Addr × Str)} {E : XK} {X : Cx} {e : Expr} {te : TE} {f : S → R D} {p pos kpos : Pos} {x : Str} {C : Addr}
theorem imp_exc1 {B : Bs} {Φ H : Hp} {σ : L2.St} {ρ : S} {Q : VK} {attr : Str} (hm : mg x = some (.ref C)) (hi : ImpE K mg E T te f) (s : SOk K mg T B Φ H σ ρ) (z : PostE K mg E Φ H ((f ρ).bind fun d => .ok (.exc x [(attr, d)])) Q) :
    tErr C attr te σ H fun cls d H1 => ∀ a, H1 a = none → Q (.ref a) (L2.upd H1 a (XcO cls d a)) := by
  refine hi B Φ H σ ρ s _ ?_
  cases q : f ρ with
  | ok d =>
    rw [q] at z
    intro v Φ1 H1 g1 sv
    refine ⟨v, rfl, fun dd nd a na => ?_⟩
    have z : PostE K mg E Φ H (.ok (.exc x [(attr, d)])) Q := z
    have g2 : Gr Φ1 H1 (L2.upd Φ1 dd (.xd [(attr, v)])) (L2.upd H1 dd (.xd [(attr, v)])) := Gr.new g1.ex nd
    have g3 := Gr.new (o := XcO (.ref C) (some dd) a) g2.ex na
    have ne : dd ≠ a := fun w => by rw [← w, upd_same] at na; cases na
    refine z _ _ _ (g1.trans (g2.trans g3)) (.exc1 hm upd_same (by rw [upd_ne ne]; exact upd_same) (.cons ?_ .nil))
    exact See.mono (g2.trans g3).p sv
  | raise y => rw [q] at z; exact z
  | stuck => rw [q] at z; exact z
/-- C(par = e) -/
theorem de_exc1K {fI : Addr} {par attr : Str} {k : Nat} (F : ErrK X.prog X.K C fI par attr) (hr : Room (k + 1) X.A) (hm : X.mg x = some (.ref C)) (hx : X.ex = []) (hst : X.stack = X.env :: X.outer) (ha : DE K mg E T X e te f) (hg : Gl X x)
    (hdb : (x == ("__debug__" : Str)) = false) (hall : (backToKw pos (keywordEach [⟨some par, e, kpos⟩] X.env)).all (·.1.isSome) = true) (hks : (backToKw pos (keywordEach [⟨some par, e, kpos⟩] X.env)).filterMap (·.1) = [par])
    (hpl : ((backTo pos (starEach [] X.env)).any (·.1) || (backToKw pos (keywordEach [⟨some par, e, kpos⟩] X.env)).any (·.1.isNone)) = false) :
    DE K mg E T X (.Call (.Name x p) [] [⟨some par, e, kpos⟩] pos) (fun σ H Q => tErr C attr te σ H fun cls d H1 => ∀ a, H1 a = none → Q (.ref a) (L2.upd H1 a (XcO cls d a))) (fun ρ => (f ρ).bind fun d => .ok (.exc x [(attr, d)])) := by
  refine ⟨ha.k, ha.m, pe_made hx hst (pmk_errK F hr hg hm ha.pe hdb hall hks hpl), fun B Φ H σ ρ s Q z => ?_⟩
  exact imp_exc1 (by rw [← ha.m]; exact hm) ha.imp s z
end
/-! ### xs * k, a new list -/
section
variable {K : PySem.W.Frag} {mg : Str → Option Value} {Φ : Hp}
theorem SeeAll.rep {vs : List V} {ds : List D} (s : SeeAll K mg Φ vs ds) : ∀ n : Nat, SeeAll K mg Φ (List.replicate n vs).flatten (List.replicate n ds).flatten
  | 0 => .nil
  | n + 1 => by
    rw [List.replicate_succ, List.replicate_succ,
            List.flatten_cons, List.flatten_cons]
    exact s.append (SeeAll.rep s n)
def opMulLs : D → D → R D
  | .lst ds, .int k => if k.natAbs < 2 ^ 62 ∧ ds.length * k.toNat ≤ sizeLine then .ok (.lst (List.replicate k.toNat ds).flatten) else .stuck
  | _, _ => .stuck
theorem mulLs_noX : ∀ x y, NoX (opMulLs x y) := fun x y z => by
  unfold opMulLs
  repeat' split
  all_goals exact fun w => by cases w
theorem sem_mulLs : Op2 K mg rRep opMulLs := by
  intro Φ H x y dx dy Q ex sx sy h
  unfold opMulLs at h
  split at h
  · split at h
    · rename_i ds k c
      obtain ⟨l, vs, rfl, hl, r⟩ := sx.lst ex
      rw [sy.int]
      exact ⟨l, k, vs, rfl, rfl, hl, by omega, by omega, by rw [SeeAll.length r]; exact c.2, h.newL ex (r.rep _)⟩
    · exact h.elim
  · exact h.elim
end
/-! ### a dict display, keys of any names -/
def toKey : D → R Key
  | .int i => .ok (.inl i)
  | .str s => .ok (.inr s)
  | _ => .stuck
def kConsV (fk : S → R D) (f : S → R D) (g : S → R (List (Key × D))) : S → R (List (Key × D)) := fun ρ => (fk ρ).bind fun k => (toKey k).bind fun k => (f ρ).bind fun x => (g ρ).map fun xs => (k, x) :: xs
section
variable {K : PySem.W.Frag} {mg : Str → Option Value} {T : List (Addr × Str)} {E : XK} {X : Cx} {e ek : Expr} {te tk : TE} {f fk : S → R D} {pos p : Pos} {keys : List (Option Expr)} {values : List Expr} {trs : List (TE × TE)} {g : S → R (List (Key × D))}
theorem dk_consV (hk : DE K mg E T X ek tk fk) (ha : DE K mg E T X e te f) (hr : DKs K mg E T X pos keys values trs g) : DKs K mg E T X pos (some ek :: keys) (e :: values) ((tk, te) :: trs) (kConsV fk f g) := by
  refine ⟨ha.k, ha.m, pps_cons hk.pe ha.pe hr.pp, fun B Φ H σ ρ s Q z => ?_⟩
  refine hk.imp B Φ H σ ρ s _ ?_
  have z : PostKD K mg E Φ H ((fk ρ).bind fun k => (toKey k).bind fun k => (f ρ).bind fun x => (g ρ).map fun xs => (k, x) :: xs) Q := z
  cases q0 : fk ρ with
  | raise x => rw [q0] at z; exact z
  | stuck => rw [q0] at z; exact z
  | ok dk =>
    rw [q0] at z
    have z : PostKD K mg E Φ H ((toKey dk).bind fun k => (f ρ).bind fun x => (g ρ).map fun xs => (k, x) :: xs) Q := z
    intro vk Φ0 H0 g0 sk
    obtain ⟨k, hk1, hk2⟩ : ∃ k, toKey dk = .ok k ∧ vk = kV k := by
      cases dk with
      | int i => cases sk; exact ⟨_, rfl, rfl⟩
      | str i => cases sk; exact ⟨_, rfl, rfl⟩
      | _ => exact z.elim
    rw [hk1] at z
    subst hk2
    refine ha.imp B Φ0 H0 σ ρ (s.grow g0) _ ?_
    have z : PostKD K mg E Φ H ((f ρ).bind fun x => (g ρ).map fun xs => (k, x) :: xs) Q := z
    cases q : f ρ with
    | raise x => rw [q] at z; exact PostX.grow g0 z
    | stuck => rw [q] at z; exact z
    | ok d =>
      rw [q] at z
      intro v Φ1 H1 g1 sv
      refine hr.imp B Φ1 H1 σ ρ (s.grow (g0.trans g1)) _ ?_
      have z : PostKD K mg E Φ H ((g ρ).map fun xs => (k, d) :: xs) Q := z
      cases q2 : g ρ with
      | raise x => rw [q2] at z; exact PostX.grow (g0.trans g1) z
      | stuck => rw [q2] at z; exact z
      | ok gs =>
        rw [q2] at z
        exact fun kvs Φ2 H2 g2 s2 hk => z ((k, v) :: kvs) Φ2 H2 ((g0.trans g1).trans g2) (.cons (See.mono g2.p sv) s2) (by simp [hk])
end
/-! ### enumerate(a list) -/
def enumR : D → R (List D)
  | .lst ds => .ok (enumD ds)
  | _ => .stuck
section
variable {K : PySem.W.Frag} {mg : Str → Option Value} {T : List (Addr × Str)} {E : XK} {X : Cx} {a e : Expr} {fm : S → M D} {te : TE} {p pos tpos : Pos} {elts : List Expr} {kk : Nat}
theorem di_enum (hm : mg "enumerate" = none) (h : DM K mg E T X a te fm) (hg : Gl X "enumerate" := by rfl) (hs : starEach [a] X.env = [(false, eval a X.env)] := by rfl) :
    DI K mg E T X (.Tuple elts kk tpos) (.Call (.Name "enumerate" p) [a] [] pos) (iEnum K (tCons te tNil)) (fun ρ => (fm ρ).lift enumR) := by
  obtain ⟨hk, hm', hp, hi⟩ := h
  subst hk
  refine ⟨rfl, hm', pi_enum hg (by rw [hm']; exact hm) (pa_cons hp pa_nil hs) hs, fun B Φ H σ ρ s R' z => hi B Φ H σ ρ s _ ?_⟩
  have z : PostMI X.K mg E T B Φ σ ((fm ρ).bind fun a ρ => (enumR a).toM ρ) R' := z
  cases q : fm ρ with
  | raise x ρ1 => rw [q] at z; exact z
  | stuck => rw [q] at z; exact z
  | ok d ρ1 =>
    rw [q] at z
    intro v Φ' H' e' s' sv
    have z : PostMI X.K mg E T B Φ σ ((enumR d).toM ρ1) R' := z
    cases d with
    | lst ds =>
      cases sv with
      | lst a r => exact ⟨_, _, rfl, .inl (.inl (s'.ex _ _ a)), z _ Φ' H' e' s' (walkD_enum (.inl (.inl a)) r)⟩
    | _ => exact z.elim
end
end TP
set_option Elab.async false
set_option linter.all false
set_option maxRecDepth 100000
/-! Tree programs: try: raise C(e); except R as n: x = n. -/
namespace TP
open PySem L2 PyProof.Rows PySem.Spec
section
variable {K : PySem.W.Frag} {mg : Str → Option Value} {T : List (Addr × Str)} {B : Bs} {Φ H : Hp} {σ : L2.St} {ρ : S}
/-- a slot that is given up -/
theorem SOk.wipe (s : SOk K mg T B Φ H σ ρ) (i : Nat) (w : Option V) : SOk K mg T B Φ H (σ.set i w) (ρ.set i none) := by
  obtain ⟨b, len, nd, x⟩ := s.drop i
  refine ⟨b, by simpa using len, nd, ⟨fun j s e => ?_, x.own, x.inj, x.emp, x.own2, x.dr0⟩⟩
  have z : j ≠ i := fun z => by
    subst z
    by_cases lt : j < ρ.length
    · rw [List.getElem?_set_self lt] at e; cases e
    · rw [List.getElem?_eq_none (by simpa using lt)] at e; cases e
  rw [List.getElem?_set_ne (Ne.symm z)]
  exact x.at_ j s e
/-- what raises: the way it reads -/
def ImpR (K : PySem.W.Frag) (mg : Str → Option Value) (T : List (Addr × Str)) (t : L2.St → Hp → XK → Prop) (f : S → M Fl) : Prop := ∀ (E : XK) B Φ H σ ρ, SOk K mg T B Φ H σ ρ → (∃ x ρ1, f ρ = .raise x ρ1 ∧ PostXM K mg E T B Φ σ x ρ1) → t σ H E
def sTryR (errs : List Str) (i j : Nat) (f : S → M Fl) : S → M Fl := fun ρ => match f ρ with
  | .raise x ρ1 => if errs.contains x.c = true ∧ i < ρ1.length ∧ j < ρ1.length ∧ i ≠ j then .ok .nx ((ρ1.set i (some (.fz (.exc x.c x.fs)))).set j none) else .stuck
  | _ => .stuck
variable {X : Cx} {E : XK} {e ec : Expr} {te : TE} {fm : S → M D} {C : Addr} {p pos p2 : Pos} {x : Str}
theorem impR_err {attr : Str} (hm : mg x = some (.ref C)) (ha : ∀ E, ImpM K mg E T te fm) : ImpR K mg T (tErr C attr te) (sRaise x attr fm) := by
  intro E B Φ H σ ρ s ⟨y, ρ1, hy, px⟩
  refine ha E B Φ H σ ρ s _ ?_
  unfold sRaise at hy
  cases q : fm ρ with
  | stuck => rw [q] at hy; cases hy
  | raise x' ρ' => rw [q] at hy; cases hy; exact px
  | ok d ρ' =>
    rw [q] at hy
    cases hy
    intro v Φ1 H1 e1 s1 sv
    refine ⟨v, rfl, fun dx nd => ?_⟩
    have g := Gr.new (o := .xd [(attr, v)]) s1.ex nd
    exact px _ _ (.ref C) (some dx) (e1.trans g.p) (s1.grow g) ⟨C, hm, rfl, .inr ⟨dx, [(attr, v)], rfl, upd_same, .cons (See.mono g.p sv) .nil⟩⟩
theorem impM_var (i : Nat) : ∀ E, ImpM K mg E T (tVar i) (mE (dVar i)) := by
  intro E B Φ H σ ρ s Q h
  have h : PostE K mg E Φ H (dVar i ρ) Q := PostE.toM s h
  unfold dVar at h
  split at h
  · rename_i d e
    obtain ⟨nd, n⟩ := s.nds
    obtain ⟨v, e1, e2⟩ := n.at_ i _ e
    generalize nd i = A at e2
    cases e2 with
    | fz r => exact ⟨v, e1, h v Φ H (Gr.refl s.ex) r⟩
  · exact h.elim
/-- raise C(e), C without an own __init__ -/
def sRaiseV (c : Str) (f : S → M D) : S → M Fl := fun ρ => (f ρ).bind fun _ ρ1 => .raise ⟨c, []⟩ ρ1
theorem impR_plain (hm : mg x = some (.ref C)) (ha : ∀ E, ImpM K mg E T te fm) : ImpR K mg T (fun σ H Q => te σ H fun _ H1 => Q (.ref C) none H1) (sRaiseV x fm) := by
  intro E B Φ H σ ρ s ⟨y, ρ1, hy, px⟩
  refine ha E B Φ H σ ρ s _ ?_
  unfold sRaiseV at hy
  cases q : fm ρ with
  | stuck => rw [q] at hy; cases hy
  | raise x' ρ' => rw [q] at hy; cases hy; exact px
  | ok d ρ' =>
    rw [q] at hy
    cases hy
    exact fun v Φ1 H1 e1 s1 sv => px _ _ _ _ e1 s1 ⟨C, hm, rfl, .inl ⟨rfl, rfl⟩⟩
/-- the statement -/
theorem ds_tryR {errs : List Str} {f : S → M Fl} {t : L2.St → Hp → XK → Prop} {r n y : Str} {CS : Addr} {i j : Nat} {rp np pos' yp ep sp : Pos} (hk : X.K = K) (hmg : X.mg = mg) (hE : ∀ c ∈ errs, ∀ C, mg c = some (.ref C) → PySem.W.exmOne K (.ref C) (.ref CS) = some true)
    (hmk : ∀ pn xe, PMk (X.tr pn xe) ec t) (hi : ImpR K mg T t f) (hst : X.stack = X.env :: X.outer) (hf : X.env.frame = some X.env.locals) (hex : X.ex = []) (hN : X.N.Nodup) (hc : ∀ pn xe, (X.tr pn xe).calm = true)
    (hj : X.N[j]? = some n) (hln : X.env.kindOf n = some .local) (hiy : X.N[i]? = some y) (hy : X.env.scope.names.lookup y = some .local) (hn : X.env.scope.names.lookup n = some .local)
    (hr : Gl X r) (hmr : mg r = some (.ref CS)) (hrd : (r == ("__debug__" : Str)) = false) (hd : (n == ("__debug__" : Str)) = false) (hcd : (n == ("__classdict__" : Str)) = false)
    (hs : ∀ (a : Addr) (pn : List (Addr × Obj)), swapsWith (.Name n ep) (some (.Name y yp)) sp.line (X.suite a pn).env = pure false) :
    DS K mg E T X (.Try [.Raise (some ec) none rp] [.ExceptHandler (some (.Name r np)) (some n) [.Assign [.Name y yp] (.Name n ep) sp] pos'] [] [] pos)
      (fun D σ H => t σ H fun c d H' => wTrk X.K X.N.length (.ref CS) j (tAsg (tVar j) (gName i)) D c d σ H') (sTryR errs i j f) := by
  subst hk hmg
  refine ⟨rfl, rfl, ps_try_trk (i := j) (c := .ref CS) (tb := fun W D σ H => t σ H fun c d H' => W c d σ H') (ts := tAsg (tVar j) (gName i)) hst hf hex hN hj hln ⟨hr, hrd, .inl hmr⟩ (fun W pn xe tk => pss_one (ps_raise (hc pn xe) tk (hmk pn xe)))
    (fun a pn => pss_one (ps_set (i := i) hN hiy (.inl hy) (pe_var (i := j) hj (.inl hn) hd hcd) (hs a pn) (.inr hy))), fun B Φ H σ ρ hM s D z => ?_⟩
  refine hi _ B Φ H σ ρ s ?_
  unfold sTryR at z
  split at z
  · rename_i x' ρ1 hx
    split at z
    · rename_i c
      obtain ⟨c1, c2, c3, c4⟩ := c
      refine ⟨x', ρ1, hx, fun Φ' H' cc dd e1 s1 xo => ?_⟩
      obtain ⟨C, hC, rfl, hx⟩ := xo
      refine ⟨hE _ (List.contains_iff_mem.mp c1) C hC, fun hl a na => ?_⟩
      have gg := Gr.new (o := XcO (.ref C) dd a) s1.ex na
      have s2 := s1.grow gg
      have sv : See X.K X.mg (upd Φ' a (XcO (.ref C) dd a)) (.ref a) (.exc x'.c x'.fs) := by
        rcases hx with ⟨e1, e2⟩ | ⟨d, fs, e1, e2, e3⟩
        · rw [e1]
          exact .exc0 hC (by rw [← e2]; exact upd_same)
        · exact .exc1 hC (by rw [← e1]; exact upd_same) (gg.p _ _ e2) (SeeF.mono gg.p e3)
      have lj : j < σ.length := by rw [← s1.len]; exact c3
      refine ⟨.ref a, List.getElem?_set_self lj, ?_⟩
      have s3 := (s2.set i sv).wipe j none
      have e4 : ((σ.set j (some (V.ref a))).set i (some (V.ref a))).set j none = (σ.set i (some (V.ref a))).set j none := by
        rw [List.set_comm _ _ c4.symm, List.set_set]
      show D.nx (((σ.set j (some (V.ref a))).set i (some (V.ref a))).set j none) _
      rw [e4]
      exact z _ _ _ (e1.trans gg.p) s3
    · exact z.elim
  · exact z.elim
end
end TP
set_option Elab.async false
set_option linter.all false
set_option maxRecDepth 100000
/-! Tree programs: dicts of one's own, parallel stores, remove. -/
namespace TP
open PySem L2 PyProof.Rows PySem.Spec
/-! ### what a dict holds -/
section
variable {κ : Type}
        [DecidableEq κ]
def getKD (kvs : List (κ × D)) (k : κ) : Option D := (kvs.find? fun kv => decide (kv.1 = k)).map (·.2)
def putKD (kvs : List (κ × D)) (k : κ) (v : D) : List (κ × D) :=
  if kvs.any (fun kv => decide (kv.1 = k)) = true then kvs.map (fun kv => if kv.1 = k then (kv.1, v) else kv) else kvs ++ [(k, v)]
end
section
variable {K : PySem.W.Frag} {mg : Str → Option Value} {Φ : Hp}
theorem SeeK.any {k : Key} : ∀ {vs : List (Key × V)} {ds : List (Key × D)}, SeeK K mg Φ vs ds → (vs.any fun kv => decide (kv.1 = k)) = ds.any fun kv => decide (kv.1 = k)
  | _, _, .nil => rfl
  | _, _, .cons _ t => by simp only [List.any_cons]; rw [SeeK.any t]
theorem SeeK.get {k : Key} : ∀ {vs : List (Key × V)} {ds : List (Key × D)}, SeeK K mg Φ vs ds → (∃ v d, valV vs k = some v ∧ getKD ds k = some d ∧ See K mg Φ v d) ∨ (valV vs k = none ∧ getKD ds k = none)
  | _, _, .nil => .inr ⟨rfl, rfl⟩
  | _, _, .cons (k := k') (v := v) (d := d) (vs := vs) (ds := ds) h t => by
    by_cases e : k' = k
    · exact .inl ⟨v, d, by unfold valV; rw [List.find?_cons_of_pos (by simpa using e)]; rfl, by unfold getKD; rw [List.find?_cons_of_pos (by simpa using e)]; rfl, h⟩
    · rcases SeeK.get (k := k) t with ⟨v', d', e1, e2, e3⟩ | ⟨e1, e2⟩
      · exact .inl ⟨v', d', by unfold valV at e1 ⊢; rw [List.find?_cons_of_neg (by simpa using e)]; exact e1, by unfold getKD at e2 ⊢; rw [List.find?_cons_of_neg (by simpa using e)]; exact e2, e3⟩
      · exact .inr ⟨by unfold valV at e1 ⊢; rw [List.find?_cons_of_neg (by simpa using e)]; exact e1, by unfold getKD at e2 ⊢; rw [List.find?_cons_of_neg (by simpa using e)]; exact e2⟩
theorem SeeK.repl {k : Key} {v : V} {d : D} (s : See K mg Φ v d) : ∀ {vs : List (Key × V)} {ds : List (Key × D)}, SeeK K mg Φ vs ds → SeeK K mg Φ (vs.map fun kv => if kv.1 = k then (kv.1, v) else kv) (ds.map fun kv => if kv.1 = k then (kv.1, d) else kv)
  | _, _, .nil => .nil
  | _, _, .cons (k := k') h t => by
    simp only [List.map_cons]
    by_cases e : k' = k
    · rw [if_pos e, if_pos e]; exact .cons s (SeeK.repl s t)
    · rw [if_neg e, if_neg e]; exact .cons h (SeeK.repl s t)
theorem SeeK.snoc {k : Key} {v : V} {d : D} (s : See K mg Φ v d) : ∀ {vs : List (Key × V)} {ds : List (Key × D)}, SeeK K mg Φ vs ds → SeeK K mg Φ (vs ++ [(k, v)]) (ds ++ [(k, d)])
  | _, _, .nil => .cons s .nil
  | _, _, .cons h t => .cons h (SeeK.snoc s t)
theorem SeeK.put {k : Key} {v : V} {d : D} {vs : List (Key × V)} {ds : List (Key × D)} (s : See K mg Φ v d) (h : SeeK K mg Φ vs ds) : SeeK K mg Φ (putK vs k v) (putKD ds k d) := by
  unfold putK putKD
  rw [h.any]
  split
  · exact h.repl s
  · exact h.snoc s
theorem SeeT.any {k : List Key} : ∀ {vs : List (List Key × V)} {ds : List (List Key × D)}, SeeT K mg Φ vs ds → (vs.any fun kv => decide (kv.1 = k)) = ds.any fun kv => decide (kv.1 = k)
  | _, _, .nil => rfl
  | _, _, .cons _ t => by simp only [List.any_cons]; rw [SeeT.any t]
theorem SeeT.get {k : List Key} : ∀ {vs : List (List Key × V)} {ds : List (List Key × D)}, SeeT K mg Φ vs ds → (∃ v d, valV vs k = some v ∧ getKD ds k = some d ∧ See K mg Φ v d) ∨ (valV vs k = none ∧ getKD ds k = none)
  | _, _, .nil => .inr ⟨rfl, rfl⟩
  | _, _, .cons (k := k') (v := v) (d := d) (vs := vs) (ds := ds) h t => by
    by_cases e : k' = k
    · exact .inl ⟨v, d, by unfold valV; rw [List.find?_cons_of_pos (by simpa using e)]; rfl, by unfold getKD; rw [List.find?_cons_of_pos (by simpa using e)]; rfl, h⟩
    · rcases SeeT.get (k := k) t with ⟨v', d', e1, e2, e3⟩ | ⟨e1, e2⟩
      · exact .inl ⟨v', d', by unfold valV at e1 ⊢; rw [List.find?_cons_of_neg (by simpa using e)]; exact e1, by unfold getKD at e2 ⊢; rw [List.find?_cons_of_neg (by simpa using e)]; exact e2, e3⟩
      · exact .inr ⟨by unfold valV at e1 ⊢; rw [List.find?_cons_of_neg (by simpa using e)]; exact e1, by unfold getKD at e2 ⊢; rw [List.find?_cons_of_neg (by simpa using e)]; exact e2⟩
theorem SeeT.repl {k : List Key} {v : V} {d : D} (s : See K mg Φ v d) : ∀ {vs : List (List Key × V)} {ds : List (List Key × D)}, SeeT K mg Φ vs ds → SeeT K mg Φ (vs.map fun kv => if kv.1 = k then (kv.1, v) else kv) (ds.map fun kv => if kv.1 = k then (kv.1, d) else kv)
  | _, _, .nil => .nil
  | _, _, .cons (k := k') h t => by
    simp only [List.map_cons]
    by_cases e : k' = k
    · rw [if_pos e, if_pos e]; exact .cons s (SeeT.repl s t)
    · rw [if_neg e, if_neg e]; exact .cons h (SeeT.repl s t)
theorem SeeT.snoc {k : List Key} {v : V} {d : D} (s : See K mg Φ v d) : ∀ {vs : List (List Key × V)} {ds : List (List Key × D)}, SeeT K mg Φ vs ds → SeeT K mg Φ (vs ++ [(k, v)]) (ds ++ [(k, d)])
  | _, _, .nil => .cons s .nil
  | _, _, .cons h t => .cons h (SeeT.snoc s t)
theorem SeeT.put {k : List Key} {v : V} {d : D} {vs : List (List Key × V)} {ds : List (List Key × D)} (s : See K mg Φ v d) (h : SeeT K mg Φ vs ds) : SeeT K mg Φ (putK vs k v) (putKD ds k d) := by
  unfold putK putKD
  rw [h.any]
  split
  · exact h.repl s
  · exact h.snoc s
theorem SeeT.length : ∀ {vs : List (List Key × V)} {ds : List (List Key × D)}, SeeT K mg Φ vs ds → vs.length = ds.length
  | _, _, .nil => rfl
  | _, _, .cons _ t => by simp [SeeT.length t]
/-- a key that is a tuple -/
def toKeys : List D → R (List Key)
  | [] => .ok []
  | d :: ds => (toKey d).bind fun k => (toKeys ds).map fun ks => k :: ks
def toKeyT : D → R (List Key)
  | .pr ds => toKeys ds
  | _ => .stuck
theorem toKey_ok {d : D} {k : Key} {v : V} (h : toKey d = .ok k) (s : See K mg Φ v d) : v = kV k := by
  cases d with
  | int i => cases h; cases s; rfl
  | str i => cases h; cases s; rfl
  | _ => cases h
theorem toKeys_ok : ∀ {ds : List D} {ks : List Key} {vs : List V}, toKeys ds = .ok ks → SeeAll K mg Φ vs ds → vs = ks.map kV
  | [], _, _, h, .nil => by cases h; rfl
  | d :: ds, ks, _, h, .cons (v := v) s t => by
    have h : (toKey d).bind (fun k => (toKeys ds).map fun ks => k :: ks) = .ok ks := h
    cases q : toKey d with
    | ok k =>
      rw [q] at h
      have h : (toKeys ds).map (fun ks => k :: ks) = .ok ks := h
      cases q2 : toKeys ds with
      | ok k2 =>
        rw [q2] at h
        cases h
        rw [toKey_ok q s, toKeys_ok q2 t]; rfl
      | raise x => rw [q2] at h; cases h
      | stuck => rw [q2] at h; cases h
    | raise x => rw [q] at h; cases h
    | stuck => rw [q] at h; cases h
theorem toKeyT_ok {d : D} {ks : List Key} {v : V} (h : toKeyT d = .ok ks) (s : See K mg Φ v d) : ∃ b, v = .ref b ∧ Φ b = some (.tup (ks.map kV)) := by
  cases d with
  | pr ds =>
    cases s with
    | pr e r => rw [toKeys_ok h r] at e; exact ⟨_, rfl, e⟩
  | _ => cases h
theorem toKey_nx : ∀ d, NoX (toKey d) := fun d z => by
  unfold toKey
  split <;> exact fun w => by cases w
theorem toKeys_nx : ∀ ds, NoX (toKeys ds)
  | [], z => fun w => by cases w
  | d :: ds, z => fun w => by
    have w : (toKey d).bind (fun k => (toKeys ds).map fun ks => k :: ks) = .raise z := w
    cases q : toKey d with
    | ok k =>
      rw [q] at w
      have w : (toKeys ds).map (fun ks => k :: ks) = .raise z := w
      cases q2 : toKeys ds with
      | ok k2 => rw [q2] at w; cases w
      | raise x => exact toKeys_nx ds x q2
      | stuck => rw [q2] at w; cases w
    | raise x => exact toKey_nx d x q
    | stuck => rw [q] at w; cases w
theorem toKeyT_nx : ∀ d, NoX (toKeyT d) := fun d z => by
  unfold toKeyT
  split
  · exact toKeys_nx _ z
  · exact fun w => by cases w
theorem SeeB.dit {H : Hp} {v : V} {ds : List (List Key × D)} (x : Ex Φ H) (h : SeeB K mg Φ H v (.dit ds)) : ∃ p vs, v = .ref p ∧ H p = some (.dT vs) ∧ SeeT K mg Φ vs ds := by
  cases h with
  | fz h => cases h with | dit a r => exact ⟨_, _, rfl, x _ _ a, r⟩
  | mt a r => exact ⟨_, _, rfl, a, r⟩
/-! ### d[k], k in d -/
def opIxD : D → D → R D
  | .dic kvs, k => (toKey k).bind fun k => R.ofOpt (getKD kvs k)
  | .dit kvs, k => (toKeyT k).bind fun k => R.ofOpt (getKD kvs k)
  | _, _ => .stuck
def opInD (neg : Bool) (k dd : D) : R D := match dd with
  | .dic kvs => (toKey k).bind fun k => .ok (.bl (neg ^^ (getKD kvs k).isSome))
  | .dit kvs => (toKeyT k).bind fun k => .ok (.bl (neg ^^ (getKD kvs k).isSome))
  | _ => .stuck
/-- what a dict reads at a key -/
theorem dget_of {H : Hp} {x y : V} {dx dy : D} (ex : Ex Φ H) (sx : SeeB K mg Φ H x dx) (sy : See K mg Φ y dy) : (∃ kvs k, dx = .dic kvs ∧ toKey dy = .ok k ∧ ∃ a o, x = .ref a ∧ DGet H a y o ∧ ((o = none ∧ getKD kvs k = none) ∨ ∃ v d, o = some v ∧ getKD kvs k = some d ∧ See K mg Φ v d)) ∨
    (∃ kvs k, dx = .dit kvs ∧ toKeyT dy = .ok k ∧ ∃ a o, x = .ref a ∧ DGet H a y o ∧ ((o = none ∧ getKD kvs k = none) ∨ ∃ v d, o = some v ∧ getKD kvs k = some d ∧ See K mg Φ v d)) ∨
    (opIxD dx dy = .stuck ∧ ∀ n, opInD n dy dx = .stuck) := by
  cases dx with
  | dic kvs =>
    cases q : toKey dy with
    | ok k =>
      obtain ⟨p, vs, rfl, hp, r⟩ := sx.dic ex
      have ey := toKey_ok q sy
      subst ey
      refine .inl ⟨kvs, k, rfl, rfl, p, _, rfl, .k hp, ?_⟩
      rcases r.get (k := k) with ⟨v, d, e1, e2, e3⟩ | ⟨e1, e2⟩
      · exact .inr ⟨v, d, e1, e2, e3⟩
      · exact .inl ⟨e1, e2⟩
    | raise z => exact absurd q (toKey_nx _ z)
    | stuck => exact .inr (.inr ⟨by show (toKey dy).bind _ = _; rw [q]; rfl, fun n => by show (toKey dy).bind _ = _; rw [q]; rfl⟩)
  | dit kvs =>
    cases q : toKeyT dy with
    | ok k =>
      obtain ⟨p, vs, rfl, hp, r⟩ := sx.dit ex
      obtain ⟨b, rfl, eb⟩ := toKeyT_ok q sy
      refine .inr (.inl ⟨kvs, k, rfl, rfl, p, _, rfl, .t hp (ex _ _ eb), ?_⟩)
      rcases r.get (k := k) with ⟨v, d, e1, e2, e3⟩ | ⟨e1, e2⟩
      · exact .inr ⟨v, d, e1, e2, e3⟩
      · exact .inl ⟨e1, e2⟩
    | raise z => exact absurd q (toKeyT_nx _ z)
    | stuck => exact .inr (.inr ⟨by show (toKeyT dy).bind _ = _; rw [q]; rfl, fun n => by show (toKeyT dy).bind _ = _; rw [q]; rfl⟩)
  | _ => exact .inr (.inr ⟨rfl, fun n => by unfold opInD; rfl⟩)
end
theorem u1 {k : Nat} {A : Around} (r : Room k A) : A.units + 1 < cLine := by have := r.units; omega
section
variable {K : PySem.W.Frag} {mg : Str → Option Value} {T : List (Addr × Str)} {E : XK} {X : Cx} {a b e : Expr} {ta tb te : TE} {f g : S → R D} {fm : S → M D} {pos : Pos}
theorem PostB.bind2 {Φ H : Hp} {Q Q' : VK} {r : R D} {k : D → R D} (h : PostE K mg E Φ H (r.bind k) Q) (q : ∀ d v Φ' H', Gr Φ H Φ' H' → SeeB K mg Φ' H' v d → PostE K mg E Φ' H' (k d) Q → Q' v H') : PostB K mg E Φ H r Q' := PostB.bindE h q
theorem de_dix (hu : X.A.units + 1 < cLine) (ha : DB K mg E T X a ta f) (hb : DE K mg E T X b tb g) (hs : NoSl b) : DE K mg E T X (.Subscript a b pos) (tDGet ta tb) (fun ρ => (f ρ).bind fun x => (g ρ).bind fun y => opIxD x y) := by
  refine ⟨ha.k, ha.m, pe_dget hu ha.pe hb.pe hs, fun B Φ H σ ρ s Q z => ?_⟩
  refine ha.imp B Φ H σ ρ s _ (PostB.bindE z fun dx x Φ1 H1 g1 sx z1 => ?_)
  refine hb.imp B Φ1 H1 σ ρ (s.grow g1) _ ?_
  cases q : g ρ with
  | raise w => rw [q] at z1; exact z1
  | stuck => rw [q] at z1; exact z1
  | ok dy =>
    rw [q] at z1
    intro y Φ2 H2 g2 sy
    have z2 : PostE K mg E Φ2 H2 (opIxD dx dy) Q := PostE.grow g2 z1
    rcases dget_of g2.ex (sx.grow g2) sy with ⟨kvs, k, rfl, e1, p, o, rfl, dg, w⟩ | ⟨kvs, k, rfl, e1, p, o, rfl, dg, w⟩ | ⟨w, _⟩
    · have e2 : opIxD (.dic kvs) dy = R.ofOpt (getKD kvs k) := by show (toKey dy).bind _ = _; rw [e1]; rfl
      rw [e2] at z2
      rcases w with ⟨_, w⟩ | ⟨v, d, rfl, w, sv⟩
      · rw [w] at z2; exact z2.elim
      · rw [w] at z2; exact ⟨p, v, rfl, dg, z2 v Φ2 H2 (Gr.refl g2.ex) sv⟩
    · have e2 : opIxD (.dit kvs) dy = R.ofOpt (getKD kvs k) := by show (toKeyT dy).bind _ = _; rw [e1]; rfl
      rw [e2] at z2
      rcases w with ⟨_, w⟩ | ⟨v, d, rfl, w, sv⟩
      · rw [w] at z2; exact z2.elim
      · rw [w] at z2; exact ⟨p, v, rfl, dg, z2 v Φ2 H2 (Gr.refl g2.ex) sv⟩
    · rw [w] at z2; exact z2.elim
theorem imp_din (neg : Bool) (ha : ImpE K mg E T ta f) (hb : ImpB K mg E T tb g) : ImpE K mg E T (fun σ H Q => ta σ H fun y H1 => tb σ H1 fun x H2 => ∃ a o, x = .ref a ∧ DGet H2 a y o ∧ Q (.bl (neg ^^ o.isSome)) H2) (fun ρ => (f ρ).bind fun x => (g ρ).bind fun y => opInD neg x y) := by
  intro B Φ H σ ρ s Q z
  refine ha B Φ H σ ρ s _ ?_
  have z : PostE K mg E Φ H ((f ρ).bind fun x => (g ρ).bind fun y => opInD neg x y) Q := z
  cases q : f ρ with
  | raise w => rw [q] at z; exact z
  | stuck => rw [q] at z; exact z
  | ok dy =>
    rw [q] at z
    intro y Φ1 H1 g1 sy
    have z1 : PostE K mg E Φ1 H1 ((g ρ).bind fun y => opInD neg dy y) Q := PostE.grow g1 z
    refine hb B Φ1 H1 σ ρ (s.grow g1) _ (PostB.bindE z1 fun dx x Φ2 H2 g2 sx z2 => ?_)
    rcases dget_of g2.ex sx (See.mono g2.p sy) with ⟨kvs, k, rfl, e1, p, o, rfl, dg, w⟩ | ⟨kvs, k, rfl, e1, p, o, rfl, dg, w⟩ | ⟨_, w⟩
    · have e2 : opInD neg dy (.dic kvs) = .ok (.bl (neg ^^ (getKD kvs k).isSome)) := by show (toKey dy).bind _ = _; rw [e1]; rfl
      rw [e2] at z2
      refine ⟨p, o, rfl, dg, ?_⟩
      have e3 : o.isSome = (getKD kvs k).isSome := by rcases w with ⟨w1, w2⟩ | ⟨v, d, w1, w2, _⟩ <;> rw [w1, w2] <;> rfl
      rw [e3]; exact z2 _ Φ2 H2 (Gr.refl g2.ex) (.bl _)
    · have e2 : opInD neg dy (.dit kvs) = .ok (.bl (neg ^^ (getKD kvs k).isSome)) := by show (toKeyT dy).bind _ = _; rw [e1]; rfl
      rw [e2] at z2
      refine ⟨p, o, rfl, dg, ?_⟩
      have e3 : o.isSome = (getKD kvs k).isSome := by rcases w with ⟨w1, w2⟩ | ⟨v, d, w1, w2, _⟩ <;> rw [w1, w2] <;> rfl
      rw [e3]; exact z2 _ Φ2 H2 (Gr.refl g2.ex) (.bl _)
    · rw [w] at z2; exact z2.elim
def dInD (neg : Bool) (f g : S → R D) : S → R D := fun ρ => (f ρ).bind fun x => (g ρ).bind fun y => opInD neg x y
theorem xor_f (b : Bool) : (false ^^ b) = b := by cases b <;> rfl
theorem xor_t (b : Bool) : (true ^^ b) = !b := by cases b <;> rfl
theorem imp_in (ha : ImpE K mg E T ta f) (hb : ImpB K mg E T tb g) : ImpE K mg E T (tDIn ta tb) (dInD false f g) := fun B Φ H σ ρ s Q z => by
  have q := imp_din false ha hb B Φ H σ ρ s Q z
  simp only [xor_f] at q
  exact q
theorem imp_notin (ha : ImpE K mg E T ta f) (hb : ImpB K mg E T tb g) : ImpE K mg E T (tDNotIn ta tb) (dInD true f g) := fun B Φ H σ ρ s Q z => by
  have q := imp_din true ha hb B Φ H σ ρ s Q z
  simp only [xor_t] at q
  exact q
theorem de_din (hu : X.A.units + 1 < cLine) (ha : DE K mg E T X a ta f) (hb : DB K mg E T X b tb g) (hm : behindInMarks .In b = false) : DE K mg E T X (.Compare a [.In] [b] pos) (tDIn ta tb) (dInD false f g) := ⟨ha.k, ha.m, pe_cmp (pc_din hu ha.pe hb.pe) hm, imp_in ha.imp hb.imp⟩
theorem de_dnotin (hu : X.A.units + 1 < cLine) (ha : DE K mg E T X a ta f) (hb : DB K mg E T X b tb g) (hm : behindInMarks .NotIn b = false) : DE K mg E T X (.Compare a [.NotIn] [b] pos) (tDNotIn ta tb) (dInD true f g) := ⟨ha.k, ha.m, pe_cmp (pc_dnotin hu ha.pe hb.pe) hm, imp_notin ha.imp hb.imp⟩
theorem dt_din (hu : X.A.units + 1 < cLine) (ha : DE K mg E T X a ta f) (hb : DB K mg E T X b tb g) (hm : behindInMarks .In b = false) : DT K mg E T X (.Compare a [.In] [b] pos) (tB (tDIn ta tb)) (dT (dInD false f g)) := ⟨ha.k, ha.m, pt_cmp (pc_din hu ha.pe hb.pe) hm, fun B Φ H σ ρ s Q q => imp_in ha.imp hb.imp B Φ H σ ρ s _ (PostT.bindE q)⟩
theorem dt_dnotin (hu : X.A.units + 1 < cLine) (ha : DE K mg E T X a ta f) (hb : DB K mg E T X b tb g) (hm : behindInMarks .NotIn b = false) : DT K mg E T X (.Compare a [.NotIn] [b] pos) (tB (tDNotIn ta tb)) (dT (dInD true f g)) := ⟨ha.k, ha.m, pt_cmp (pc_dnotin hu ha.pe hb.pe) hm, fun B Φ H σ ρ s Q q => imp_notin ha.imp hb.imp B Φ H σ ρ s _ (PostT.bindE q)⟩
/-! ### {} -/
def vDK : S → M Sl := fun ρ => .ok (.md []) ρ
def vDT : S → M Sl := fun ρ => .ok (.mt []) ρ
theorem dv_dictK (hk : X.K = K) (hm : X.mg = mg) : DV K mg E T X (.Dict [] [] pos) tDNewK vDK := by
  refine ⟨hk, hm, pe_dnewK, fun B Φ H σ ρ s Q z p np => ?_⟩
  have g := Gr.newM (o := .dK []) s.ex np
  have n1 := Ex.none (e := s.ex) np
  obtain ⟨h0, hn⟩ := fresh_nd s g np
  exact z _ Φ _ (Ex.refl _) (s.grow g) (.own (.md upd_same .nil) (fun nd x j a m => by rw [List.mem_singleton.mp m]; exact hn nd x j) (fun a m => by rw [List.mem_singleton.mp m]; exact ⟨h0.1, n1, not_none upd_same, h0.2⟩) fun _ z => by cases z)
theorem dv_dictT (hk : X.K = K) (hm : X.mg = mg) : DV K mg E T X (.Dict [] [] pos) tDNewT vDT := by
  refine ⟨hk, hm, pe_dnewT, fun B Φ H σ ρ s Q z p np => ?_⟩
  have g := Gr.newM (o := .dT []) s.ex np
  have n1 := Ex.none (e := s.ex) np
  obtain ⟨h0, hn⟩ := fresh_nd s g np
  exact z _ Φ _ (Ex.refl _) (s.grow g) (.own (.mt upd_same .nil) (fun nd x j a m => by rw [List.mem_singleton.mp m]; exact hn nd x j) (fun a m => by rw [List.mem_singleton.mp m]; exact ⟨h0.1, n1, not_none upd_same, h0.2⟩) fun _ z => by cases z)
end
/-! ### slots that hold dicts -/
section
variable {K : PySem.W.Frag} {mg : Str → Option Value} {T : List (Addr × Str)} {B : Bs} {Φ H : Hp} {σ : L2.St} {ρ : S} {i : Nat}
theorem slot_md {ds : List (Key × D)} (s : SOk K mg T B Φ H σ ρ) (h : ρ[i]? = some (some (.md ds))) : ∃ p vs, σ[i]? = some (some (.ref p)) ∧ H p = some (.dK vs) ∧ SeeK K mg Φ vs ds ∧ (∀ nd, NdOk K mg B Φ H σ ρ nd → p ∈ nd i) := by
  obtain ⟨nd, n⟩ := s.nds
  obtain ⟨v, e1, e2⟩ := n.at_ i _ h
  generalize hA : nd i = A at e2
  cases e2 with
  | md q r => exact ⟨_, _, e1, q, r, fun nd' y => by rw [y.uniq n, hA]; simp⟩
theorem SOk.setMd {ds es : List (Key × D)} {p : Addr} {vs : List (Key × V)} (s : SOk K mg T B Φ H σ ρ) (h : ρ[i]? = some (some (.md ds))) (hp : σ[i]? = some (some (.ref p))) (sv : SeeK K mg Φ vs es) : SOk K mg T B Φ (L2.upd H p (.dK vs)) σ (ρ.set i (some (.md es))) := by
  obtain ⟨p', vs', e1, e2, e3, e4⟩ := slot_md s h
  rw [hp] at e1
  cases e1
  refine s.upd i hp e4 (fun A ⟨s0, q, r⟩ => ?_) ⟨_, h⟩ (fun ds z => by cases z) fun _ z => by cases z
  rw [h] at q
  cases q
  cases r
  exact .md upd_same sv
theorem slot_mt {ds : List (List Key × D)} (s : SOk K mg T B Φ H σ ρ) (h : ρ[i]? = some (some (.mt ds))) : ∃ p vs, σ[i]? = some (some (.ref p)) ∧ H p = some (.dT vs) ∧ SeeT K mg Φ vs ds ∧ (∀ nd, NdOk K mg B Φ H σ ρ nd → p ∈ nd i) := by
  obtain ⟨nd, n⟩ := s.nds
  obtain ⟨v, e1, e2⟩ := n.at_ i _ h
  generalize hA : nd i = A at e2
  cases e2 with
  | mt q r => exact ⟨_, _, e1, q, r, fun nd' y => by rw [y.uniq n, hA]; simp⟩
theorem SOk.setMt {ds es : List (List Key × D)} {p : Addr} {vs : List (List Key × V)} (s : SOk K mg T B Φ H σ ρ) (h : ρ[i]? = some (some (.mt ds))) (hp : σ[i]? = some (some (.ref p))) (sv : SeeT K mg Φ vs es) : SOk K mg T B Φ (L2.upd H p (.dT vs)) σ (ρ.set i (some (.mt es))) := by
  obtain ⟨p', vs', e1, e2, e3, e4⟩ := slot_mt s h
  rw [hp] at e1
  cases e1
  refine s.upd i hp e4 (fun A ⟨s0, q, r⟩ => ?_) ⟨_, h⟩ (fun ds z => by cases z) fun _ z => by cases z
  rw [h] at q
  cases q
  cases r
  exact .mt upd_same sv
/-- d[k] = v, what becomes of the slots -/
def putAt (i : Nat) (k d : D) (ρ : S) : Option S := match ρ[i]? with
  | some (some (.md kvs)) => match toKey k with
    | .ok k => if kvs.length < sizeLine then some (ρ.set i (some (.md (putKD kvs k d)))) else none
    | _ => none
  | some (some (.mt kvs)) => match toKeyT k with
    | .ok k => if kvs.length < sizeLine then some (ρ.set i (some (.mt (putKD kvs k d)))) else none
    | _ => none
  | _ => none
theorem putAt_ok {k d : D} {ρ' : S} {x y v : V} (s : SOk K mg T B Φ H σ ρ) (h : putAt i k d ρ = some ρ') (hx : σ[i]? = some (some x)) (sk : See K mg Φ y k) (sv : See K mg Φ v d) : ∃ a H4, x = .ref a ∧ DPut H a y v H4 ∧ SOk K mg T B Φ H4 σ ρ' := by
  unfold putAt at h
  split at h
  · rename_i kvs w
    obtain ⟨p, vs, e1, e2, e3, _⟩ := slot_md s w
    rw [hx] at e1
    cases e1
    split at h
    · rename_i k' hk
      split at h
      · rename_i hl
        cases h
        have e4 := toKey_ok hk sk
        subst e4
        exact ⟨p, _, rfl, .k e2 (by rw [SeeK.length e3]; exact hl), s.setMd w hx (e3.put sv)⟩
      · cases h
    · cases h
  · rename_i kvs w
    obtain ⟨p, vs, e1, e2, e3, _⟩ := slot_mt s w
    rw [hx] at e1
    cases e1
    split at h
    · rename_i k' hk
      split at h
      · rename_i hl
        cases h
        obtain ⟨b, rfl, eb⟩ := toKeyT_ok hk sk
        exact ⟨p, _, rfl, .t e2 (s.ex _ _ eb) (by rw [SeeT.length e3]; exact hl), s.setMt w hx (e3.put sv)⟩
      · cases h
    · cases h
  · cases h
theorem putAt_at {k d : D} {ρ' : S} (s : SOk K mg T B Φ H σ ρ) (h : putAt i k d ρ = some ρ') : ∃ x, σ[i]? = some (some x) := by
  unfold putAt at h
  split at h
  · rename_i kvs w
    obtain ⟨p, vs, e1, _⟩ := slot_md s w
    exact ⟨_, e1⟩
  · rename_i kvs w
    obtain ⟨p, vs, e1, _⟩ := slot_mt s w
    exact ⟨_, e1⟩
  · cases h
end
section
variable {K : PySem.W.Frag} {mg : Str → Option Value} {T : List (Addr × Str)} {E : XK} {X : Cx} {a b e : Expr} {ta tb te : TE} {f g : S → R D} {fm : S → M D} {pos pos' p : Pos} {x : Str}
/-- d[k] = v -/
def sPutD (i : Nat) (fm : S → M D) (g : S → R D) : S → M Fl := fun ρ => (fm ρ).bind fun d ρ1 => match g ρ1 with
  | .ok k => match putAt i k d ρ1 with
    | some ρ2 => .ok .nx ρ2
    | none => .stuck
  | _ => .stuck
theorem ds_putd (i : Nat) (hu : X.A.units + 1 < cLine) (ha : DM K mg E T X a ta fm) (hb : DE K mg E T X b tb g) (hN : X.N[i]? = some x) (hv : Vis X.env.scope x) (hd : (x == ("__debug__" : Str)) = false) (hcd : (x == ("__classdict__" : Str)) = false)
    (hs : swapsWith a (some (.Subscript (.Name x p) b pos')) pos.line X.env = pure false) : DS K mg E T X (.Assign [.Subscript (.Name x p) b pos'] a pos) (sDPut (tVar i) tb ta) (sPutD i fm g) := by
  refine ⟨ha.k, ha.m, ps_dput hu (pe_var hN hv hd hcd) hb.pe ha.pe hs, fun B Φ H σ ρ hM s D z => ha.imp B Φ H σ ρ s _ (PostM.toS z fun d ρ1 v Φ1 H1 e1 s1 sv z1 => ?_)⟩
  cases q : g ρ1 with
  | ok k =>
    rw [q] at z1
    cases q2 : putAt i k d ρ1 with
    | none => simp only [q2] at z1; exact z1.elim
    | some ρ2 =>
      simp only [q2] at z1
      obtain ⟨u, hu'⟩ := putAt_at s1 q2
      refine ⟨u, hu', hb.imp B Φ1 H1 σ ρ1 s1 _ ?_⟩
      rw [q]
      intro y Φ2 H2 g2 sy
      obtain ⟨ad, H4, rfl, dp, s4⟩ := putAt_ok (s1.grow g2) q2 hu' sy (See.mono g2.p sv)
      exact ⟨ad, H4, rfl, dp, z1 Φ2 H4 σ g2.p s4⟩
  | raise w => rw [q] at z1; exact z1.elim
  | stuck => rw [q] at z1; exact z1.elim
end
/-! ### a[i], b[j] = x, y -/
/-- a target: what it makes of the slots -/
structure DPt (K : PySem.W.Frag) (mg : Str → Option Value) (T : List (Addr × Str)) (X : Cx) (tg : Expr) (g : TG) (put : D → S → Option S) : Prop where
  k : X.K = K
  m : X.mg = mg
  pg : PG X tg g
  imp : ∀ B Φ H σ ρ v d ρ' (Q : L2.St → Hp → Prop), SOk K mg T B Φ H σ ρ → See K mg Φ v d → put d ρ = some ρ' → (∀ Φ' H', Ex Φ Φ' → SOk K mg T B Φ' H' σ ρ' → Q σ H') → g v σ H Q
def ptD (i : Nat) (g : S → R D) : D → S → Option S := fun d ρ => match g ρ with
  | .ok k => putAt i k d ρ
  | _ => none
def ptL (i : Nat) (g : S → R D) : D → S → Option S := fun d ρ => match g ρ, ρ[i]? with
  | .ok (.int n), some (some (.ml ds)) => (ixN ds.length n).map fun j => ρ.set i (some (.ml (ds.set j d)))
  | _, _ => none
section
variable {K : PySem.W.Frag} {mg : Str → Option Value} {T : List (Addr × Str)} {E : XK} {X : Cx} {a b e : Expr} {ta tb te : TE} {f g : S → R D} {fm : S → M D} {pos pos' p : Pos} {x : Str}
theorem dpt_d (i : Nat) (hu : X.A.units + 1 < cLine) (hb : DE K mg E T X b tb g) (hN : X.N[i]? = some x) (hv : Vis X.env.scope x) (hd : (x == ("__debug__" : Str)) = false) (hcd : (x == ("__classdict__" : Str)) = false)
    (hasg : ∀ v, assign (.Subscript (.Name x p) b pos) X.env v = (do
      let ov ← holding [v] (eval (.Name x p) X.env)
      let iv ← holding [v, ov] (eval b X.env)
      standAt pos
      holding [v, ov, iv]
              (setItem ov iv v)
      release [v, ov, iv] [])) : DPt K mg T X (.Subscript (.Name x p) b pos) (gSub (tVar i) tb rSetD) (ptD i g) := by
  refine ⟨hb.k, hb.m, pg_sub (pe_var hN hv hd hcd) hb.pe (set_dict hu) hasg, fun B Φ H σ ρ v d ρ' Q s sv h q => ?_⟩
  unfold ptD at h
  split at h
  · rename_i k hk
    obtain ⟨u, hu'⟩ := putAt_at s h
    refine ⟨u, hu', hb.imp B Φ H σ ρ s _ ?_⟩
    rw [hk]
    intro y Φ2 H2 g2 sy
    obtain ⟨ad, H4, rfl, dp, s4⟩ := putAt_ok (s.grow g2) h hu' sy (See.mono g2.p sv)
    exact ⟨ad, H4, rfl, dp, q Φ2 H4 g2.p s4⟩
  · cases h
theorem dpt_l (i : Nat) (hb : DE K mg E T X b tb g) (hN : X.N[i]? = some x) (hv : Vis X.env.scope x) (hd : (x == ("__debug__" : Str)) = false) (hcd : (x == ("__classdict__" : Str)) = false)
    (hasg : ∀ v, assign (.Subscript (.Name x p) b pos) X.env v = (do
      let ov ← holding [v] (eval (.Name x p) X.env)
      let iv ← holding [v, ov] (eval b X.env)
      standAt pos
      holding [v, ov, iv]
              (setItem ov iv v)
      release [v, ov, iv] [])) : DPt K mg T X (.Subscript (.Name x p) b pos) (gSub (tVar i) tb rSetL) (ptL i g) := by
  refine ⟨hb.k, hb.m, pg_sub (pe_var hN hv hd hcd) hb.pe set_list hasg, fun B Φ H σ ρ v d ρ' Q s sv h q => ?_⟩
  unfold ptL at h
  split at h
  · rename_i n ds hk w
    obtain ⟨j, hj, rfl⟩ := mapSome h
    obtain ⟨pa, vs, e1, e2, e3, _⟩ := slot_ml s w
    refine ⟨.ref pa, e1, hb.imp B Φ H σ ρ s _ ?_⟩
    rw [hk]
    intro y Φ2 H2 g2 sy
    cases sy
    obtain ⟨p', vs', f1, f2, f3, _⟩ := slot_ml (s.grow g2) w
    rw [e1] at f1
    cases f1
    exact ⟨pa, vs', n, j, rfl, rfl, f2, by rw [SeeAll.length f3]; exact hj, q Φ2 _ g2.p ((s.grow g2).setMl w e1 (SeeAll.set (See.mono g2.p sv) j f3))⟩
  · cases h
/-- targets, from the waiting slots -/
def putTo : List (Nat × (D → S → Option S)) → S → M Fl
  | [], ρ => .ok .nx ρ
  | (d, p) :: r, ρ => match ρ[d]? with
    | some (some (.fz x)) => match p x ρ with
      | some ρ' => putTo r (ρ'.set d none)
      | none => .stuck
    | _ => .stuck
structure DPts (K : PySem.W.Frag) (mg : Str → Option Value) (T : List (Addr × Str)) (X : Cx) (tgs : List Expr) (g : TGs) (puts : List (D → S → Option S)) : Prop where
  k : X.K = K
  m : X.mg = mg
  pg : PGs X tgs g
  ln : (assignEach tgs X.env).length = puts.length
  imp : ∀ B Φ H σ ρ (ds : List Nat) vs ρ' (Q : L2.St → Hp → Prop), SOk K mg T B Φ H σ ρ → ds.length = puts.length → Holds σ ds vs → putTo (ds.zip puts) ρ = .ok .nx ρ' → (∀ Φ' H', Ex Φ Φ' → SOk K mg T B Φ' H' σ ρ' → Q σ H') → g vs σ H Q
theorem dpts_nil (hk : X.K = K) (hm : X.mg = mg) : DPts K mg T X [] gNil [] := ⟨hk, hm, pgs_nil, rfl, fun B Φ H σ ρ ds vs ρ' Q s hl hh h q => by
  match ds, hl with
  | [], _ =>
    cases vs with
    | nil => cases h; exact ⟨rfl, q Φ H (Ex.refl _) s⟩
    | cons _ _ => exact hh.elim⟩
theorem dpts_cons {tg : Expr} {tgs : List Expr} {t : TG} {u : TGs} {put : D → S → Option S} {puts : List (D → S → Option S)} (h1 : DPt K mg T X tg t put) (h2 : DPts K mg T X tgs u puts)
    (hs : (assignEach (tg :: tgs) X.env).map (·.2) = assign tg X.env :: (assignEach tgs X.env).map (·.2)) (hn : (assignEach (tg :: tgs) X.env).length = (assignEach tgs X.env).length + 1) : DPts K mg T X (tg :: tgs) (gCons t u) (put :: puts) :=
  ⟨h1.k, h1.m, pgs_cons h1.pg h2.pg hs, by rw [hn, h2.ln]; rfl, fun B Φ H σ ρ ds vs ρ' Q s hl hh h q => by
    match ds, hl with
    | d :: ds, hl =>
      cases vs with
      | nil => exact hh.elim
      | cons v vs =>
        have h : (match ρ[d]? with
          | some (some (.fz x)) => match put x ρ with
            | some ρ' => putTo (ds.zip puts) (ρ'.set d none)
            | none => .stuck
          | _ => .stuck) = .ok .nx ρ' := h
        split at h
        · rename_i x w
          split at h
          · rename_i ρ1 hp
            obtain ⟨nd, n⟩ := id s.nds
            obtain ⟨v', e1, e2⟩ := n.at_ d _ w
            rw [hh.1] at e1
            cases e1
            generalize nd d = A at e2
            cases e2 with
            | fz sv => exact ⟨v, vs, rfl, h1.imp B Φ H σ ρ v x ρ1 _ s sv hp fun Φ' H' e s' => h2.imp B Φ' H' σ _ ds vs ρ' Q (s'.drop d) (by simpa using hl) hh.2 h fun Φ2 H2 e2 s2 => q Φ2 H2 (e.trans e2) s2⟩
          · cases h
        · cases h⟩
def sParT (ds : List Nat) (puts : List (D → S → Option S)) (fs : List (S → M Sl)) : S → M Fl := fun ρ => (evalTo (ds.zip fs) ρ).bind fun _ ρ1 => putTo (ds.zip puts) ρ1
theorem putTo_nx : ∀ {prs : List (Nat × (D → S → Option S))} {ρ : S}, (∃ ρ', putTo prs ρ = .ok .nx ρ') ∨ putTo prs ρ = .stuck
  | [], ρ => .inl ⟨ρ, rfl⟩
  | (d, i) :: r, ρ => by
    unfold putTo
    split
    · split
      · exact putTo_nx
      · exact .inr rfl
    · exact .inr rfl
theorem ds_parT {tgs es : List Expr} {gs : TGs} {t : TQ} {ds : List Nat} {fs : List (S → M Sl)} {puts : List (D → S → Option S)} {pt pt2 : Pos} {kt k2 : Nat} (hc : X.calm = true) (ha : DQ K mg E T X ds es t fs) (hg : DPts K mg T X tgs gs puts) (hl : ds.length = puts.length) (hz : ds.length ≤ 1000) (nd : ds.Nodup) (hst : (assignEach tgs X.env).findIdx? (·.1) = none)
    (hs : swapsWithSole [.Tuple tgs kt pt] (.Tuple es k2 pt2) pos.line X.env = pure false) (hw : swappedStores [.Tuple tgs kt pt] (.Tuple es k2 pt2) X.env = pure none) (h1 : (assignEach [.Tuple tgs kt pt] X.env).map (·.2) = [assign (.Tuple tgs kt pt) X.env]) :
    DS K mg E T X (.Assign [.Tuple tgs kt pt] (.Tuple es k2 pt2) pos) (tPqG X.K ds.length gs t) (sParT ds puts fs) := by
  refine ⟨ha.k, ha.m, ps_pqG hc ha.pq hg.pg (by rw [hg.ln, hl]) hst hs hw h1, fun B Φ H σ ρ hM s D z => ha.imp B Φ H σ ρ s _ ?_⟩
  have z : PostS K mg E T B Φ D ((evalTo (ds.zip fs) ρ).bind fun _ ρ1 => putTo (ds.zip puts) ρ1) := z
  cases q : evalTo (ds.zip fs) ρ with
  | stuck => rw [q] at z; exact z.elim
  | raise x ρ1 => rw [q] at z; exact z
  | ok u ρ1 =>
    rw [q] at z
    have z : PostS K mg E T B Φ D (putTo (ds.zip puts) ρ1) := z
    intro vs Φ' H' e s' hv lt
    rcases putTo_nx (prs := ds.zip puts) (ρ := ρ1) with ⟨ρ', h⟩ | h
    · rw [h] at z
      have hh := setD_holds ds vs σ nd lt hv
      refine ⟨hv, by rw [sizeLine_eq]; omega, fun p np => ?_⟩
      exact hg.imp B Φ' _ (setD σ ds vs) ρ1 ds vs ρ' D.nx (s'.grow (Gr.newM s'.ex np)) hl hh h fun Φ2 H2 e2 s2 => z Φ2 H2 _ (e.trans e2) s2
    · rw [h] at z; exact z.elim
/-! ### xs.remove(k), there -/
def mRemove (i : Nat) (fm : S → M D) : S → M D := fun ρ => match ρ[i]? with
  | some (some (.ml _)) => (fm ρ).bind fun d ρ1 => match d, ρ1[i]? with
    | .int k, some (some (.ml ds)) => match D.ints ds with
      | some ns => if k ∈ ns then .ok .non (ρ1.set i (some (.ml ((ns.erase k).map D.int)))) else .stuck
      | none => .stuck
    | _, _ => .stuck
  | _ => .stuck
theorem dm_remove (i : Nat) {pv' : Pos} {apos : Pos} (hc : X.calm = true) (tk : Takes X fun c d _ H => E c d H) (ha : DM K mg E T X a ta fm) (hN : X.N[i]? = some x) (hv : Vis X.env.scope x)
    (hd : (x == ("__debug__" : Str)) = false) (hcd : (x == ("__classdict__" : Str)) = false)
    (hbase : attributeBase (.Name x pv') "remove" X.env (eval (.Name x pv') X.env) = eval (.Name x pv') X.env)
    (hfew : ((backTo pos (starEach [a] X.env)).all (fun x => !x.1) && (backToKw pos (keywordEach [] X.env)).all (fun x => x.1.isSome)
      && decide (([a] : List Expr).length + ([] : List Keyword).length + (if ([] : List Keyword).isEmpty then 0 else 1) < 30)) = true)
    (hline : (apos.endLine == pos.line) = true) (hs : starEach [a] X.env = (false, eval a X.env) :: starEach [] X.env) (hplain : (backTo pos (starEach [] X.env)).any (·.1) = false) :
    DM K mg E T X (.Call (.Attribute (.Name x pv') "remove" apos) [a] [] pos) (tRemX K (fun _ _ _ _ => False) (tVar i) ta) (mRemove i fm) := by
  obtain ⟨hk, hm, hp, hi⟩ := ha
  subst hk
  refine ⟨rfl, hm, pe_remX hc (tk.imp fun _ _ _ _ w => w.elim) (pe_var hN hv hd hcd) hp hbase hfew hline hs hplain, fun B Φ H σ ρ s Q z => ?_⟩
  unfold mRemove at z
  split at z
  · rename_i ds w
    obtain ⟨p, vs, e1, e2, e3, _⟩ := slot_ml s w
    refine ⟨_, e1, .inl ⟨rfl, vs, .inl (.inl e2)⟩, hi B Φ H σ ρ s _ (PostM.bind z fun d ρ1 v Φ1 H1 e s1 sv z1 => ?_)⟩
    split at z1
    · rename_i k ds1 w1
      split at z1
      · rename_i ns hn
        split at z1
        · rename_i hk
          obtain ⟨p', vs1, f1, f2, f3, _⟩ := slot_ml s1 w1
          rw [e1] at f1
          cases f1
          have en := ints_some hn
          subst en
          have ev := SeeAll.ints f3
          subst ev
          cases sv
          refine ⟨p, ns, k, rfl, rfl, f2, fun _ => z1 .non Φ1 _ (Ex.refl _) (s1.setMl w1 e1 (SeeAll.ofInts _)) .non, fun w => absurd hk w⟩
        · exact z1.elim
      · exact z1.elim
    · exact z1.elim
  · exact z.elim
end
end TP
set_option Elab.async false
set_option linter.all false
set_option maxRecDepth 100000
/-! Tree programs: a list of tuples of numbers, sorted. -/
namespace TP
open PySem L2 PyProof.Rows PySem.Spec
open PySem.W (AllAlike Sortable EachIs dataLe sorted_data)
def leL (a b : List Int) : Bool := !lexL b a
def sortL (as : List (List Int)) : List (List Int) := as.mergeSort leL
def bSortT : D → R (List D)
  | .lst ds => match tupIs ds with
    | some as => if (as.all fun a => decide (a ≠ [])) = true ∧ as.length ≤ sizeLine then .ok ((sortL as).map fun a => .tup (a.map D.int)) else .stuck
    | none => .stuck
  | _ => .stuck
theorem sortT_nx : ∀ x, NoX (bSortT x) := fun x z => by
  unfold bSortT
  repeat' split
  all_goals exact fun w => by cases w
theorem le_pyT (a b : List Int) : dataLe false (fun x : V × List Int => pyT x.2) = fun x y => leL x.2 y.2 := by
  rw [PySem.W.dataLe_eq]
  funext x y
  show (!PySem.W.dataLt (pyT y.2) (pyT x.2)) = _
  rw [lt_pyT]; rfl
theorem allAlike_pyT (as : List (List Int)) : AllAlike (as.map pyT) := fun d hd d' hd' => (alike_pyT as).1 d hd d' hd'
section
variable {K : PySem.W.Frag} {mg : Str → Option Value}
theorem each_vals : ∀ {vs : List V} {us : List Value} {as : List (List Int)}, Vals vs us → vs.length = as.length → EachIs (fun u (b : V × List Int) => RelV b.1 u) us (vs.zip as)
  | _, _, [], .nil, _ => .nil
  | _, _, _ :: _, .nil, h => by cases h
  | _, _, [], .cons _ _, h => by cases h
  | _, _, a :: as, .cons r t, h => .cons r (each_vals t (by simpa using h))
theorem vals_each : ∀ {us : List Value} {bs : List (V × List Int)}, EachIs (fun u (b : V × List Int) => RelV b.1 u) us bs → Vals (bs.map (·.1)) us
  | _, _, .nil => .nil
  | _, _, .cons r t => .cons r (vals_each t)
theorem each_reads : ∀ {vs : List V} {us : List Value} {as : List (List Int)} {h : Heap} {ad : List Addr}, ReadsAll h us (as.map pyT) ad → vs.length = as.length → EachIs (fun v (b : V × List Int) => ∃ ad, Reads h v (pyT b.2) ad) us (vs.zip as)
  | [], _, [], _, _, r, _ => by cases r; exact .nil
  | _ :: _, _, [], _, _, _, h => by cases h
  | [], _, _ :: _, _, _, _, h => by cases h
  | v :: vs, _, a :: as, _, _, r, h => by
    cases r with
    | cons r1 r2 => exact .cons ⟨_, r1⟩ (each_reads r2 (by simpa using h))
theorem see_zip {Φ : Hp} : ∀ {vs : List V} {as : List (List Int)}, SeeAll K mg Φ vs (as.map fun a => .tup (a.map D.int)) → ∀ b ∈ vs.zip as, See K mg Φ b.1 (.tup (b.2.map D.int))
  | [], _, _, b, hb => by simp at hb
  | _ :: _, [], h, b, hb => by cases h
  | v :: vs, a :: as, .cons s t, b, hb => by
    rcases List.mem_cons.mp
            hb with rfl | hb
    · exact s
    · exact see_zip t b hb
theorem see_map {Φ : Hp} : ∀ {bs : List (V × List Int)}, (∀ b ∈ bs, See K mg Φ b.1 (.tup (b.2.map D.int))) → SeeAll K mg Φ (bs.map (·.1)) ((bs.map (·.2)).map fun a => .tup (a.map D.int))
  | [], _ => .nil
  | b :: bs, h => .cons (h b (List.mem_cons_self ..)) (see_map fun x m => h x (List.mem_cons_of_mem _ m))
def rSortLs (K : PySem.W.Frag) (mg : Str → Option Value) : List V → Hp → VK → Prop := fun xs H Q => ∃ p vs Φ as, xs = [V.ref p] ∧ Ex Φ H ∧ SqL K H p vs ∧ SeeAll K mg Φ vs (as.map fun a => .tup (a.map D.int)) ∧ (as.all fun a => decide (a ≠ [])) = true ∧ vs.length ≤ sizeLine ∧
  ∀ q ys, H q = none → SeeAll K mg Φ ys ((sortL as).map fun a => .tup (a.map D.int)) → Q (.ref q) (L2.upd H q (.lst ys))
theorem cr_sortT2 {X : Cx} (S : SysIn X.K) (hu : X.A.units + 64 < cLine) : CallR X (.builtin "sorted") (rSortLs X.K X.mg) := by
  intro pins s₀ σ H xs us Q I r h
  obtain ⟨p, vs, Φ, as, rfl, ex, q1, rs, hne, hz, q⟩ := h
  rw [Vals.ref1 r]
  obtain ⟨its, rv, hl, _⟩ := I.list q1
  obtain ⟨bs, rd, _⟩ := SeeAll.rd S I ex rs rv (rp_tupIs as)
  have lz : vs.length = as.length := by rw [SeeAll.length rs, List.length_map]
  have em : (vs.zip as).map (fun b => pyT b.2) = as.map pyT := by
    rw [show (fun b : V × List Int => pyT b.2) = pyT ∘ (·.2) from rfl, ← List.map_map, List.map_snd_zip (by omega)]
  refine sorted_data (vs := its) (bs := vs.zip as) (enc := fun b => pyT b.2) (R := fun u b => RelV b.1 u) (by simpa using hl.isList) (each_vals rv lz) (each_reads rd lz) (by rw [em]; exact allAlike_pyT as) ?_ (by rw [List.length_zip]; omega) ?_ fun out hlen he => ?_
  · rw [em]
    refine .inl fun d hd => ?_
    obtain ⟨a, ha, rfl⟩ := List.mem_map.mp hd
    have := of_decide_eq_true (List.all_eq_true.mp hne a ha)
    cases a with
    | nil => exact absurd rfl this
    | cons n r => exact ⟨_, _, rfl⟩
  · intro b hb
    show _ + 2 + (PyData.tuple (b.2.map PyData.int)).depth < _
    have e : (PyData.tuple (b.2.map PyData.int)).depth = 1 := by
      show PyData.depthAll (b.2.map PyData.int) + 1 = 1
      rw [depth_ints]
    rw [e]; omega
  · rw [le_pyT [] []] at he
    have e2 : ((vs.zip as).mergeSort fun x y => leL x.2 y.2).map (·.2) = sortL as := by
      rw [List.map_mergeSort (s := leL) (fun a _ b _ => rfl), List.map_snd_zip (by omega)]; rfl
    have rv2 := vals_each he
    obtain ⟨ep, at'⟩ := PyProof.Rows.sortedAll_at s₀.heap its out.toArray
    have sv : SeeAll X.K X.mg Φ (((vs.zip as).mergeSort fun x y => leL x.2 y.2).map (·.1)) ((sortL as).map fun a => .tup (a.map D.int)) := by
      rw [← e2]
      exact see_map fun b hb => see_zip rs b ((List.mergeSort_perm _ _).mem_iff.mp hb)
    have len : (((vs.zip as).mergeSort fun x y => leL x.2 y.2).map (·.1)).length ≤ sizeLine := by
      rw [List.length_map, (List.mergeSort_perm _ _).length_eq, List.length_zip]; omega
    exact ⟨.ref _, L2.upd H (s₀.heap.objs.size + 1) (.lst (((vs.zip as).mergeSort fun x y => leL x.2 y.2).map (·.1))), I.laid (t' := s₀.toks) (fun _ _ => PyProof.Rows.sortedAll_old) (Nat.le_succ _) ⟨len, out, ep, rv2, at'⟩, rfl, q _ _ (I.hok.fresh (Nat.le_succ _)) sv⟩
theorem sem_sortT : Op1N K mg (rSortLs K mg) bSortT := by
  intro Φ H x dx Q ex hx h
  unfold bSortT at h
  split at h
  · split at h
    · split at h
      · rename_i ds as e c
        obtain ⟨p, vs, rfl, e1, s1⟩ := hx.lst ex
        rw [tupIs_some e] at s1
        exact ⟨p, vs, Φ, as, rfl, ex, .inl (.inl e1), s1, c.1, by rw [SeeAll.length s1, List.length_map]; exact c.2, fun q ys nq sv => h q _ Φ _ (Gr.newM ex nq) nq (Ex.none (e := ex) nq) upd_same sv⟩
      · exact h.elim
    · exact h.elim
  · exact h.elim
end
end TP
set_option Elab.async false
set_option linter.all false
set_option maxRecDepth 100000
/-! Tree programs run: rules for simp. -/
namespace TP
open PySem L2 PyProof.Rows PySem.Spec LamX
/-- keeps simp from leaving the step to the kernel -/
theorem nr {α : Sort _} {a b : α} (h : a = b) : a = b := h
section
variable {α β : Type} {ρ ρ' : S} {a : α} {x : Exn}
@[simp] theorem bindM_ok {f : α → S → M β} : (M.ok a ρ).bind f = f a ρ := nr rfl
@[simp] theorem bindM_raise {f : α → S → M β} : (M.raise x ρ : M α).bind f = .raise x ρ := nr rfl
@[simp] theorem bindM_stuck {f : α → S → M β} : (M.stuck : M α).bind f = .stuck := nr rfl
@[simp] theorem bindR_ok {f : α → R β} : (R.ok a).bind f = f a := nr rfl
@[simp] theorem bindR_raise {f : α → R β} : (R.raise x : R α).bind f = .raise x := nr rfl
@[simp] theorem bindR_stuck {f : α → R β} : (R.stuck : R α).bind f = .stuck := nr rfl
@[simp] theorem mapR_ok {f : α → β} : (R.ok a).map f = .ok (f a) := nr rfl
@[simp] theorem mapR_raise {f : α → β} : (R.raise x : R α).map f = .raise x := nr rfl
@[simp] theorem mapR_stuck {f : α → β} : (R.stuck : R α).map f = .stuck := nr rfl
@[simp] theorem toM_ok : (R.ok a).toM ρ = .ok a ρ := nr rfl
@[simp] theorem toM_raise : (R.raise x : R α).toM ρ = .raise x ρ := nr rfl
@[simp] theorem toM_stuck : (R.stuck : R α).toM ρ = .stuck := nr rfl
@[simp] theorem lift_ok {f : α → R β} : (M.ok a ρ).lift f = (f a).toM ρ := nr rfl
@[simp] theorem lift_raise {f : α → R β} : (M.raise x ρ : M α).lift f = .raise x ρ := nr rfl
@[simp] theorem lift_stuck {f : α → R β} : (M.stuck : M α).lift f = .stuck := nr rfl
@[simp] theorem noX_ok : (M.ok a ρ).noX = .ok a ρ := nr rfl
@[simp] theorem ofOpt_some : R.ofOpt (some a) = .ok a := nr rfl
@[simp] theorem ofOpt_none : (R.ofOpt none : R α) = .stuck := nr rfl
end
section
variable {ρ : S} {f g : S → R D} {gs : S → R (List D)} {fm gm : S → M D} {i : Nat} {d : D}
@[simp] theorem run_dVar : dVar i ρ = (match ρ[i]? with
  | some (some (.fz d)) => .ok d
  | _ => .stuck) := nr rfl
@[simp] theorem run_dC : dC d ρ = .ok d := nr rfl
@[simp] theorem run_dNil : dNil ρ = .ok [] := nr rfl
@[simp] theorem run_dCons : dCons f gs ρ = (f ρ).bind fun x => (gs ρ).map fun xs => x :: xs := nr rfl
@[simp] theorem run_dTup : dTup gs ρ = (gs ρ).bind fun ds => if ds.length ≤ sizeLine then .ok (.tup ds) else .stuck := nr rfl
@[simp] theorem run_dLst : dLst gs ρ = (gs ρ).bind fun ds => if ds.length ≤ sizeLine then .ok ds else .stuck := nr rfl
@[simp] theorem run_d2 {k : D → D → R D} : d2 k f g ρ = (f ρ).bind fun x => (g ρ).bind fun y => k x y := nr rfl
@[simp] theorem run_d1 {k : D → R D} : d1 k f ρ = (f ρ).bind k := nr rfl
@[simp] theorem run_d1N {k : D → R (List D)} : d1N k f ρ = (f ρ).bind k := nr rfl
@[simp] theorem run_dT : dT f ρ = (f ρ).bind asB := nr rfl
@[simp] theorem run_dAnd {p q : S → R Bool} : dAnd p q ρ = (p ρ).bind fun x => if x then q ρ else .ok false := nr rfl
@[simp] theorem run_dOr {p q : S → R Bool} : dOr p q ρ = (p ρ).bind fun x => if x then .ok true else q ρ := nr rfl
@[simp] theorem run_dNot {p : S → R Bool} : dNot p ρ = (p ρ).map (!·) := nr rfl
@[simp] theorem run_dAndV : dAndV f g ρ = (f ρ).bind fun x => (asB x).bind fun b => if b then g ρ else .ok (.bl false) := nr rfl
@[simp] theorem run_dOrV : dOrV f g ρ = (f ρ).bind fun x => (asB x).bind fun b => if b then .ok (.bl true) else g ρ := nr rfl
@[simp] theorem run_dNotV : dNotV f ρ = (f ρ).bind fun x => (asB x).map fun b => .bl (!b) := nr rfl
@[simp] theorem run_dIf {p : S → R Bool} : dIf p f g ρ = (p ρ).bind fun b => if b then f ρ else g ρ := nr rfl
@[simp] theorem run_dCall {F : List D → R D} : dCall F gs ρ = (gs ρ).bind F := nr rfl
@[simp] theorem run_dCallN {F : List D → R (List D)} : dCallN F gs ρ = (gs ρ).bind F := nr rfl
@[simp] theorem run_dCallB {F : List D → R D} : dCallB F gs ρ = (gs ρ).bind fun ds => lentR (F ds) := nr rfl
@[simp] theorem run_dKey {ix : List Nat} {n : Nat} {F : List D → R D} : dKey ix n F gs ρ = (gs ρ).bind fun ds => if ds.length = n then F (pick ix ds) else .stuck := nr rfl
@[simp] theorem run_dIdx : dIdx f g ρ = (f ρ).bind fun x => match x with
  | .lst ds => (g ρ).bind (idxR ds)
  | .tup ds => (g ρ).bind (idxR ds)
  | _ => .stuck := nr rfl
@[simp] theorem run_dChain {k1 k2 : D → D → R D} {h : S → R D} : dChain k1 k2 f g h ρ = (f ρ).bind fun x => (g ρ).bind fun y => ((k1 x y).bind asB).bind fun b => if b then (h ρ).bind fun z => k2 y z else .ok (.bl false) := nr rfl
@[simp] theorem run_oNone : oNone ρ = .ok none := nr rfl
@[simp] theorem run_oSome : oSome f ρ = (f ρ).bind asO := nr rfl
@[simp] theorem run_dSl {lo hi : S → R (Option Int)} : dSl f lo hi ρ = (f ρ).bind fun d => (lo ρ).bind fun l => (hi ρ).bind fun h => opSl d l h := nr rfl
@[simp] theorem run_dSlN {lo hi : S → R (Option Int)} : dSlN f lo hi ρ = (f ρ).bind fun d => (lo ρ).bind fun l => (hi ρ).bind fun h => opSlN d l h := nr rfl
@[simp] theorem run_kNil : kNil ρ = .ok [] := nr rfl
@[simp] theorem run_kCons {k : Key} {h : S → R (List (Key × D))} : kCons k f h ρ = (f ρ).bind fun x => (h ρ).map fun xs => (k, x) :: xs := nr rfl
@[simp] theorem run_dDic {h : S → R (List (Key × D))} : dDic h ρ = (h ρ).bind fun gs => if gs.length ≤ 15 ∧ (gs.map (·.1)).Nodup then .ok (.dic gs) else .stuck := nr rfl
@[simp] theorem run_dRest : dRest i ρ = (match ρ[i]? with
  | some (some (.dr d)) => .ok (.int d.rest)
  | _ => .stuck) := nr rfl
@[simp] theorem run_dTurn : dTurn i ρ = (match ρ[i]? with
  | some (some (.dr d)) => .ok (.int d.turn)
  | _ => .stuck) := nr rfl
@[simp] theorem run_dCells : dCells i ρ = (match ρ[i]? with
  | some (some (.dr d)) => .ok (.lst (d.cells.map D.int))
  | _ => .stuck) := nr rfl
@[simp] theorem run_dLarge : dLarge i ρ = (match ρ[i]? with
  | some (some (.dr d)) => .ok (.lst (d.large.map D.int))
  | _ => .stuck) := nr rfl
-- M
@[simp] theorem run_mE : mE f ρ = (f ρ).toM ρ := nr rfl
@[simp] theorem run_vM : vM fm ρ = (fm ρ).bind fun d ρ => .ok (.fz d) ρ := nr rfl
@[simp] theorem run_vE : vE f ρ = ((f ρ).map Sl.fz).toM ρ := nr rfl
@[simp] theorem run_vN : vN gs ρ = ((gs ρ).map Sl.ml).toM ρ := nr rfl
@[simp] theorem run_nM : nM gs ρ = (gs ρ).toM ρ := nr rfl
@[simp] theorem run_lM {h : S → M (List D)} : lM h ρ = (h ρ).bind fun ds ρ => .ok (.lst ds) ρ := nr rfl
@[simp] theorem run_vMN {h : S → M (List D)} : vMN h ρ = (h ρ).bind fun ds ρ => .ok (.ml ds) ρ := nr rfl
@[simp] theorem run_m2 {k : D → D → R D} : m2 k fm gm ρ = (fm ρ).bind fun x ρ1 => (gm ρ1).bind fun y ρ2 => (k x y).toM ρ2 := nr rfl
@[simp] theorem run_mTest : mTest fm ρ = (fm ρ).lift asB := nr rfl
@[simp] theorem run_mT {p : S → R Bool} : mT p ρ = (p ρ).toM ρ := nr rfl
@[simp] theorem run_mAnd {p q : S → M Bool} : mAnd p q ρ = (p ρ).bind fun x ρ => if x then q ρ else .ok false ρ := nr rfl
@[simp] theorem run_mOr {p q : S → M Bool} : mOr p q ρ = (p ρ).bind fun x ρ => if x then .ok true ρ else q ρ := nr rfl
@[simp] theorem run_mNot {p : S → M Bool} : mNot p ρ = (p ρ).bind fun x ρ => .ok (!x) ρ := nr rfl
@[simp] theorem run_mAndV : mAndV fm gm ρ = ((fm ρ).lift asB).bind fun b ρ => if b then gm ρ else .ok (.bl false) ρ := nr rfl
@[simp] theorem run_mOrV : mOrV fm gm ρ = ((fm ρ).lift asB).bind fun b ρ => if b then .ok (.bl true) ρ else gm ρ := nr rfl
@[simp] theorem run_mNotV : mNotV fm ρ = ((fm ρ).lift asB).bind fun b ρ => .ok (.bl (!b)) ρ := nr rfl
@[simp] theorem run_mIf {c : S → M Bool} : mIf c fm gm ρ = (c ρ).bind fun b ρ => if b then fm ρ else gm ρ := nr rfl
@[simp] theorem run_mNil : mNil ρ = .ok [] ρ := nr rfl
@[simp] theorem run_mCons {h : S → M (List D)} : mCons fm h ρ = (fm ρ).bind fun x ρ => (h ρ).bind fun xs ρ => .ok (x :: xs) ρ := nr rfl
@[simp] theorem run_mA {k : List D → R D} {h : S → M (List D)} : mA k h ρ = (h ρ).lift k := nr rfl
@[simp] theorem run_mAN {k : List D → R (List D)} {h : S → M (List D)} : mAN k h ρ = (h ρ).lift k := nr rfl
@[simp] theorem run_fItems : fItems fm ρ = (fm ρ).lift D.items := nr rfl
@[simp] theorem run_fMapA {k : List D → R (List D)} {h : S → M (List D)} : fMapA k h ρ = (h ρ).lift k := nr rfl
@[simp] theorem run_asgN : asgN i d ρ = if i < ρ.length then some (ρ.set i (some (.fz d))) else none := nr rfl
@[simp] theorem run_asgT_tup {as : List D → S → Option S} {ds : List D} : asgT as (.tup ds) ρ = as ds ρ := nr rfl
@[simp] theorem run_asgT_pr {as : List D → S → Option S} {ds : List D} : asgT as (.pr ds) ρ = as ds ρ := nr rfl
@[simp] theorem run_asgNil : asgNil [] ρ = some ρ := nr rfl
@[simp] theorem run_asgCons {a : D → S → Option S} {b : List D → S → Option S} {ds : List D} : asgCons a b (d :: ds) ρ = (a d ρ).bind (b ds) := nr rfl
@[simp] theorem run_mAppend : mAppend i fm ρ = (match ρ[i]? with
  | some (some (.ml _)) => (fm ρ).bind fun d ρ1 => match ρ1[i]? with
    | some (some (.ml ds)) => if ds.length < sizeLine then .ok .non (ρ1.set i (some (.ml (ds ++ [d])))) else .stuck
    | _ => .stuck
  | _ => .stuck) := nr rfl
@[simp] theorem run_mPop : mPop i ρ = (match ρ[i]? with
  | some (some (.ml ds)) => match ds[ds.length - 1]? with
    | some d => .ok d (ρ.set i (some (.ml ds.dropLast)))
    | none => .stuck
  | _ => .stuck) := nr rfl
@[simp] theorem run_mPopAt : mPopAt i fm ρ = (match ρ[i]? with
  | some (some (.ml _)) => (fm ρ).bind fun d ρ1 => match d, ρ1[i]? with
    | .int j, some (some (.ml ds)) => match ixN ds.length j with
      | some k => match ds[k]? with
        | some d => if j.natAbs < 2 ^ 63 then .ok d (ρ1.set i (some (.ml (ds.eraseIdx k)))) else .stuck
        | none => .stuck
      | none => .stuck
    | _, _ => .stuck
  | _ => .stuck) := nr rfl
@[simp] theorem run_mRev : mRev i ρ = (match ρ[i]? with
  | some (some (.ml ds)) => .ok .non (ρ.set i (some (.ml ds.reverse)))
  | _ => .stuck) := nr rfl
@[simp] theorem run_mClear : mClear i ρ = (match ρ[i]? with
  | some (some (.ml _)) => .ok .non (ρ.set i (some (.ml [])))
  | _ => .stuck) := nr rfl
@[simp] theorem run_mD {F : Dr → List D → Option (D × Dr)} {h : S → M (List D)} : mD i F h ρ = (match ρ[i]? with
  | some (some (.dr _)) => (h ρ).bind fun ds ρ1 => match ρ1[i]? with
    | some (some (.dr d)) => match F d ds with
      | some (e, d') => .ok e (ρ1.set i (some (.dr d')))
      | none => .stuck
    | _ => .stuck
  | _ => .stuck) := nr rfl
@[simp] theorem run_mDN {F : Dr → List D → Option (List D × Dr)} {h : S → M (List D)} : mDN i F h ρ = (match ρ[i]? with
  | some (some (.dr _)) => (h ρ).bind fun ds ρ1 => match ρ1[i]? with
    | some (some (.dr d)) => match F d ds with
      | some (e, d') => .ok e (ρ1.set i (some (.dr d')))
      | none => .stuck
    | _ => .stuck
  | _ => .stuck) := nr rfl
@[simp] theorem run_mPopL : mPopL i ρ = (match ρ[i]? with
  | some (some (.dr d)) => match d.large with
    | n :: ns => .ok (.int n) (ρ.set i (some (.dr { d with large := ns })))
    | [] => .stuck
  | _ => .stuck) := nr rfl
-- statements
variable {p q : S → M Fl}
def seqK (q : S → M Fl) : Fl → S → M Fl
  | .nx, ρ => q ρ
  | .bk, ρ => .ok .bk ρ
  | .ct, ρ => .ok .ct ρ
  | .rt d, ρ => .ok (.rt d) ρ
  | .rn ds, ρ => .ok (.rn ds) ρ
@[simp] theorem run_sSeq : sSeq p q ρ = (p ρ).bind (seqK q) := by
  unfold sSeq
  cases p ρ with
  | ok fl ρ' => cases fl <;> rfl
  | raise x ρ' => rfl
  | stuck => rfl
@[simp] theorem seqK_nx : seqK q .nx ρ = q ρ := nr rfl
@[simp] theorem seqK_bk : seqK q .bk ρ = .ok .bk ρ := nr rfl
@[simp] theorem seqK_ct : seqK q .ct ρ = .ok .ct ρ := nr rfl
@[simp] theorem seqK_rt : seqK q (.rt d) ρ = .ok (.rt d) ρ := nr rfl
@[simp] theorem seqK_rn {ds : List D} : seqK q (.rn ds) ρ = .ok (.rn ds) ρ := nr rfl
@[simp] theorem run_sNext : sNext ρ = .ok .nx ρ := nr rfl
@[simp] theorem run_sPass : sPass ρ = .ok .nx ρ := nr rfl
@[simp] theorem run_sBreak : sBreak ρ = .ok .bk ρ := nr rfl
@[simp] theorem run_sCont : sCont ρ = .ok .ct ρ := nr rfl
@[simp] theorem run_sRet : sRet fm ρ = (fm ρ).bind fun d ρ => .ok (.rt d) ρ := nr rfl
@[simp] theorem run_sRetN : sRetN gs ρ = ((gs ρ).map Fl.rn).toM ρ := nr rfl
@[simp] theorem run_sRetMN {h : S → M (List D)} : sRetMN h ρ = (h ρ).bind fun ds ρ => .ok (.rn ds) ρ := nr rfl
@[simp] theorem run_sSet {fv : S → M Sl} : sSet i fv ρ = (fv ρ).bind fun sl ρ => if i < ρ.length then .ok .nx (ρ.set i (some sl)) else .stuck := nr rfl
@[simp] theorem run_sDrop : sDrop fm ρ = (fm ρ).bind fun _ ρ => .ok .nx ρ := nr rfl
@[simp] theorem run_sIf {c : S → M Bool} : sIf c p q ρ = (c ρ).bind fun b ρ => if b then p ρ else q ρ := nr rfl
@[simp] theorem run_sFor {h : S → M (List D)} {asg : D → S → Option S} : sFor h asg p ρ = (h ρ).bind fun ds ρ => loop asg p ds ρ := nr rfl
@[simp] theorem run_sFrz : sFrz i p ρ = p (frz i ρ) := nr rfl
@[simp] theorem run_frz : frz i ρ = (match ρ[i]? with
  | some (some (.ml ds)) => ρ.set i (some (.fz (.lst ds)))
  | _ => ρ) := nr rfl
@[simp] theorem run_sRest : sRest i fm ρ = (fm ρ).bind fun e ρ1 => match e, ρ1[i]? with
  | .int n, some (some (.dr d)) => .ok .nx (ρ1.set i (some (.dr { d with rest := n })))
  | _, _ => .stuck := nr rfl
@[simp] theorem run_sTurn : sTurn i fm ρ = (fm ρ).bind fun e ρ1 => match e, ρ1[i]? with
  | .int n, some (some (.dr d)) => .ok .nx (ρ1.set i (some (.dr { d with turn := n })))
  | _, _ => .stuck := nr rfl
@[simp] theorem run_sRaise {c a : Str} : sRaise c a fm ρ = (fm ρ).bind fun d ρ1 => .raise ⟨c, [(a, d)]⟩ ρ1 := nr rfl
@[simp] theorem run_evalNil : evalTo [] ρ = .ok () ρ := nr rfl
@[simp] theorem run_evalCons {f : S → M Sl} {r : List (Nat × (S → M Sl))} {j : Nat} : evalTo ((j, f) :: r) ρ = (f ρ).bind fun sl ρ1 => if j < ρ1.length then evalTo r (ρ1.set j (some sl)) else .stuck := nr rfl
@[simp] theorem run_moveNil : moveTo [] ρ = .ok .nx ρ := nr rfl
@[simp] theorem run_moveCons {r : List (Nat × Nat)} {j : Nat} : moveTo ((j, i) :: r) ρ = (match ρ[j]? with
  | some (some sl) => if i ≠ j ∧ i < ρ.length then moveTo r ((ρ.set i (some sl)).set j none) else .stuck
  | _ => .stuck) := nr rfl
@[simp] theorem run_sPar {ds is : List Nat} {fs : List (S → M Sl)} : sPar ds is fs ρ = (evalTo (ds.zip fs) ρ).bind fun _ ρ1 => moveTo (ds.zip is) ρ1 := nr rfl
@[simp] theorem run_mCaught {errs : List Str} : mCaught errs fm ρ = (match fm ρ with
  | .ok _ ρ' => .ok .non ρ'
  | .raise x ρ' => if errs.contains x.c = true then .ok (.exc x.c x.fs) ρ' else .stuck
  | .stuck => .stuck) := nr rfl
end
/-! ### loops -/
section
variable {asg : D → S → Option S} {body : S → M Fl}
/-- a loop that runs to its end -/
theorem loop_inv (I : List D → S → Prop) (step : ∀ d ds ρ, I (d :: ds) ρ → ∃ ρ1 ρ2, asg d ρ = some ρ1 ∧ (body ρ1 = .ok .nx ρ2 ∨ body ρ1 = .ok .ct ρ2) ∧ I ds ρ2) : ∀ ds ρ, I ds ρ → ∃ ρ', loop asg body ds ρ = .ok .nx ρ' ∧ I [] ρ'
  | [], ρ, h => ⟨ρ, rfl, h⟩
  | d :: ds, ρ, h => by
    obtain ⟨ρ1, ρ2, e1, e2, h2⟩ := step d ds ρ h
    obtain ⟨ρ', e3, h3⟩ := loop_inv I step ds ρ2 h2
    refine ⟨ρ', ?_, h3⟩
    unfold loop
    rw [e1]
    rcases e2 with e2 | e2 <;> (simp only [e2, M.bind]; exact e3)
/-- a loop that may be left by a value -/
theorem loop_ret (I : List D → S → Prop) (Z : D → S → Prop) (step : ∀ d ds ρ, I (d :: ds) ρ → ∃ ρ1, asg d ρ = some ρ1 ∧ ((∃ ρ2, (body ρ1 = .ok .nx ρ2 ∨ body ρ1 = .ok .ct ρ2) ∧ I ds ρ2) ∨ ∃ e ρ2, body ρ1 = .ok (.rt e) ρ2 ∧ Z e ρ2)) :
    ∀ ds ρ, I ds ρ → (∃ ρ', loop asg body ds ρ = .ok .nx ρ' ∧ I [] ρ') ∨ ∃ e ρ', loop asg body ds ρ = .ok (.rt e) ρ' ∧ Z e ρ'
  | [], ρ, h => .inl ⟨ρ, rfl, h⟩
  | d :: ds, ρ, h => by
    obtain ⟨ρ1, e1, ⟨ρ2, e2, h2⟩ | ⟨e, ρ2, e2, h2⟩⟩ := step d ds ρ h
    · have ih := loop_ret I Z step ds ρ2 h2
      have un : loop asg body (d :: ds) ρ = loop asg body ds ρ2 := by
        conv => lhs; unfold loop
        rw [e1]
        rcases e2 with e2 | e2 <;> simp only [e2, M.bind]
      rw [un]
      exact ih
    · refine .inr ⟨e, ρ2, ?_, h2⟩
      unfold loop
      rw [e1]
      simp only [e2, M.bind]
/-- a while by a measure -/
theorem while_inv {t : S → M Bool} (I : Nat → S → Prop) (Z : S → Prop) (step : ∀ m ρ, I m ρ → ∃ ρ1, (t ρ = .ok false ρ1 ∧ Z ρ1) ∨ (t ρ = .ok true ρ1 ∧ ∃ ρ2 m', m' < m ∧ (body ρ1 = .ok .nx ρ2 ∨ body ρ1 = .ok .ct ρ2) ∧ I m' ρ2)) :
    ∀ n m ρ, m < n → I m ρ → ∃ ρ', whileN t body n ρ = .ok .nx ρ' ∧ Z ρ'
  | 0, m, ρ, h, _ => absurd h (Nat.not_lt_zero _)
  | n + 1, m, ρ, h, i => by
    obtain ⟨ρ1, ⟨e, z⟩ | ⟨e, ρ2, m', lt, e2, i2⟩⟩ := step m ρ i
    · refine ⟨ρ1, ?_, z⟩
      unfold whileN
      simp [e, M.bind]
    · obtain ⟨ρ', e3, z⟩ := while_inv I Z step n m' ρ2 (by omega) i2
      refine ⟨ρ', ?_, z⟩
      unfold whileN
      rcases e2 with e2 | e2 <;> (simp only [e, M.bind, if_true, e2]; exact e3)
end
/-! ### values -/
@[simp] theorem asB_bl {b : Bool} : asB (.bl b) = .ok b := nr rfl
@[simp] theorem opAdd_int {i j : Int} : opAdd (.int i) (.int j) = .ok (.int (i + j)) := nr rfl
@[simp] theorem opI_int {C : Int → Int → Bool} {g : Int → Int → D} {i j : Int} : opI C g (.int i) (.int j) = if C i j then .ok (g i j) else .stuck := nr rfl
@[simp] theorem bInt_int {i : Int} : bInt (.int i) = .ok (.int i) := nr rfl
@[simp] theorem bLen_lst {ds : List D} : bLen (.lst ds) = .ok (.int ds.length) := nr rfl
@[simp] theorem bLen_tup {ds : List D} : bLen (.tup ds) = .ok (.int ds.length) := nr rfl
@[simp] theorem bLen_scr {ns : List Int} : bLen (.scr ns) = .ok (.int ns.length) := nr rfl
@[simp] theorem bList_lst {ds : List D} : bList (.lst ds) = .ok ds := nr rfl
@[simp] theorem bList_tup {ds : List D} : bList (.tup ds) = .ok ds := nr rfl
@[simp] theorem bTuple_lst {ds : List D} : bTuple (.lst ds) = .ok (.tup ds) := nr rfl
@[simp] theorem bTuple_tup {ds : List D} : bTuple (.tup ds) = .ok (.tup ds) := nr rfl
@[simp] theorem items_lst {ds : List D} : D.items (.lst ds) = .ok ds := nr rfl
@[simp] theorem items_tup {ds : List D} : D.items (.tup ds) = .ok ds := nr rfl
@[simp] theorem items_scr {ns : List Int} : D.items (.scr ns) = .ok (ns.map D.int) := nr rfl
@[simp] theorem negR_int {i : Int} : negR (.int i) = .ok (.int (-i)) := nr rfl
@[simp] theorem asO_int {i : Int} : asO (.int i) = .ok (some i) := nr rfl
@[simp] theorem opIx_lst {ds : List D} {i : Int} : opIx (.lst ds) (.int i) = R.ofOpt (atI ds i) := nr rfl
@[simp] theorem opIx_tup {ds : List D} {i : Int} : opIx (.tup ds) (.int i) = R.ofOpt (atI ds i) := nr rfl
@[simp] theorem opSl_lst {ds : List D} {l h : Option Int} : opSl (.lst ds) l h = .ok (.lst (cutL ds l h)) := nr rfl
@[simp] theorem opSl_tup {ds : List D} {l h : Option Int} : opSl (.tup ds) l h = .ok (.tup (cutL ds l h)) := nr rfl
@[simp] theorem opAdd_tup {a b : List D} : opAdd (.tup a) (.tup b) = if a.length + b.length ≤ sizeLine then .ok (.tup (a ++ b)) else .stuck := nr rfl
@[simp] theorem opAdd_lst {a b : List D} : opAdd (.lst a) (.lst b) = if a.length + b.length ≤ sizeLine then .ok (.lst (a ++ b)) else .stuck := nr rfl
@[simp] theorem range1_int {n : Int} : toRange1 [.int n] = if n.natAbs < 2 ^ 62 then .ok (rangeD 0 n.toNat) else .stuck := nr rfl
@[simp] theorem range2_int {a b : Int} : toRange2 [.int a, .int b] = if a.natAbs < 2 ^ 62 ∧ b.natAbs < 2 ^ 62 then .ok (rangeD a (b - a).toNat) else .stuck := nr rfl
/-! ### equality, showing -/
@[simp] theorem szl : sizeLine = 16777216 := sizeLine_eq
@[simp] theorem bAbs_int {i : Int} : bAbs (.int i) = .ok (.int (if i < 0 then -i else i)) := nr rfl
@[simp] theorem rgR_int {n : Int} : rgR (.int n) = if n.natAbs ≤ 16777216 then .ok (rangeD 0 n.toNat) else .stuck := nr rfl
@[simp] theorem py_int {i : Int} : (D.int i).py = some (.int i) := nr rfl
@[simp] theorem py_bl {b : Bool} : (D.bl b).py = some (.bool b) := nr rfl
@[simp] theorem py_non : D.non.py = some .none := nr rfl
@[simp] theorem py_str {s : Str} : (D.str s).py = some (.str s) := nr rfl
@[simp] theorem py_tup {ds : List D} : (D.tup ds).py = (pyAll ds).map .tuple := nr rfl
@[simp] theorem py_lst {ds : List D} : (D.lst ds).py = (pyAll ds).map .list := nr rfl
@[simp] theorem pyAll_nil : pyAll [] = some [] := nr rfl
@[simp] theorem pyAll_cons {d : D} {ds : List D} : pyAll (d :: ds) = (D.py d).bind fun y => (pyAll ds).map fun ys => y :: ys := nr rfl
@[simp] theorem pyAll_ints (ns : List Int) : pyAll (ns.map D.int) = some (ns.map PyData.int) := by
  induction ns with
  | nil => rfl
  | cons n r ih => simp only [List.map_cons, pyAll_cons, py_int, ih]; rfl
theorem pyAll_app : ∀ {a b : List D} {x y : List PyData}, pyAll a = some x → pyAll b = some y → pyAll (a ++ b) = some (x ++ y)
  | [], _, _, _, h, g => by cases h; exact g
  | d :: a, b, x, y, h, g => by
    rw [pyAll_cons] at h
    cases q : D.py d with
    | none => rw [q] at h; cases h
    | some e =>
      cases r : pyAll a with
      | none => rw [q, r] at h; cases h
      | some es =>
        rw [q, r] at h; cases h
        rw [List.cons_append, pyAll_cons, q, pyAll_app r g]; rfl
@[simp] theorem depthAll_ints (ns : List Int) : PyData.depthAll (ns.map PyData.int) = 0 := by
  induction ns with
  | nil => rfl
  | cons n r ih => simp only [List.map_cons, PyData.depthAll, ih, PyData.depth]; rfl
theorem beq_dec (i j : Int) : (i == j) = decide (i = j) := by
  rw [Bool.eq_iff_iff]
  simp
@[simp] theorem eqvAll_ints (ns : List Int) : ∀ ms : List Int, PyData.eqvAll (ns.map PyData.int) (ms.map PyData.int) = decide (ns = ms) := by
  induction ns with
  | nil => intro ms; cases ms <;> simp [PyData.eqvAll]
  | cons n r ih =>
    intro ms
    cases ms with
    | nil => simp [PyData.eqvAll]
    | cons m q => simp [PyData.eqvAll, PyData.eqv, ih, Bool.decide_and, beq_dec]
theorem opEqB_py {neg : Bool} {a b : D} {x y : PyData} (h1 : a.py = some x) (h2 : b.py = some y) (hz : min x.depth y.depth ≤ 60) : opEqB neg a b = .ok (.bl (neg ^^ PyData.eqv x y)) := by
  unfold opEqB
  rw [h1, h2]
  exact if_pos hz
theorem py_lsti {ns : List Int} : (D.lst (ns.map D.int)).py = some (.list (ns.map PyData.int)) := by rw [py_lst, pyAll_ints]; rfl
theorem py_tupi {ns : List Int} : (D.tup (ns.map D.int)).py = some (.tuple (ns.map PyData.int)) := by rw [py_tup, pyAll_ints]; rfl
theorem dp_lsti {ns : List Int} : (PyData.list (ns.map PyData.int)).depth = 1 := by simp [PyData.depth]
theorem dp_tupi {ns : List Int} : (PyData.tuple (ns.map PyData.int)).depth = 1 := by simp [PyData.depth]
@[simp] theorem opEqB_int {neg : Bool} {i j : Int} : opEqB neg (.int i) (.int j) = .ok (.bl (neg ^^ decide (i = j))) := by
  rw [opEqB_py (x := .int i) (y := .int j) rfl rfl (by simp [PyData.depth])]
  simp [PyData.eqv, beq_dec]
@[simp] theorem opEqB_str {neg : Bool} {i j : Str} : opEqB neg (.str i) (.str j) = .ok (.bl (neg ^^ (i == j))) := by
  rw [opEqB_py (x := .str i) (y := .str j) rfl rfl (by simp [PyData.depth])]
  simp [PyData.eqv]
@[simp] theorem opEqB_lsti {neg : Bool} {i j : List Int} : opEqB neg (.lst (i.map D.int)) (.lst (j.map D.int)) = .ok (.bl (neg ^^ decide (i = j))) := by
  rw [opEqB_py py_lsti py_lsti (by rw [dp_lsti, dp_lsti]; decide)]
  simp [PyData.eqv]
@[simp] theorem opEqB_tupi {neg : Bool} {i j : List Int} : opEqB neg (.tup (i.map D.int)) (.tup (j.map D.int)) = .ok (.bl (neg ^^ decide (i = j))) := by
  rw [opEqB_py py_tupi py_tupi (by rw [dp_tupi, dp_tupi]; decide)]
  simp [PyData.eqv]
theorem pyAll_len : ∀ {ds : List D} {es : List PyData}, pyAll ds = some es → es.length = ds.length
  | [], _, h => by cases h; rfl
  | d :: r, _, h => by
    rw [pyAll_cons] at h
    cases q : D.py d with
    | none => rw [q] at h; cases h
    | some e =>
      cases r2 : pyAll r with
      | none => rw [q, r2] at h; cases h
      | some es => rw [q, r2] at h; cases h; simp [pyAll_len r2]
/-- a list beside the empty one -/
theorem opEqB_nil {neg : Bool} {ds : List D} {es : List PyData} (h : pyAll ds = some es) : opEqB neg (.lst ds) (.lst []) = .ok (.bl (neg ^^ ds.isEmpty)) := by
  rw [opEqB_py (a := .lst ds) (b := .lst []) (x := .list es) (y := .list []) (by rw [py_lst, h]; rfl) rfl (by show min _ (0 + 1) ≤ 60; omega)]
  have l := pyAll_len h
  cases ds <;> cases es <;> simp_all [PyData.eqv, PyData.eqvAll]
/-- the same tree -/
theorem opEqB_self {neg : Bool} {d : D} {e : PyData} (h : d.py = some e) (hz : e.depth ≤ 60) : opEqB neg d d = .ok (.bl (!neg)) := by
  rw [opEqB_py h h (by rw [Nat.min_self]; exact hz), SeqAt.eqv_refl_plain e (py_plain h), Bool.xor_true]
@[simp] theorem opEqB_lsti_nil {neg : Bool} {i : List Int} : opEqB neg (.lst (i.map D.int)) (.lst []) = .ok (.bl (neg ^^ decide (i = []))) := opEqB_lsti (j := [])
@[simp] theorem drOf_dr {d : Dr} {ρ : S} : drOf (some (.dr d) :: ρ) = some d := nr rfl
/-! ### loops, as they are met -/
section
variable {asg : D → S → Option S} {body : S → M Fl} {t : S → M Bool}
def turn (asg : D → S → Option S) (body : S → M Fl) (d : D) (ρ : S) : M Fl := match asg d ρ with
  | some ρ1 => body ρ1
  | none => .stuck
@[simp] theorem turn_eq {d : D} {ρ : S} : turn asg body d ρ = (match asg d ρ with
  | some ρ1 => body ρ1
  | none => .stuck) := nr rfl
theorem loop_at {ds : List D} {ρ : S} {L : M Fl} (hL : loop asg body ds ρ = L) (I : List D → S → Prop) (h0 : I ds ρ) (step : ∀ d r ρ, I (d :: r) ρ → ∃ ρ2, (turn asg body d ρ = .ok .nx ρ2 ∨ turn asg body d ρ = .ok .ct ρ2) ∧ I r ρ2) : ∃ ρ', L = .ok .nx ρ' ∧ I [] ρ' := by
  rw [← hL]
  refine loop_inv I (fun d r ρ h => ?_) ds ρ h0
  obtain ⟨ρ2, e, h2⟩ := step d r ρ h
  unfold turn at e
  cases q : asg d ρ with
  | none => rw [q] at e; rcases e with e | e <;> cases e
  | some ρ1 => rw [q] at e; exact ⟨ρ1, ρ2, rfl, e, h2⟩
/-- the turns end by nx -/
theorem loop_nx {ds : List D} {ρ : S} {L : M Fl} (hL : loop asg body ds ρ = L) (I : List D → S → Prop) (h0 : I ds ρ) (step : ∀ d r ρ, I (d :: r) ρ → ∃ ρ2, turn asg body d ρ = .ok .nx ρ2 ∧ I r ρ2) : ∃ ρ', L = .ok .nx ρ' ∧ I [] ρ' :=
  loop_at hL I h0 fun d r ρ h => (step d r ρ h).imp fun _ h => ⟨.inl h.1, h.2⟩
theorem while_nx {n : Nat} {ρ : S} {L : M Fl} (hL : whileN t body n ρ = L) (I : Nat → S → Prop) (Z : S → Prop) {m : Nat} (hm : m < n) (h0 : I m ρ) (step : ∀ m ρ, I m ρ → ∃ b ρ1, t ρ = .ok b ρ1 ∧ (b = false → Z ρ1) ∧ (b = true → ∃ ρ2, body ρ1 = .ok .nx ρ2 ∧ ∃ m', m' < m ∧ I m' ρ2)) : ∃ ρ', L = .ok .nx ρ' ∧ Z ρ' := by
  rw [← hL]
  refine while_inv I Z (fun m ρ h => ?_) n m ρ hm h0
  obtain ⟨b, ρ1, e, z, k⟩ := step m ρ h
  refine ⟨ρ1, ?_⟩
  cases b with
  | false => exact .inl ⟨e, z rfl⟩
  | true =>
    obtain ⟨ρ2, e2, m', lt, i⟩ := k rfl
    exact .inr ⟨e, ρ2, m', lt, .inl e2, i⟩
end
/-- a comprehension without a test, its parts leave the slots -/
theorem comp_map {v : Nat} {ef : S → M D} (g : D → D) {ρ : S} (hv : ρ[v]? = some none) (ds : List D) (he : ∀ d ∈ ds, ef (ρ.set v (some (.fz d))) = .ok (g d) (ρ.set v (some (.fz d)))) : compM [v] (asgN v) (fun ρ => .ok true ρ) ef ds ρ = .ok (ds.map g) ρ := by
  have e := comp_ok (v := v) (tf := fun ρ => .ok true ρ) (ef := ef) (t := fun _ => true) (g := g) hv ds ρ (set_none hv) (fun _ _ => rfl) fun d hd _ => he d hd
  rw [e, List.filter_eq_self.mpr (fun _ _ => rfl)]
theorem l2_lt {n k : Nat} (h : n < 2 ^ k) (hk : 0 < k) : n.log2 < k := by
  by_cases z : n = 0
  · subst z; exact hk
  · exact (Nat.log2_lt z).mpr h
@[simp] theorem l2_9000 {n : Nat} (h : n < 2 ^ 64) : n.log2 < 9000 := Nat.lt_of_lt_of_le (l2_lt h (by decide)) (by decide)
@[simp] theorem one_is {g : D → R D} {d : D} : one g [d] = g d := nr rfl
@[simp] theorem oneN_is {g : D → R (List D)} {d : D} : oneN g [d] = g d := nr rfl
/-- the ints of range(n) -/
def rgI (n : Nat) : List Int := (List.range n).map fun (i : Nat) => (i : Int)
@[simp] theorem rangeD0 {n : Nat} : rangeD 0 n = (rgI n).map D.int := by
  unfold rangeD rgI
  rw [List.map_map]
  apply List.map_congr_left
  intro i _
  simp
@[simp] theorem rgI_len {n : Nat} : (rgI n).length = n := by simp [rgI]
theorem ixN_nat {n : Nat} {r : Int} (h0 : 0 ≤ r) (h1 : r < n) : ixN n r = some r.toNat := by
  unfold ixN
  rw [if_pos h0, if_pos h1]
theorem atI_nat {α : Type} {xs : List α} {r : Int} (h0 : 0 ≤ r) (h1 : r < xs.length) : atI xs r = xs[r.toNat]? := by
  unfold atI
  rw [ixN_nat h0 h1]; rfl
theorem atI_mem {α : Type} {xs : List α} {r : Int} (h0 : 0 ≤ r) (h1 : r < xs.length) : ∃ x, atI xs r = some x ∧ x ∈ xs := by
  rw [atI_nat h0 h1]
  have : r.toNat < xs.length := by omega
  exact ⟨xs[r.toNat], List.getElem?_eq_getElem this, List.getElem_mem this⟩
@[simp] theorem run_dVarB {i : Nat} {ρ : S} : dVarB i ρ = (match ρ[i]? with
  | some (some (.fz d)) => .ok d
  | some (some (.ml ds)) => .ok (.lst ds)
  | some (some (.md ks)) => .ok (.dic ks)
  | some (some (.mt ks)) => .ok (.dit ks)
  | _ => .stuck) := nr rfl
@[simp] theorem run_sRetO {i : Nat} {ρ : S} : sRetO i ρ = (match ρ[i]? with
  | some (some (.fz d)) => .ok (.rt d) ρ
  | some (some (.ml ds)) => .ok (.rn ds) (ρ.set i none)
  | _ => .stuck) := nr rfl
/-- the test leaves the slots -/
theorem while_p {t : S → M Bool} {body : S → M Fl} {n : Nat} {ρ : S} {L : M Fl} (hL : whileN t body n ρ = L) (I : Nat → S → Prop) (Z : S → Prop) {m : Nat} (hm : m < n) (h0 : I m ρ) (step : ∀ m ρ, I m ρ → (t ρ = .ok false ρ ∧ Z ρ) ∨ (t ρ = .ok true ρ ∧ ∃ ρ2, body ρ = .ok .nx ρ2 ∧ ∃ m', m' < m ∧ I m' ρ2)) : ∃ ρ', L = .ok .nx ρ' ∧ Z ρ' :=
  while_nx hL I Z hm h0 fun m ρ h => by
    rcases step m ρ h with ⟨e, z⟩ | ⟨e, k⟩
    · exact ⟨false, ρ, e, fun _ => z, fun w => by cases w⟩
    · exact ⟨true, ρ, e, (fun w => by cases w), fun _ => k⟩
@[simp] theorem opEqB_nilnil {neg : Bool} : opEqB neg (.lst []) (.lst []) = .ok (.bl (!neg)) := by
  have := opEqB_lsti (neg := neg) (i := []) (j := [])
  simpa using this
theorem erase_map {α β : Type} (f : α → β) : ∀ (l : List α) (k : Nat), (l.map f).eraseIdx k = (l.eraseIdx k).map f
  | [], _ => rfl
  | _ :: _, 0 => rfl
  | a :: l, k + 1 => by simp [List.eraseIdx, erase_map f l k]
theorem erase_perm {α : Type} : ∀ (l : List α) (k : Nat) (h : k < l.length), (l[k] :: l.eraseIdx k).Perm l
  | [], _, h => by cases h
  | _ :: _, 0, _ => .refl _
  | a :: l, k + 1, h => by
    simp only [List.getElem_cons_succ, List.eraseIdx]
    exact (List.Perm.swap ..).trans (List.Perm.cons a (erase_perm l k (by simpa using h)))
@[simp] theorem run_sSetI {i : Nat} {fm gm : S → M D} {ρ : S} : sSetI i fm gm ρ = (fm ρ).bind fun d ρ1 => match ρ1[i]? with
  | some (some (.ml _)) => (gm ρ1).bind fun k ρ2 => match k, ρ2[i]? with
    | .int n, some (some (.ml ds)) => match ixN ds.length n with
      | some j => .ok .nx (ρ2.set i (some (.ml (ds.set j d))))
      | none => .stuck
    | _, _ => .stuck
  | _ => .stuck := nr rfl
@[simp] theorem run_sFldD {i : Nat} {c f : Str} {fm : S → M D} {ρ : S} : sFldD i c f fm ρ = (fm ρ).bind fun d ρ1 => match ρ1[i]? with
  | some (some (.mi c' fs)) => if c' = c ∧ fs.length < 1000 then .ok .nx (ρ1.set i (some (.mi c' (putD f d fs)))) else .stuck
  | _ => .stuck := nr rfl
@[simp] theorem objR_eq {c : Str} {r : R (List (Str × D))} : objR c r = r.map (D.obj c) := nr rfl
end TP
set_option Elab.async false
set_option linter.all false
set_option maxRecDepth 100000
set_option maxHeartbeats 2001234
/-! Tree programs: the head's facts as Booleans. -/
namespace TP
open PySem L2 PyProof.Rows PySem.Spec LamX
theorem bb {a b : Bool} (h : (a && b) = true) : a = true ∧ b = true := Bool.and_eq_true_iff.mp h
section
variable {K : PySem.W.Frag} {mg : Str → Option Value} {C : Addr}
def oexB (K : PySem.W.Frag) (C : Addr) : Bool := (match K.lookup C with
  | some ⟨.type t, _, .cls cd, sl⟩ => (match cd.mro, sl.toList with
    | .ref C' :: bm, [_, _, _, _, some (.builtin n), _] => decide (t = "type") && (decide (C' = C) && (decide (n = "ValueError.__new__") && (!cd.hasDel && (cd.hasDict && PySem.HandSPX.refsVE bm))))
    | _, _ => false)
  | _ => false) && (He.eqO (PySem.W.findIn K (.ref C) "__setattr__") (some (some (.builtin "object.__setattr__"))) && (decide (PySem.W.subIn K (.ref C) (.type "BaseException") = some true) && (decide (PySem.W.typeIn K (.ref C) = some (.type "type")) && PySem.W.keepIn K (.ref C))))
theorem oexB_ok (h : oexB K C = true) : L2.OexC K C := by
  obtain ⟨h1, h2⟩ := bb h
  obtain ⟨h2, h3⟩ := bb h2
  obtain ⟨h3, h4⟩ := bb h3
  obtain ⟨h4, h5⟩ := bb h4
  refine ⟨?_, He.eqO_ok h2, of_decide_eq_true h3, of_decide_eq_true h4, h5⟩
  split at h1
  · rename_i t dd cd sl ho
    split at h1
    · rename_i C' bm k0 k1 k2 k3 n₀ k5 hm hs
      simp only [Bool.and_eq_true, decide_eq_true_eq, Bool.not_eq_true'] at h1
      obtain ⟨rfl, rfl, rfl, e1, e2, e3⟩ := h1
      obtain ⟨nm, bs, mro, ns, qn, hd₀, sn, sub, ab, col, del⟩ := cd
      dsimp only at hm e1 e2
      subst hm e1 e2
      have es : sl = #[k0, k1, k2, k3, some (.builtin "ValueError.__new__"), k5] := by
        obtain ⟨l⟩ := sl
        simp only at hs
        rw [hs]
      subst es
      exact ⟨_, _, _, _, _, _, _, _, _, _, _, _, _, _, _, ho, e3⟩
    · cases h1
  · cases h1
def excB (K : PySem.W.Frag) (C : Addr) : Bool := He.eqO (PySem.W.findIn K (.ref C) "__getattribute__") (some (some (.builtin "BaseException.__getattribute__"))) && (He.eqO (PySem.W.findIn K (.ref C) "__getattr__") (some none) && (decide (PySem.W.subIn K (.ref C) (.type "BaseException") = some true) &&
  (PySem.W.hasDictIn K C && (He.eqO (PySem.W.findIn K (.ref C) "__class__") (some (some (.builtin "object.__class__"))) && (He.eqO (PySem.W.specialIn K (.builtin "object.__class__") "__get__") (some (some (.builtin "getset_descriptor.__get__"))) &&
    (decide (PySem.W.takesIn K (.builtin "object.__class__") = some true) && decide (PySem.W.mroIn K C (.type "object") = some true)))))))
theorem excB_ok (h : excB K C = true) : L2.ExcC K C := by
  obtain ⟨h1, h⟩ := bb h
  obtain ⟨h2, h⟩ := bb h
  obtain ⟨h3, h⟩ := bb h
  obtain ⟨h4, h⟩ := bb h
  obtain ⟨h5, h⟩ := bb h
  obtain ⟨h6, h⟩ := bb h
  obtain ⟨h7, h8⟩ := bb h
  exact ⟨He.eqO_ok h1, He.eqO_ok h2, of_decide_eq_true h3, h4, He.eqO_ok h5, He.eqO_ok h6, of_decide_eq_true h7, of_decide_eq_true h8⟩
def clsB (K : PySem.W.Frag) (C : Addr) : Bool := PySem.W.plainGet K C Str.empty && (PySem.W.hasDictIn K C && (PySem.W.plainOver K C && He.eqO (PySem.W.findIn K (.ref C) "__setattr__") (some (some (.builtin "object.__setattr__")))))
theorem clsB_ok (h : clsB K C = true) : Cls K C := by
  obtain ⟨h1, h⟩ := bb h
  obtain ⟨h2, h⟩ := bb h
  obtain ⟨h3, h4⟩ := bb h
  exact ⟨h1, h2, h3, He.eqO_ok h4⟩
def insB (K : PySem.W.Frag) (C : Addr) : Bool := clsB K C && (He.eqO (PySem.W.findIn K (.ref C) "__class__") (some (some (.builtin "object.__class__"))) && (He.eqO (PySem.W.specialIn K (.builtin "object.__class__") "__get__") (some (some (.builtin "getset_descriptor.__get__"))) &&
    (decide (PySem.W.takesIn K (.builtin "object.__class__") = some true) && decide (PySem.W.mroIn K C (.type "object") = some true))))
theorem insB_ok (h : insB K C = true) : InsF K C := by
  obtain ⟨h1, h⟩ := bb h
  obtain ⟨h5, h⟩ := bb h
  obtain ⟨h6, h⟩ := bb h
  obtain ⟨h7, h8⟩ := bb h
  exact ⟨clsB_ok h1, He.eqO_ok h5, He.eqO_ok h6, of_decide_eq_true h7, of_decide_eq_true h8⟩
def eqB (K : PySem.W.Frag) (C f : Addr) : Bool := He.eqO (PySem.W.findIn K (.ref C) "__eq__") (some (some (.ref f))) && (PySem.W.isFn K (.ref f) && (He.eqO (PySem.W.findIn K (.ref C) "__ne__") (some (some (.builtin "object.__ne__"))) && decide (PySem.W.mroIn K C (.type "object") = some true)))
theorem eqB_ok {f : Addr} (h : eqB K C f = true) : EqF K C f := by
  obtain ⟨h1, h⟩ := bb h
  obtain ⟨h2, h⟩ := bb h
  obtain ⟨h3, h4⟩ := bb h
  exact ⟨He.eqO_ok h1, h2, He.eqO_ok h3, of_decide_eq_true h4⟩
def xfB (K : PySem.W.Frag) (C : Addr) (f : Str) : Bool := L2.xfB K C && He.eqO (PySem.W.findIn K (.ref C) f) (some none)
def sysB (K : PySem.W.Frag) : Bool := match K.lookup sysModules with
  | some ⟨.type t, _, _, _⟩ => decide (t = "dict")
  | _ => false
theorem sysB_ok (h : sysB K = true) : SysIn K := by
  unfold sysB at h
  split at h
  · rename_i ho
    exact ⟨_, ho, congrArg Value.type (of_decide_eq_true h)⟩
  · cases h
/-- where a kind's class stands -/
def Cn.at_ (K : PySem.W.Frag) : Cn → Value
  | .ty n => .type n
  | .own c => .ref (He.ga K c)
/-- the own names stand for what K says -/
def GaAll (K : PySem.W.Frag) (mg : Str → Option Value) (l : List Str) : Prop := ∀ c ∈ l, mg c = some (.ref (He.ga K c))
def Cn.nms : List Cn → List Str
  | [] => []
  | .ty _ :: r => Cn.nms r
  | .own c :: r => c :: Cn.nms r
theorem nms_mem {c : Str} : ∀ {l : List Cn}, Cn.own c ∈ l → c ∈ Cn.nms l
  | [], h => by cases h
  | .ty n :: r, h => by
    rcases List.mem_cons.mp h with h | h
    · cases h
    · exact nms_mem (l := r) h
  | .own d :: r, h => by
    rcases List.mem_cons.mp h with h | h
    · cases h; exact List.mem_cons_self ..
    · exact List.mem_cons_of_mem _ (nms_mem (l := r) h)
theorem at_val {k : Cn} {ks : List Cn} (G : GaAll K mg (Cn.nms ks)) (hk : k ∈ ks) {t : Value} (h : k.val mg = some t) : t = k.at_ K := by
  cases k with
  | ty n => cases h; rfl
  | own c =>
    have e := G c (nms_mem hk)
    simp only [Cn.val, e] at h
    cases h; rfl
def koB (K : PySem.W.Frag) (ks : List Cn) (u : Cn) (sub : Cn → Bool) : Bool := ks.all fun k => decide (PySem.W.kitOne K (k.at_ K) (u.at_ K) = some (sub k))
theorem koB_ok {ks : List Cn} {u : Cn} {sub : Cn → Bool} (G : GaAll K mg (Cn.nms ks)) (hu : u ∈ ks) (h : koB K ks u sub = true) : KoF K mg ks u sub := fun k hk t w ht hw => by
  rw [at_val G hk ht, at_val G hu hw]
  exact of_decide_eq_true (List.all_eq_true.mp h k hk)
def nfB (K : PySem.W.Frag) (c : Str) (ks : List Cn) : Bool := ks.all fun k => PySem.W.notFirst K (He.ga K c) (k.at_ K)
theorem nfB_ok {ks : List Cn} {c : Str} (G : GaAll K mg (Cn.nms ks)) (hc : mg c = some (.ref (He.ga K c))) (h : nfB K c ks = true) : NfF K mg c ks := fun k hk C t hC ht => by
  rw [hc] at hC
  cases hC
  rw [at_val G hk ht]
  exact List.all_eq_true.mp h k hk
theorem ownF_of {os xs : List Str} (G : GaAll K mg (os ++ xs)) (h1 : (os.all fun c => insB K (He.ga K c)) = true) (h2 : (xs.all fun c => excB K (He.ga K c)) = true) : OwnF K mg os xs :=
  ⟨fun c hc C e => by
    rw [G c (List.mem_append_left _ hc)] at e
    cases e
    exact insB_ok (List.all_eq_true.mp h1 c hc), fun c hc C e => by
    rw [G c (List.mem_append_right _ hc)] at e
    cases e
    exact excB_ok (List.all_eq_true.mp h2 c hc)⟩
theorem xfF_of {xs : List Str} {f : Str} (G : GaAll K mg xs) (h : (xs.all fun c => xfB K (He.ga K c) f) = true) : ∀ c ∈ xs, XfF K mg c f := fun c hc C e => by
  rw [G c hc] at e
  cases e
  obtain ⟨h1, h2⟩ := bb (List.all_eq_true.mp h c hc)
  exact ⟨L2.xfB_ok h1, He.eqO_ok h2⟩
theorem clsF_of {c f : Str} (hc : mg c = some (.ref (He.ga K c))) (h1 : clsB K (He.ga K c) = true) (h2 : He.eqO (PySem.W.findIn K (.ref (He.ga K c)) f) (some none) = true) : ClsF K mg c f := fun C e => by
  rw [hc] at e
  cases e
  exact ⟨clsB_ok h1, He.eqO_ok h2⟩
theorem xm_of {errs : List Str} {r : Str} (G : GaAll K mg errs) (h : (errs.all fun c => decide (PySem.W.exmOne K (.ref (He.ga K c)) (.ref (He.ga K r)) = some true)) = true) : ∀ c ∈ errs, ∀ C, mg c = some (.ref C) → PySem.W.exmOne K (.ref C) (.ref (He.ga K r)) = some true := fun c hc₀ C e => by
  rw [G c hc₀] at e
  cases e
  exact of_decide_eq_true (List.all_eq_true.mp h c hc₀)
theorem fun_of {x qual : Str} {st : Stmt} {f : Addr} {fd : FuncData} (F : L2.FunD K x qual (defArgs st) (defBody st) (defScope st) [] [] f fd) : L2.Fun K x qual st f (fdA K f) := by
  obtain ⟨⟨oc, od, dV, kV, doc, pm, an, cdv, ct, osl, e, lk, c, d, _⟩, kp⟩ := F
  rcases d with ⟨_, rfl⟩ | ⟨z, _⟩
  · exact fun_at ⟨⟨oc, od, kV, doc, pm, an, cdv, ct, osl, e, lk, c⟩, kp⟩
  · exact absurd rfl z
theorem code_of {x qual : Str} {st : Stmt} {y : Str} (F : L2.Fun K x qual st (He.ga K y) (fdA K (He.ga K y))) : (fdA K (He.ga K y)).code = .ref (He.cT K (y, none)).1 := by
  obtain ⟨⟨oc, od, kV, doc, pm, an, cdv, ct, osl, e, lk, c⟩, kp⟩ := F
  obtain ⟨a, rfl⟩ := He.codeIn_ref c
  have e2 : (fdA K (He.ga K y)).code = .ref a := by rw [e]
  rw [e2]
  exact congrArg Value.ref (He.codeOf_eq (p := (y, none)) lk e2).symm
/-! ### own errors -/
abbrev FnC : Type := Option (Str × Str × Arguments × FuncBody × Scope × Addr × List Str × Addr)
def fnC (K : PySem.W.Frag) (f : Addr) : FnC := match K.lookup f with
  | some ⟨_, _, .func fd, _⟩ => some (fd.name, fd.qualname, fd.params, fd.body, fd.scope, fd.globals, fd.closure.map (·.1), fd.builtins)
  | _ => none
def codB (K : PySem.W.Frag) (C : Addr) (file q : Str) (cd : Value) (cl : List (Str × Addr)) : Bool := match cd, cl with
  | .ref cda, [(_, cc)] => PySem.W.codeIn K (.ref cda) q && ((match K.lookup cda with
      | some ⟨_, _, .fields vs, _⟩ => (match (vs[2]? : Option Value) with
        | some (.str f _) => decide (file = f)
        | _ => false)
      | _ => false) && (match K.lookup cc with
      | some ⟨_, _, .cell (some (.ref C')), _⟩ => decide (C' = C)
      | _ => false))
  | _, _ => false
theorem codB_ok {file q : Str} {cd : Value} {cl : List (Str × Addr)} (h : codB K C file q cd cl = true) : ∃ cda nm cc, cd = .ref cda ∧ cl = [(nm, cc)] ∧ PySem.W.codeIn K (.ref cda) q = true ∧
    (∃ c1 d1 vs s1 f tf, K.lookup cda = some ⟨c1, d1, .fields vs, s1⟩ ∧ (vs[2]? : Option Value) = some (.str f tf) ∧ (file == f) = true) ∧ ∃ c1 d1 s1, K.lookup cc = some ⟨c1, d1, .cell (some (.ref C)), s1⟩ := by
  unfold codB at h
  split at h
  · rename_i cda nm cc
    obtain ⟨c1, c2⟩ := bb h
    obtain ⟨c2, c3⟩ := bb c2
    refine ⟨cda, nm, cc, rfl, rfl, c1, ?_, ?_⟩
    · split at c2
      · rename_i q2
        split at c2
        · rename_i q3
          exact ⟨_, _, _, _, _, _, q2, q3, beq_iff_eq.mpr (of_decide_eq_true c2)⟩
        · cases c2
      · cases c2
    · split at c3
      · rename_i q2
        have := of_decide_eq_true c3
        subst this
        exact ⟨_, _, _, q2⟩
      · cases c3
  · cases h
def errB (K : PySem.W.Frag) (C fI : Addr) (file attr : Str) : Bool := oexB K C && (He.eqO (PySem.W.findIn K (.ref C) "__init__") (some (some (.ref fI))) && (decide (PySem.W.typeIn K (.ref fI) = some (.type "function")) && ((match K.lookup fI with
    | some ⟨_, _, .func fd, _⟩ => codB K C file fd.qualname fd.code fd.closure
    | _ => false) && (He.eqO (PySem.W.nsIn K mainGlobals "super") (some none) && ((match PySem.W.clsIn K C with
    | some cd => He.eqO (PySem.W.alongIn K "__init__" ((cd.mro.dropWhile (· != .ref C)).drop 1)) (some (some (.builtin "ValueError.__init__")))
    | none => false) && (decide (PySem.W.subIn K (.ref C) (.type "ValueError") = some true) && (He.eqO (PySem.W.findIn K (.ref C) attr) (some none) && He.eqO (PySem.W.nsIn K cStatics "thirdparty.any") (some none))))))))
theorem errK_of {P : Program} {fI : Addr} {par attr qual text : Str} {params : Arguments} {scope : Scope} {j : Nat} {p0 p1 p2 p3 p4 p5 p6 p7 p8 p9 : Pos} {ar : Arg}
    (e : fnC K fI = (some (("__init__" : Str), qual, params, FuncBody.stmts (errBody par attr text j p0 p1 p2 p3 p4 p5 p6 p7 p8 p9), scope, mainGlobals, [("__class__" : Str)], builtinsNs) : FnC)) (b : errB K C fI P.main.file attr = true)
    (hb : ∀ (dV kV doc pm cd ct : Value) (an : Option Addr) (cc : Addr) (us : List Value), us.length = 2 → bindArgs (PySem.W.ksFn "__init__" qual params (errBody par attr text j p0 p1 p2 p3 p4 p5 p6 p7 p8 p9) scope .none kV doc pm an cd ct cc) ⟨us, []⟩ = pure ([("self" : Str), par].zip us))
    (hbK : ∀ (dV kV doc pm cd ct : Value) (an : Option Addr) (cc : Addr) (u v : Value), bindArgs (PySem.W.ksFn "__init__" qual params (errBody par attr text j p0 p1 p2 p3 p4 p5 p6 p7 p8 p9) scope .none kV doc pm an cd ct cc) ⟨[u], [(par, v)]⟩ = pure ([("self" : Str), par].zip [u, v]))
    (hd : ∀ fd : FuncData, (∃ oc od osl, K.lookup fI = some ⟨oc, od, .func fd, osl⟩) → fd.defaults = .none)
    (ha : (params.posonlyargs ++ params.args).head? = some ar) (ha2 : ar.arg = "self") (h1 : scope.names.lookup ("super" : Str) = some .globalImplicit) (h2 : scope.names.lookup ("__class__" : Str) = some .free) (h3 : scope.names.lookup ("self" : Str) = some .local) (h4 : scope.names.lookup par = some .local)
    (h5 : ∀ x ∈ scope.names, x.2 ≠ .cell) (h6 : scope.kind = .function) (h7 : scope.isCoroutine = false) (h8 : scope.isGenerator = false) (h9 : (p2.endLine == p4.line) = true) (ht : (P.main.scope.names.lookup ("super" : Str)).isSome = false) (hp : par ≠ "self" ∧ (par == ("__debug__" : Str)) = false) : ErrK P K C fI par attr := by
  obtain ⟨b1, b⟩ := bb b
  obtain ⟨b2, b⟩ := bb b
  obtain ⟨b3, b⟩ := bb b
  obtain ⟨b4, b⟩ := bb b
  obtain ⟨b5, b⟩ := bb b
  obtain ⟨b6, b⟩ := bb b
  obtain ⟨b7, b⟩ := bb b
  obtain ⟨b8, b9⟩ := bb b
  refine ⟨oexB_ok b1, He.eqO_ok b2, of_decide_eq_true b3, ?_, He.eqO_ok b5, fun cd hc => ?_, of_decide_eq_true b7, He.eqO_ok b8, He.eqO_ok b9, ht, hp⟩
  · unfold fnC at e
    cases q : K.lookup fI with
    | none => rw [q]
            at e; cases e
    | some o =>
      obtain ⟨oc, od, dt, osl⟩ := o
      rw [q] at e b4
      cases dt with
      | func fd =>
        have hdd := hd fd ⟨oc, od, osl, q⟩
        obtain ⟨n1, n2, n3₀, n4, n5, n6, n7, n8, n9, n10, n11, n12, n13, n14, n15⟩ := fd
        have e2₀ : (some (n1, n2, n3₀, n4, n5, n6, n7.map (·.1), n15) : FnC) = (some (("__init__" : Str), qual, params, FuncBody.stmts (errBody par attr text j p0 p1 p2 p3 p4 p5 p6 p7 p8 p9), scope, mainGlobals, [("__class__" : Str)], builtinsNs) : FnC) := e
        simp only [Option.some.injEq, Prod.mk.injEq] at e2₀
        obtain ⟨g1, g2, g3, g4, g5, g6, g7, g8⟩ := e2₀
        subst g1 g2 g3 g4 g5 g6 g8
        have hdd : n8 = .none := hdd
        subst hdd
        have b4 : codB K C P.main.file n2 n13 n7 = true := b4
        obtain ⟨cda, nm, cc, rfl, rfl, c1, c2, c3⟩ := codB_ok b4
        cases g7
        exact ⟨oc, od, osl, n2, n3₀, n5, .none, n9, n10, n11, n12, n14, cda, cc, text, j, p0, p1, p2, p3, p4, p5, p6, p7, p8, p9, ar, rfl, c1, fun us hl => hb .none _ _ _ _ _ _ _ us hl, fun u v => hbK .none _ _ _ _ _ _ _ u v, c2, c3, ha, ha2, h1, h2, h3, h4, h5, h6, h7, h8, h9⟩
      | _ => cases e
  · rw [hc] at b6
    exact He.eqO_ok b6
end
/-! ### the Hook -/
def asY (g : Addr → Option Obj) (n : Nat) : List Addr := sysModules :: cStatics :: He.asD g n
abbrev AlY : Type := Bool × (List He.FnW × List FnC)
/-- where an error's __init__ stands -/
def initAt (K : PySem.W.Frag) (x : Str) : Addr := He.ma K (He.ga K x) "__init__"
def noDfl (K : PySem.W.Frag) (f : Addr) : Bool := match K.lookup f with
  | some ⟨_, _, .func fd, _⟩
          => (match fd.defaults with
    | .none => true
    | _ => false)
  | _ => false
theorem noDfl_ok {K : PySem.W.Frag} {f : Addr} (h : noDfl K f = true) (fd : FuncData) (e : ∃ oc od osl, K.lookup f = some ⟨oc, od, .func fd, osl⟩) : fd.defaults = .none := by
  obtain ⟨oc, od, osl, e⟩ := e
  unfold noDfl at h
  rw [e] at h
  have h : (match fd.defaults with
    | .none => true
    | _ => false) = true := h
  split at h
  · rename_i q; exact q
  · cases h
def obsK (fa : List He.Fa) (fn : List He.DefD) (fe : List Str) (ex : PySem.W.Frag → Bool) (K : PySem.W.Frag) : AlY := ((fa.all fun f => f.ok K) && ((fn.all fun d => d.ok K) && ((fe.all fun x => noDfl K (initAt K x)) && ex K)), (fn.map fun d => He.fnW K d.at_, fe.map fun x => fnC K (initAt K x)))
def obsY (n : Nat) (fa : List He.Fa) (fn : List He.DefD) (fe : List Str) (tf : List He.Defn) (ex : PySem.W.Frag → Bool) (g : Addr → Option Obj) : AlY × Bool := (obsK fa fn fe ex (He.frT g (asY g n)), He.tabsB g tf (He.frT g (asY g n)))
def valY (fn : List He.DefD) (ce : List FnC) : AlY × Bool := ((true, (fn.map He.DefD.val, ce)), true)
structure SaysY (fa : List He.Fa) (fn : List He.DefD) (fe : List Str) (ce : List FnC) (tf : List He.Defn) (ex : PySem.W.Frag → Bool) (h : Heap) (K : PySem.W.Frag) : Prop where
  fa_ : ∀ f ∈ fa, f.ok K = true
  ok_ : ∀ d ∈ fn, d.ok K = true
  nd : ∀ x ∈ fe, noDfl K (initAt K x) = true
  ex_ : ex K = true
  fn_ : fn.map (fun d => He.fnW K d.at_) = fn.map He.DefD.val
  ce_ : fe.map (fun x => fnC K (initAt K x)) = ce
  hd : ∀ p ∈ tf, PySem.W.codeHdIn K (He.cT K p).1 (He.cT K p).2 = true
  out : ∀ p ∈ tf, K.lookup (He.cT K p).2 = none
  empty : ∀ p ∈ tf, h.get? (He.cT K p).2 = some { cls := .none, data := .fields #[] }
theorem saysY_of {n : Nat} {fa : List He.Fa} {fn : List He.DefD} {fe : List Str} {ce : List FnC} {tf : List He.Defn} {ex : PySem.W.Frag → Bool} {h : Heap} (e : obsY n fa fn fe tf ex h.get? = valY fn ce) : SaysY fa fn fe ce tf ex h (He.frT h.get? (asY h.get? n)) := by
  have e1 : obsK fa fn fe ex (He.frT h.get? (asY h.get? n)) = (true, (fn.map He.DefD.val, ce)) := congrArg Prod.fst e
  have e2 : He.tabsB h.get? tf (He.frT h.get? (asY h.get? n)) = true := congrArg Prod.snd e
  generalize hK : He.frT h.get? (asY h.get? n) = K at e1 e2
  obtain ⟨b1, b⟩ := bb (congrArg Prod.fst e1)
  obtain ⟨b2, b⟩ := bb b
  obtain ⟨b3, b4⟩ := bb b
  have key : ∀ p ∈ tf, PySem.W.codeHdIn K (He.cT K p).1 (He.cT K p).2 = true ∧ ∃ o, h.get? (He.cT K p).2 = some o ∧ He.emptyTab o = true := fun p hp => by
    obtain ⟨h3, h4⟩ := bb (List.all_eq_true.mp e2 p hp)
    refine ⟨h3, ?_⟩
    split at h4
    · rename_i o q; exact ⟨o, q, h4⟩
    · cases h4
  refine ⟨fun f hf => List.all_eq_true.mp b1 f hf, fun d hd => List.all_eq_true.mp b2 d hd, fun x hx => List.all_eq_true.mp b3 x hx, b4, congrArg (fun z : AlY => z.2.1) e1, congrArg (fun z : AlY => z.2.2) e1, fun p hp => (key p hp).1, fun p hp => ?_, fun p hp => ?_⟩
  · obtain ⟨_, o, q, z⟩ := key p hp
    rw [← hK] at q ⊢
    exact He.frT_none q z
  · obtain ⟨_, o, q, z⟩ := key p hp
    rw [q, He.emptyTab_eq z]
def hookY (n : Nat) (fa : List He.Fa) (fn : List He.DefD) (fe : List Str) (ce : List FnC) (tf : List He.Defn) (ex : PySem.W.Frag → Bool) : PySem.W.Hook where
  α := AlY × Bool
  obs := fun s => obsY n fa fn fe tf ex s.heap.get?
  val := fun _ => valY fn ce
  says := fun _ h => ∃ K : PySem.W.Frag, K.In h ∧ SaysY fa fn fe ce tf ex h K
  of := fun _ _ e => ⟨_, He.frT_in, saysY_of e⟩
  keeps := fun _ _ _ ⟨K, hK, c⟩ k => ⟨K, PySem.W.Frag.In.keeps hK k, ⟨c.fa_, c.ok_, c.nd, c.ex_, c.fn_, c.ce_, c.hd, c.out, fun p hp => k _ _ (c.empty p hp)⟩⟩
theorem obsY_eq {n : Nat} {fa : List He.Fa} {fn : List He.DefD} {fe : List Str} {ce : List FnC} {tf : List He.Defn} {ex : PySem.W.Frag → Bool} {g : Addr → Option Obj} {s : Shared} (h : ∀ a, g a = s.heap.get? a) : obsY n fa fn fe tf ex g = (hookY n fa fn fe ce tf ex).obs s := by
  have e₀ : g = s.heap.get? := funext h
  rw [e₀] <;> rfl
section
variable {fa : List He.Fa} {fn : List He.DefD} {fe : List Str} {ce : List FnC} {tf : List He.Defn} {ex : PySem.W.Frag → Bool} {h : Heap} {K : PySem.W.Frag}
theorem SaysY.fact (c : SaysY fa fn fe ce tf ex h K) (i : Nat) {f : He.Fa} (e : fa[i]? = some f := by rfl) : f.ok K = true := c.fa_ f (List.mem_of_getElem? e)
theorem SaysY.def_ (c : SaysY fa fn fe ce tf ex h K) (i : Nat) {d : He.DefD} (e : fn[i]? = some d) : ∃ fd, FunD K d.name d.qual d.params d.body d.scope (d.dvs K) (d.kws K) (He.fAd K d.at_) fd := by
  have e2 : (fn.map fun d => He.fnW K d.at_)[i]? = (fn.map He.DefD.val)[i]? := by rw [c.fn_]
  rw [List.getElem?_map, List.getElem?_map, e] at e2
  exact He.DefD.funD (Option.some.inj e2) (c.ok_ d (List.mem_of_getElem? e))
theorem SaysY.fun_ (c : SaysY fa fn fe ce tf ex h K) (i : Nat) {x qual : Str} {st : Stmt} {at_ : Str × Option Str} (e : fn[i]? = some ⟨at_, x, qual, defArgs st, defBody st, defScope st, [], []⟩) : L2.Fun K x qual st (He.fAd K at_) (fdA K (He.fAd K at_)) := by
  obtain ⟨fd, F⟩ := c.def_ i e
  exact fun_of F
theorem SaysY.err (c : SaysY fa fn fe ce tf ex h K) (i : Nat) {x : Str} {v : FnC} (e1 : fe[i]? = some x) (e2 : ce[i]? = some v) : fnC K (initAt K x) = v ∧ noDfl K (initAt K x) = true := by
  refine ⟨?_, c.nd x (List.mem_of_getElem? e1)⟩
  have e3 : (fe.map fun x => fnC K (initAt K x))[i]? = ce[i]? := by rw [c.ce_]
  rw [List.getElem?_map, e1, e2] at e3
  exact Option.some.inj e3
end
theorem tt_cs {l1 : List Addr} {cs : List (Addr × Addr)} {a : Addr} (h : a ∈ l1) (e : l1 = cs.map (·.2)) : ∃ y, ∃ _ : y ∈ cs, y.2 = a := by
  rw [e] at h
  obtain ⟨y, hy, z⟩ := List.mem_map.mp h
  exact ⟨y, hy, z⟩
end TP
set_option Elab.async false
set_option linter.all false
set_option maxRecDepth 100000
set_option maxHeartbeats 1001234
/-! Tree programs run: lists, slices, texts that are shown. -/
namespace TP
open PySem L2 PyProof.Rows PySem.Spec LamX
/-! ### slices, places -/
theorem cutL_map {α β : Type} (f : α → β) (xs : List α) (lo hi : Option Int) : cutL (xs.map f) lo hi = (cutL xs lo hi).map f := by
  unfold cutL
  simp [List.map_drop, List.map_take]
theorem cutL_from {α : Type} (xs : List α) (k : Nat) : cutL xs (some (k : Int)) none = xs.drop k := by
  unfold cutL
  rw [HT.sIx_nat, HT.sIx_none]
  by_cases h : k ≤ xs.length
  · rw [Nat.min_eq_left h]
    exact List.take_of_length_le
            (by simp)
  · rw [Nat.min_eq_right (by omega), List.drop_of_length_le (by omega : xs.length ≤ xs.length), List.drop_of_length_le (by omega : xs.length ≤ k)]
    simp
theorem cutL_to {α : Type} (xs : List α) (k : Nat) : cutL xs none (some (k : Int)) = xs.take k := by
  unfold cutL
  rw [HT.sIx_nat, HT.sIx_none]
  by_cases h : k ≤ xs.length
  · rw [Nat.min_eq_left h]; simp
  · rw [Nat.min_eq_right (by omega), List.take_of_length_le (by simp), List.take_of_length_le (by omega)]; simp
theorem idxR_ok {ns : List Int} {n : Int} {j : Nat} (h : ns.findIdx? (· == n) = some j) : idxR (ns.map D.int) (.int n) = .ok (.int j) := by
  unfold idxR
  simp only [ints_map, h]
theorem idx_some {ns : List Int} {n : Int} (h : n ∈ ns) : ∃ j, ns.findIdx? (· == n) = some j ∧ j < ns.length ∧ ns[j]? = some n := by
  cases q : ns.findIdx? (· == n) with
  | none =>
    rw [List.findIdx?_eq_none_iff] at q
    have := q n h
    simp at this
  | some j =>
    obtain ⟨hj, e, _⟩ := List.findIdx?_eq_some_iff_getElem.mp q
    exact ⟨j, rfl, hj, by rw [List.getElem?_eq_getElem hj]; simpa using e⟩
/-! ### shown -/
mutual
def small : PyData → Bool
  | .none => true
  | .bool _ => true
  | .int i => decide (i.natAbs < 10 ^ 12)
  | .str x => x.cps.toList.all
          fun c => decide (c < 16 ^ 8)
  | .list xs => smalls xs
  | .tuple xs => smalls xs
  | .dict kvs => smallK kvs
def smalls : List PyData → Bool
  | [] => true
  | x :: xs => small x && smalls xs
def smallK : List (PyData × PyData) → Bool
  | [] => true
  | (k, v) :: r => small k && small v && smallK r
end
theorem log_small {n : Nat} (h : n < 10 ^ 12) : n.log2 < 40 := l2_lt (Nat.lt_of_lt_of_le h (by decide)) (by decide)
mutual
theorem small_show : ∀ d : PyData, small d = true → d.showable = true ∧ d.leavesShort 13 = true
  | .none, _ => ⟨rfl, rfl⟩
  | .bool _, _ => ⟨rfl, rfl⟩
  | .int i, h => by
    have h := of_decide_eq_true h
    exact ⟨decide_eq_true (Nat.lt_trans (log_small h) (by decide)), decide_eq_true (PyData.shown_int_le h)⟩
  | .str x, h => ⟨rfl, h⟩
  | .list xs, h => smalls_show xs h
  | .tuple xs, h => smalls_show xs h
  | .dict kvs, h => smallK_show kvs h
theorem smalls_show : ∀ ds : List PyData, smalls ds = true → PyData.showableAll ds = true ∧ PyData.leavesShortAll 13 ds = true
  | [], _ => ⟨rfl, rfl⟩
  | x :: xs, h => by
    obtain ⟨h1, h2⟩ := Bool.and_eq_true_iff.mp h
    obtain ⟨a, b⟩ := small_show x h1
    obtain ⟨c, d⟩ := smalls_show xs h2
    exact ⟨Bool.and_eq_true_iff.mpr ⟨a, c⟩, Bool.and_eq_true_iff.mpr ⟨b, d⟩⟩
theorem smallK_show : ∀ ds : List (PyData × PyData), smallK ds = true → PyData.showableKv ds = true ∧ PyData.leavesShortKv 13 ds = true
  | [], _ => ⟨rfl, rfl⟩
  | (k, v) :: r, h => by
    obtain ⟨h1, h2⟩ := Bool.and_eq_true_iff.mp h
    obtain ⟨h0, h1⟩ := Bool.and_eq_true_iff.mp h1
    obtain ⟨a, b⟩ := small_show k h0
    obtain ⟨a2, b2⟩ := small_show v h1
    obtain ⟨c, d⟩ := smallK_show r h2
    exact ⟨Bool.and_eq_true_iff.mpr ⟨Bool.and_eq_true_iff.mpr ⟨a, a2⟩, c⟩, Bool.and_eq_true_iff.mpr ⟨Bool.and_eq_true_iff.mpr ⟨b, b2⟩, d⟩⟩
end
/-- a tree that may be shown: small numbers, at most k deep, at most B heavy -/
def Nice (k B : Nat) (d : D) : Prop := ∃ e, d.rp = some e ∧ small e = true ∧ e.depth ≤ k ∧ e.weight ≤ B
theorem Nice.mono {k k' B B' : Nat} {d : D} (h : Nice k B d) (hk : k ≤ k' := by omega) (hB : B ≤ B' := by omega) : Nice k' B' d := by
  obtain ⟨e, h1, h2, h3, h4⟩ := h
  exact ⟨e, h1, h2, Nat.le_trans h3 hk, Nat.le_trans h4 hB⟩
theorem Nice.int {i : Int} (h : i.natAbs < 10 ^ 12) : Nice 0 40 (.int i) := by
  refine ⟨.int i, rfl, decide_eq_true h, Nat.le_refl _, ?_⟩
  unfold PyData.weight
  split
  · omega
  · have := log_small h; omega
theorem Nice.non : Nice 0 0 .non := ⟨.none, rfl, rfl, Nat.le_refl _, Nat.le_refl _⟩
theorem Nice.bl {b : Bool} : Nice 0 0 (.bl b) := ⟨.bool b, rfl, rfl, Nat.le_refl _, Nat.le_refl _⟩
theorem nice_all {k B : Nat} : ∀ ds : List D, (∀ d ∈ ds, Nice k B d) → ∃ es, rpAll ds = some es ∧ smalls es = true ∧ PyData.depthAll es ≤ k ∧ PyData.weightAll es ≤ ds.length * (B + 1)
  | [], _ => ⟨[], rfl, rfl, Nat.zero_le _, Nat.zero_le _⟩
  | d :: r, h => by
    obtain ⟨e, h1, h2, h3, h4⟩ := h d (List.mem_cons_self ..)
    obtain ⟨es, g1, g2, g3, g4⟩ := nice_all r fun x hx => h x (List.mem_cons_of_mem _ hx)
    refine ⟨e :: es, ?_, Bool.and_eq_true_iff.mpr ⟨h2, g2⟩, Nat.max_le.mpr ⟨h3, g3⟩, ?_⟩
    · show (D.rp d).bind (fun y => (rpAll r).map fun ys => y :: ys) = _
      rw [h1, g1]; rfl
    · show PyData.weight e + 1 + PyData.weightAll es ≤ _
      rw [List.length_cons, Nat.add_mul]
      omega
theorem Nice.lst {k B : Nat} {ds : List D} (h : ∀ d ∈ ds, Nice k B d) : Nice (k + 1) (ds.length * (B + 1)) (.lst ds) := by
  obtain ⟨es, h1, h2, h3, h4⟩ := nice_all ds h
  exact ⟨.list es, by show (rpAll ds).map PyData.list = _; rw [h1]; rfl, h2, Nat.succ_le_succ h3, h4⟩
theorem Nice.tup {k B : Nat} {ds : List D} (h : ∀ d ∈ ds, Nice k B d) : Nice (k + 1) (ds.length * (B + 1)) (.tup ds) := by
  obtain ⟨es, h1, h2, h3, h4⟩ := nice_all ds h
  exact ⟨.tuple es, by show (rpAll ds).map PyData.tuple = _; rw [h1]; rfl, h2, Nat.succ_le_succ h3, h4⟩
theorem Nice.repr {k B : Nat} {d : D} (h : Nice k B d) (hk : k ≤ 40 := by omega) (hB : B ≤ 1048576 := by omega) : ∃ s, reprD d = .ok (.str s) := by
  obtain ⟨e, h1, h2, h3, h4⟩ := h
  obtain ⟨a, b⟩ := small_show e h2
  refine ⟨e.shown, ?_⟩
  unfold reprD
  rw [h1]
  exact if_pos ⟨a, Nat.le_trans h3 hk, PyData.shown_fits (by decide) (by decide) b (Nat.le_trans h4 (Nat.le_trans hB (by decide)))⟩
theorem nice_ints {ns : List Int} (h : ∀ n ∈ ns, n.natAbs < 10 ^ 12) : ∀ d ∈ ns.map D.int, Nice 0 40 d := fun d hd => by
  obtain ⟨n, hn, rfl⟩ := List.mem_map.mp hd
  exact Nice.int (h n hn)
theorem range1_nat {n : Nat} (h : n ≤ 1000000) : toRange1 [.int (n : Int)] = .ok ((rgI n).map D.int) := by
  rw [range1_int, if_pos (show ((n : Int)).natAbs < 2 ^ 62 from Nat.lt_of_le_of_lt h (by decide)), rangeD0]
  simp
/-! ### a def's body, told apart -/
theorem runD_ex {N n : Nat} {b : S → M Fl} {d : Dr} {ds : List D} {e : D} (hn : ds.length + 1 = n) (h : ∃ ρ d', b (startD N n d ds) = .ok (.rt e) ρ ∧ drOf ρ = some d') : ∃ d', runD N n b d ds = some (e, d') := by
  obtain ⟨ρ, d', h1, h2⟩ := h
  refine ⟨d', ?_⟩
  unfold runD
  rw [if_pos hn, h1]
  simp [h2]
theorem startD_eq {N n : Nat} {d : Dr} {ds : List D} : startD N n d ds = some (.dr d) :: (ds.map (fun d => some (.fz d)) ++ List.replicate (N - n) none) := rfl
theorem run_rt {N n : Nat} {b : S → M Fl} {ds : List D} {e : D} (hn : ds.length = n) (h : ∃ ρ, b (ds.map (fun d => some (.fz d)) ++ List.replicate (N - n) none) = .ok (.rt e) ρ) : run N n b ds = .ok e := by
  obtain ⟨ρ, h1⟩ := h
  unfold run
  rw [if_pos hn, h1]
theorem run_raise {N n : Nat} {b : S → M Fl} {ds : List D} {e : Exn} (hn : ds.length = n) (h : ∃ ρ, b (ds.map (fun d => some (.fz d)) ++ List.replicate (N - n) none) = .raise e ρ) : run N n b ds = .raise e := by
  obtain ⟨ρ, h1⟩ := h
  unfold run
  rw [if_pos hn, h1]
end TP
set_option Elab.async false
set_option linter.all false
set_option maxRecDepth 100000
/-! Tree programs run: rules for simp, dicts of one's own, parallel stores. -/
namespace TP
open PySem L2 PyProof.Rows PySem.Spec LamX
@[simp] theorem toKey_str {s : Str} : toKey (.str s) = .ok (.inr s) := nr rfl
@[simp] theorem toKey_int {s : Int} : toKey (.int s) = .ok (.inl s) := nr rfl
@[simp] theorem run_kConsV {fk f : S → R D} {h : S → R (List (Key × D))} {ρ : S} : kConsV fk f h ρ = (fk ρ).bind fun k => (toKey k).bind fun k => (f ρ).bind fun x => (h ρ).map fun xs => (k, x) :: xs := nr rfl
@[simp] theorem run_mRemove {i : Nat} {fm : S → M D} {ρ : S} : mRemove i fm ρ = (match ρ[i]? with
  | some (some (.ml _)) => (fm ρ).bind fun d ρ1 => match d, ρ1[i]? with
    | .int k, some (some (.ml ds)) => match D.ints ds with
      | some ns => if k ∈ ns then .ok .non (ρ1.set i (some (.ml ((ns.erase k).map D.int)))) else .stuck
      | none => .stuck
    | _, _ => .stuck
  | _ => .stuck) := nr rfl
@[simp] theorem atI_zero {α : Type} {a : α} {l : List α} : atI (a :: l) 0 = some a := by
  rw [atI_nat (by omega) (by simp)]
  rfl
@[simp] theorem opIn_ints {neg : Bool} {y : Int} {ns : List Int} : opIn neg (.int y) (.lst (ns.map D.int)) = .ok (.bl (neg ^^ decide (y ∈ ns))) := by
  unfold opIn
  have a : ∀ ns : List Int, ((ns.map PyData.int).any fun z => PyData.eqv z (.int y)) = decide (y ∈ ns) := by
    intro ns
    induction ns with
    | nil => simp
    | cons n r ih =>
      rw [List.map_cons, List.any_cons, ih]
      have : PyData.eqv (.int n) (.int y) = decide (n = y) := by simp [PyData.eqv, beq_dec]
      rw [this, Bool.eq_iff_iff]
      simp only [Bool.or_eq_true, decide_eq_true_eq, List.mem_cons]
      exact or_congr ⟨fun z => z.symm, fun z => z.symm⟩ Iff.rfl
  simp only [py_int, pyAll_ints]
  rw [if_pos (by rw [depthAll_ints]; simp), a]
@[simp] theorem opIn_intsT {neg : Bool} {y : Int} {ns : List Int} : opIn neg (.int y) (.tup (ns.map D.int)) = .ok (.bl (neg ^^ decide (y ∈ ns))) := by
  have : opIn neg (.int y) (.tup (ns.map D.int)) = opIn neg (.int y) (.lst (ns.map D.int)) := rfl
  rw [this, opIn_ints]
@[simp] theorem run_vDK {ρ : S} : vDK ρ = .ok (.md []) ρ := nr rfl
@[simp] theorem run_vDT {ρ : S} : vDT ρ = .ok (.mt []) ρ := nr rfl
@[simp] theorem run_dInD {neg : Bool} {f g : S → R D} {ρ : S} : dInD neg f g ρ = (f ρ).bind fun x => (g ρ).bind fun y => opInD neg x y := nr rfl
@[simp] theorem opInD_int {neg : Bool} {i : Int} {kvs : List (Key × D)} : opInD neg (.int i) (.dic kvs) = .ok (.bl (neg ^^ (getKD kvs (.inl i)).isSome)) := nr rfl
@[simp] theorem opIxD_int {i : Int} {kvs : List (Key × D)} : opIxD (.dic kvs) (.int i) = R.ofOpt (getKD kvs (.inl i)) := nr rfl
@[simp] theorem bLen_dic {kvs : List (Key × D)} : bLen (.dic kvs) = .ok (.int kvs.length) := nr rfl
@[simp] theorem run_sPutD {i : Nat} {fm : S → M D} {g : S → R D} {ρ : S} : sPutD i fm g ρ = (fm ρ).bind fun d ρ1 => match g ρ1 with
  | .ok k => match putAt i k d ρ1 with
    | some ρ2 => .ok .nx ρ2
    | none => .stuck
  | _ => .stuck := nr rfl
@[simp] theorem run_putAt_int {i : Nat} {k : Int} {d : D} {ρ : S} : putAt i (.int k) d ρ = (match ρ[i]? with
  | some (some (.md kvs)) => if kvs.length < 16777216 then some (ρ.set i (some (.md (putKD kvs (.inl k) d)))) else none
  | _ => none) := by
  unfold putAt
  split
  · rename_i kvs w
    rw [w, szl]; rfl
  · rename_i kvs w
    rw [w]; rfl
  · rename_i h1 h2
    split
    · rename_i kvs w
      exact absurd w (h1 kvs)
    · rfl
@[simp] theorem run_ptD {i : Nat} {g : S → R D} {d : D} {ρ : S} : ptD i g d ρ = (match g ρ with
  | .ok k => putAt i k d ρ
  | _ => none) := nr rfl
@[simp] theorem run_ptL {i : Nat} {g : S → R D} {d : D} {ρ : S} : ptL i g d ρ = (match g ρ, ρ[i]? with
  | .ok (.int n), some (some (.ml ds)) => (ixN ds.length n).map fun j => ρ.set i (some (.ml (ds.set j d)))
  | _, _ => none) := nr rfl
@[simp] theorem run_putNil {ρ : S} : putTo [] ρ = .ok .nx ρ := nr rfl
@[simp] theorem run_putCons {d : Nat} {p : D → S → Option S} {r : List (Nat × (D → S → Option S))} {ρ : S} : putTo ((d, p) :: r) ρ = (match ρ[d]? with
  | some (some (.fz x)) => match p x ρ with
    | some ρ' => putTo r (ρ'.set d none)
    | none => .stuck
  | _ => .stuck) := nr rfl
@[simp] theorem run_sParT {ds : List Nat} {puts : List (D → S → Option S)} {fs : List (S → M Sl)} {ρ : S} : sParT ds puts fs ρ = (evalTo (ds.zip fs) ρ).bind fun _ ρ1 => putTo (ds.zip puts) ρ1 := nr rfl
@[simp] theorem revLR_lst {ds : List D} : revLR (.lst ds) = .ok (.lst ds.reverse) := nr rfl
@[simp] theorem revR_tup {ds : List D} : revR (.tup ds) = .ok (.tup ds.reverse) := nr rfl
end TP
set_option Elab.async false
set_option linter.all false
set_option maxRecDepth 100000
/-! sum(a list of tuples, ()). -/
namespace TP
open PySem L2 PyProof.Rows PySem.Spec
section
variable {prog : Program} {w : World} {A :
        Around} {E : Value → Shared → Prop} {s : Shared}
theorem cat_all {t b : Addr} {vs ws : List Value} {Q : Value → Shared → Prop} (ht : IsTup s.heap t vs.toArray) (hb : IsTup s.heap b ws.toArray) (h0 : vs = [] → Q (.ref b) s)
    (h1 : vs ≠ [] → ws = [] → Q (.ref t) s) (h2 : vs ≠ [] → ws ≠ [] → Q (.ref s.heap.objs.size) { s with heap := s.heap.push { cls := .type "tuple", data := .seq (vs ++ ws).toArray } })
    (hsz : vs.length + ws.length ≤ sizeLine) : wpAny (model
            prog w) A (binaryOp .Add (.ref t) (.ref b)) Q E s := by
  by_cases e : vs = []
  · subst e
    exact cat_tup0 ht hb (h0 rfl)
  · exact HT.cat_tup ht hb e (h1 e) (h2 e) hsz
end
/-- the sum of the tuples ahead of place i -/
def preT {α : Type} (tss : List (List α)) (i : Nat) : List α := (tss.take i).flatten
theorem preT_zero {α : Type} (tss : List (List α)) : preT tss 0 = [] := rfl
theorem preT_succ {α : Type} {tss : List (List α)} {i : Nat} {ts : List α} (h : tss[i]? = some ts) : preT tss (i + 1) = preT tss i ++ ts := by
  unfold preT
  rw [List.take_add_one, h]
  simp
section
variable {prog : Program} {w : World} {A : Around} {R : Result → Shared → Prop} {I l S : Addr} {bs : List Addr} {tss : List (List Value)}
/-- where the sum lies: at one that was there, or new -/
def Org (O : Addr → List Value → Prop) (L : Heap) (a : Addr) (vs : List Value) (h : Heap) : Prop := O a vs ∨ (L.get? a = none ∧ h.get? a = some { cls := .type "tuple", data := .seq vs.toArray })
theorem codeAny_sum_tups (hh : A.handled = none) (hne : l ≠ I) (hSI : S ≠ I) (hSl : S ≠ l) (O : Addr → List Value → Prop) (L : Heap) (hlen : bs.length = tss.length) (hsz : ∀ i, (preT tss i).length ≤ sizeLine) (hO : ∀ (j : Nat) (b : Addr) (ts : List Value), bs[j]? = some b → tss[j]? = some ts → O b ts) :
    ∀ (k i : Nat) (s : Shared) (a : Addr) (c : Nat), bs.length - i = k → i ≤ bs.length → (s.heap.IsListIter I l i ∧ s.heap.IsList l (bs.map Value.ref).toArray) → s.heap.get? S = some { cls := .type "list", dict := none, data := .seq #[.ref a] c, slots := #[] } →
    IsTup s.heap a (preT tss i).toArray → a ≠ I ∧ a ≠ S → Org O L a (preT tss i) s.heap → (∀ b o, b ≠ I → b ≠ S → L.get? b = some o → s.heap.get? b = some o) → (∀ (j : Nat) (b : Addr) (ts : List Value), bs[j]? = some b → tss[j]? = some ts → IsTup s.heap b ts.toArray ∧ b ≠ I ∧ b ≠ S) →
    (∀ h' tk₀ a', (∀ b o, b ≠ I → b ≠ S → s.heap.get? b = some o → h'.get? b = some o) → IsTup h' a' (preT tss bs.length).toArray → Org O L a' (preT tss bs.length) h' → R (.ok (.ret (.ref a'))) { s with heap := h', toks := tk₀ }) →
    codeAny (model prog w) A (.builtin "sum.loop" ⟨[.ref I, .ref S, rawInt 2, rawInt 0], []⟩) R s := by
  have W := Walks.list (prog := prog) (w := w) (A := A.in1) hh I l hne (bs.map Value.ref).toArray
  have hn : (bs.map Value.ref).toArray.size = bs.length := by simp
  rw [hn] at W
  intro k
  induction k with
  | zero =>
    intro i s a c hk hi hst hS₀ hT ha hO1 hL hB hR
    have hin : i = bs.length := by omega
    subst hin
    refine codeAny_builtin PySem.F.entry_sum_loop ?_
    rw [Around.under_plainId PySem.F.plain_sum_loop _]
    show wpAny _ A.in1 (seqItems?
            (.ref S) >>= _) _ _ s
    refine wpAny_bind (wpAny_seqItems hS₀ rfl ?_)
    show wpAny _ A.in1 (tryCatch
            (pyNext (.ref I)) _ >>= _) _ _ s
    refine wpAny_bind (wpAny_tryCatch (W.done s _ _ hst fun h' tk₀ hk' => ?_))
    have kp : ∀ b o, b ≠ I → b ≠ S → s.heap.get? b = some o → h'.get? b = some o := fun b o hb _ e => hk' b o (by simpa using hb) e
    refine wpAny_pure (hR h' tk₀ a kp ?_ ?_)
    · obtain ⟨o, e, r⟩ := hT
      exact ⟨o, kp a o ha.1 ha.2 e, r⟩
    · exact hO1.imp id fun ⟨x, y⟩ => ⟨x, kp a _ ha.1 ha.2 y⟩
  | succ k ih =>
    intro i s a c hk hi hst hS₀ hT ha hO1 hL hB hR
    have hlt : i < bs.length := by omega
    refine codeAny_builtin PySem.F.entry_sum_loop ?_
    rw [Around.under_plainId PySem.F.plain_sum_loop _]
    show wpAny _ A.in1 (seqItems?
            (.ref S) >>= _) _ _ s
    refine wpAny_bind (wpAny_seqItems hS₀ rfl ?_)
    show wpAny _ A.in1 (tryCatch
            (pyNext (.ref I)) _ >>= _) _ _ s
    refine wpAny_bind (wpAny_tryCatch (W.item i s _ _ hlt hst fun v h' tk₀ hP hst' hk' => ?_))
    have hP : (bs.map Value.ref).toArray[i]? = some v := hP
    obtain ⟨b, hb, rfl⟩ : ∃ b, bs[i]? = some b ∧ v = .ref b := by
      rw [List.getElem?_toArray, List.getElem?_map, List.getElem?_eq_getElem hlt] at hP
      exact ⟨_, List.getElem?_eq_getElem hlt, (Option.some.inj hP).symm⟩
    obtain ⟨ts, hts⟩ : ∃ ts, tss[i]? = some ts := ⟨_, List.getElem?_eq_getElem (by omega)⟩
    have kp : ∀ b o, b ≠ I → s.heap.get? b = some o → h'.get? b = some o := fun b o hb e => hk' b o (by simpa using hb) e
    have kt : ∀ {b : Addr} {us : Array Value}, b ≠ I → IsTup s.heap b us → IsTup h' b us := fun hb x => by
      obtain ⟨o, e, r⟩ := x
      exact ⟨o, kp _ o hb e, r⟩
    have hS' := kp S _ hSI hS₀
    obtain ⟨hb1, hb2, hb3⟩ := hB i b ts hb hts
    have hL' : ∀ b o, b ≠ I → b ≠ S → L.get? b = some o → h'.get? b = some o := fun b o h1 h2 e => kp b o h1 (hL b o h1 h2 e)
    have hpre := preT_succ hts
    have hz := hsz (i + 1)
    rw [hpre, List.length_append] at hz
    have frm : ∀ h'' : Heap, (∀ b o, b ≠ S → h'.get? b = some o → h''.get? b = some o) → h''.IsListIter I l (i + 1) ∧ h''.IsList l (bs.map Value.ref).toArray := fun h'' hk2 => W.frame _ _ _ hst' fun b hb o e => hk2 b o (by
      rcases List.mem_cons.mp hb with e1 | e1
      · rw [e1]; exact fun z => hSI z.symm
      · rw [List.mem_singleton.mp e1]; exact fun z => hSl z.symm) e
    have upd : ∀ (h0 : Heap) (f : Obj → Obj) b o, b ≠ S → h0.get? b = some o → (h0.update S f).get? b = some o := fun h0 f b o hb e => (Heap.get?_update_other _ _ (Ne.symm hb)).trans e
    show wpAny _ A.in1 ((holding [Value.ref b] (binaryOp .Add (.ref a) (.ref b))).attempt >>= _) _ _ _
    refine wpAny_bind (wpAny_attempt (wpAny_holding (cat_all (s := { s with heap := h', toks := tk₀ }) (kt ha.1 hT) (kt hb2 hb1) (fun e => ?_) (fun e1 e2 => ?_) (fun e1 e2 => ?_) hz)))
    · have k1 : ∀ c o, c ≠ S → h'.get? c = some o → (h').get? c = some o := fun c o _ e => e
      have hS1 : (h').get? S = some { cls := .type "list", dict := none, data := .seq #[.ref a] c, slots := #[] } := hS'
      show wpAny _ A.in1 (updateSeq S (fun _ => #[.ref b]) >>= _) _ _ _
      refine wpAny_bind (wpAny_updateSeq hS1 rfl ?_)
      have hS₂ := Heap.get?_update_self (Obj.mapSeq fun _ => #[Value.ref b]) hS1 rfl
      refine wpAny_bind
              (wpAny_letGo ?_)
      have kk : ∀ c o, c ≠ S → h'.get? c = some o → (((h').update S (Obj.mapSeq fun _ => #[Value.ref b])).update S (Obj.mapSeq fun _ => #[Value.ref b])).get? c = some o := fun c o hc e => upd _ _ c o hc (upd _ _ c o hc (k1 c o hc e))
      refine wpAny_bind (wpAny_updateSeq hS₂ rfl (wpAny_pure ⟨plainId_quiet PySem.F.plain_sum_loop _, ih (i + 1) _ b _ (by omega) hlt (frm _ kk) (Heap.get?_update_self _ hS₂ rfl) ?_ ⟨hb2, hb3⟩ ?_ (fun c o h1 h2 e => kk c o h2 (hL' c o h1 h2 e)) (fun j c us h1 h2 => ?_) fun h'' tk'' a'' hk'' => hR h'' tk'' a'' fun c o h1 h2 e => hk'' c o h1 h2 (kk c o h2 (kp c o h1 e))⟩))
      · rw [hpre, e]
        obtain ⟨o, e3, r3⟩ := hb1
        exact ⟨o, kk b o hb3 (kp b o hb2 e3), r3⟩
      · rw [hpre, e]
        exact .inl (hO i b ts hb hts)
      · obtain ⟨⟨o, e3, r3⟩, y3, z3⟩ := hB j c us h1 h2
        exact ⟨⟨o, kk c o z3 (kp c o y3 e3), r3⟩, y3, z3⟩
    · have k1 : ∀ c o, c ≠ S → h'.get? c = some o → (h').get? c = some o := fun c o _ e => e
      have hS1 : (h').get? S = some { cls := .type "list", dict := none, data := .seq #[.ref a] c, slots := #[] } := hS'
      show wpAny _ A.in1 (updateSeq S (fun _ => #[.ref a]) >>= _) _ _ _
      refine wpAny_bind (wpAny_updateSeq hS1 rfl ?_)
      have hS₂ := Heap.get?_update_self (Obj.mapSeq fun _ => #[Value.ref a]) hS1 rfl
      refine wpAny_bind
              (wpAny_letGo ?_)
      have kk : ∀ c o, c ≠ S → h'.get? c = some o → (((h').update S (Obj.mapSeq fun _ => #[Value.ref a])).update S (Obj.mapSeq fun _ => #[Value.ref a])).get? c = some o := fun c o hc e => upd _ _ c o hc (upd _ _ c o hc (k1 c o hc e))
      refine wpAny_bind (wpAny_updateSeq hS₂ rfl (wpAny_pure ⟨plainId_quiet PySem.F.plain_sum_loop _, ih (i + 1) _ a _ (by omega) hlt (frm _ kk) (Heap.get?_update_self _ hS₂ rfl) ?_ ha ?_ (fun c o h1 h2 e => kk c o h2 (hL' c o h1 h2 e)) (fun j c us h1 h2 => ?_) fun h'' tk'' a'' hk'' => hR h'' tk'' a'' fun c o h1 h2 e => hk'' c o h1 h2 (kk c o h2 (kp c o h1 e))⟩))
      · rw [hpre, e2, List.append_nil]
        obtain ⟨o, e3, r3⟩ := hT
        exact ⟨o, kk a o ha.2 (kp a o ha.1 e3), r3⟩
      · rw [hpre, e2, List.append_nil]
        exact hO1.imp id fun x => ⟨x.1, kk a _ ha.2 (kp a _ ha.1 x.2)⟩
      · obtain ⟨⟨o, e3, r3⟩, y3, z3⟩ := hB j c us h1 h2
        exact ⟨⟨o, kk c o z3 (kp c o y3 e3), r3⟩, y3, z3⟩
    · have qS : h'.objs.size ≠ S := fun z => absurd (Heap.lt_size hS') (by rw [← z]; exact Nat.lt_irrefl _)
      have qI : h'.objs.size ≠ I := fun z => by
        obtain ⟨o, e, _⟩ := hst'.1
        exact absurd (Heap.lt_size e) (by rw [← z]; exact Nat.lt_irrefl _)
      have k1 : ∀ c o, c ≠ S → h'.get? c = some o → (h'.push { cls := .type "tuple", data := .seq (preT tss i ++ ts).toArray }).get? c = some o := fun c o _ e => Heap.get?_push_of_some _ e
      have hS1 : (h'.push { cls := .type "tuple", data := .seq (preT tss i ++ ts).toArray }).get? S = some { cls := .type "list", dict := none, data := .seq #[.ref a] c, slots := #[] } := Heap.get?_push_of_some _ hS'
      show wpAny _ A.in1 (updateSeq S (fun _ => #[.ref h'.objs.size]) >>= _) _ _ _
      refine wpAny_bind (wpAny_updateSeq hS1 rfl ?_)
      have hS₂ := Heap.get?_update_self (Obj.mapSeq fun _ => #[Value.ref h'.objs.size]) hS1 rfl
      refine wpAny_bind
              (wpAny_letGo ?_)
      have kk : ∀ c o, c ≠ S → h'.get? c = some o → (((h'.push { cls := .type "tuple", data := .seq (preT tss i ++ ts).toArray }).update S (Obj.mapSeq fun _ => #[Value.ref h'.objs.size])).update S (Obj.mapSeq fun _ => #[Value.ref h'.objs.size])).get? c = some o := fun c o hc e => upd _ _ c o hc (upd _ _ c o hc (k1 c o hc e))
      refine wpAny_bind (wpAny_updateSeq hS₂ rfl (wpAny_pure ⟨plainId_quiet PySem.F.plain_sum_loop _, ih (i + 1) _ h'.objs.size _ (by omega) hlt (frm _ kk) (Heap.get?_update_self _ hS₂ rfl) ?_ ⟨qI, qS⟩ ?_ (fun c o h1 h2 e => kk c o h2 (hL' c o h1 h2 e)) (fun j c us h1 h2 => ?_) fun h'' tk'' a'' hk'' => hR h'' tk'' a'' fun c o h1 h2 e => hk'' c o h1 h2 (kk c o h2 (kp c o h1 e))⟩))
      · rw [hpre]
        exact ⟨_, upd _ _ _ _ qS (upd _ _ _ _ qS (Heap.get?_push_size _ rfl)), rfl, _, rfl⟩
      · rw [hpre]
        refine .inr ⟨?_, upd _ _ _ _ qS (upd _ _ _ _ qS (Heap.get?_push_size _ rfl))⟩
        cases q : L.get? h'.objs.size with
        | none => rfl
        | some o => exact absurd (Heap.lt_size (hL' _ o qI qS q)) (Nat.lt_irrefl _)
      · obtain ⟨⟨o, e3, r3⟩, y3, z3⟩ := hB j c us h1 h2
        exact ⟨⟨o, kk c o z3 (kp c o y3 e3), r3⟩, y3, z3⟩
end
end TP
namespace TP
open PySem L2 PyProof.Rows PySem.Spec
theorem args_sum2 (a b : Value) : argsOk "sum" ⟨[a, b], []⟩ := by unfold argsOk; kernel_rfl
section
variable {prog : Program} {w : World} {A : Around} {E : Value → Shared → Prop} {s : Shared} {l z : Addr} {bs : List Addr} {tss : List (List Value)}
theorem call_sum_tups {Q : Value → Shared → Prop} (hh : A.handled = none) (O : Addr → List Value → Prop) (hlen : bs.length = tss.length) (hsz : ∀ i, (preT tss i).length ≤ sizeLine) (hO : ∀ (j : Nat) (b : Addr) (ts : List Value), bs[j]? = some b → tss[j]? = some ts → O b ts)
    (hl : s.heap.IsList l (bs.map Value.ref).toArray) (hz : IsTup s.heap z ([] : List Value).toArray) (hOz : O z []) (hB : ∀ (j : Nat) (b : Addr) (ts : List Value), bs[j]? = some b → tss[j]? = some ts → IsTup s.heap b ts.toArray)
    (h : ∀ h' tk a', (∀ b o, s.heap.get? b = some o → h'.get? b = some o) → IsTup h' a' (preT tss bs.length).toArray → Org O s.heap a' (preT tss bs.length) h' → Q (.ref a') { s with heap := h', toks := tk }) :
    wpAny (model prog w) A (call (.builtin "sum") [.ref l, .ref z]) Q E s := by
  refine call_function_tree PySem.F.kind_sum PySem.F.plain_sum PySem.F.entry_sum (args_sum2 _ _) ?_
  unfold Builtin.«sum»
  simp only [List.length_cons,
          List.length_nil]
  rw [if_neg (by decide)]
  refine wpAny_bind (wpAny_of_eq (show Builtin.Builtins.bindParams "sum" ["start"] 0 ⟨[.ref z], []⟩ = pure [some (.ref z)] from rfl) ?_)
  have hlt : l < s.heap.objs.size := by obtain ⟨_, e₀, _⟩ := hl; exact Heap.lt_size e₀
  refine wpAny_bind
          (wpAny_pyIter_list hl ?_)
  have kp : ∀ b o, s.heap.get? b = some o → (s.heap.push { cls := .type "list_iterator", data := .fields #[.ref l, .int 0 0] }).get? b = some o := fun b o e₀ => Heap.get?_push_of_some _ e₀
  have hz1 : IsTup (s.heap.push { cls := .type "list_iterator", data := .fields #[.ref l, .int 0 0] }) z ([] : List Value).toArray := hz.keeps kp
  refine wpAny_bind
          (wpAny_pure ?_)
  simp only [List.forIn_cons,
          List.forIn_nil]
  refine wpAny_bind (wpAny_bind (wpAny_bind (wpAny_isInstance (T := "tuple") (b := false) hz1.typeIs PySem.F.sub_tuple_str ?_)))
  simp only [Bool.false_eq_true,
          if_false]
  refine wpAny_pure (wpAny_bind (wpAny_bind (wpAny_isInstance (T := "tuple") (b := false) hz1.typeIs PySem.F.sub_tuple_bytes ?_)))
  simp only [Bool.false_eq_true,
          if_false]
  refine wpAny_pure (wpAny_bind (wpAny_bind (wpAny_isInstance (T := "tuple") (b := false) hz1.typeIs PySem.F.sub_tuple_bytearray ?_)))
  simp only [Bool.false_eq_true,
          if_false]
  refine wpAny_pure
          (wpAny_pure ?_)
  refine wpAny_bind
          (wpAny_newObj_type ?_)
  have hsz1 : (s.heap.push { cls := .type "list_iterator", data := .fields #[.ref l, .int 0 0] }).objs.size = s.heap.objs.size + 1 := Heap.size_push _ _
  have old : ∀ {b : Addr} {o : Obj}, s.heap.get? b = some o → b ≠ s.heap.objs.size ∧ b ≠ (s.heap.push { cls := .type "list_iterator", data := .fields #[.ref l, .int 0 0] }).objs.size := fun {b o} e₀ => by
    have := Heap.lt_size e₀
    rw [hsz1]
    exact ⟨Nat.ne_of_lt this, Nat.ne_of_lt (Nat.lt_succ_of_lt this)⟩
  have zl : z ≠ s.heap.objs.size ∧ z ≠ (s.heap.push { cls := .type "list_iterator", data := .fields #[.ref l, .int 0 0] }).objs.size := by
    obtain ⟨o, e₀, _⟩ := hz
    exact old e₀
  have ll : l ≠ s.heap.objs.size ∧ l ≠ (s.heap.push { cls := .type "list_iterator", data := .fields #[.ref l, .int 0 0] }).objs.size := by
    obtain ⟨o, e₀, _⟩ := hl
    exact old e₀
  refine wpAny_pure ⟨plainId_quiet PySem.F.plain_sum_loop _, codeAny_sum_tups (I := s.heap.objs.size) (l := l) (S := (s.heap.push { cls := .type "list_iterator", data := .fields #[.ref l, .int 0 0] }).objs.size) (bs := bs) (tss := tss) hh ll.1 (by rw [hsz1]; exact Nat.ne_of_gt (Nat.lt_succ_self _)) (Ne.symm ll.2) O s.heap hlen hsz hO bs.length 0 _ z 0 rfl (Nat.zero_le _)
    ⟨⟨_, Heap.get?_push_of_some _ (Heap.get?_push_size _ rfl), rfl, rfl⟩, (hl.push _).push _⟩ (Heap.get?_push_size _ rfl) (hz1.keeps fun b o e₀ => Heap.get?_push_of_some _ e₀) zl (.inl hOz) (fun b o _ _ e₀ => Heap.get?_push_of_some _ (kp b o e₀)) (fun j b ts h1 h2 => ?_) fun h' tk a' k1 k2 k3 => ?_⟩
  · have hb := hB j b ts h1 h2
    refine ⟨(hb.keeps kp).keeps fun b o e₀ => Heap.get?_push_of_some _ e₀, ?_⟩
    obtain ⟨o, e₀, _⟩ := hb
    exact old e₀
  · exact h h' tk a' (fun b o e₀ => k1 b o (old e₀).1 (old e₀).2 (Heap.get?_push_of_some _ (kp b o e₀))) k2 k3
end
end TP
namespace TP
open PySem L2 PyProof.Rows PySem.Spec
theorem vals_ref : ∀ {bs : List Addr} {us : List Value}, Vals (bs.map V.ref) us → us = bs.map Value.ref
  | [], _, h => by cases h; rfl
  | b :: bs, _, h => by
    cases h with
    | cons r t =>
      have e := vals_ref t
      rw [show _ = Value.ref b from r, e]; rfl
theorem paired_at {α β : Type} {F : α → β → Prop} : ∀ {xs : List α} {ys : List β}, Paired F xs ys → ∀ (j : Nat) (x : α) (y : β), xs[j]? = some x → ys[j]? = some y → F x y
  | _, _, .nil, j, x, y, h, _ => by cases h
  | _, _, .cons r t, 0, x, y, h, k => by cases h; cases k; exact r
  | _, _, .cons r t, j + 1, x, y, h, k => paired_at t j x y h k
theorem vals_pre : ∀ {vss : List (List V)} {tss : List (List Value)}, Paired (fun vs ts => Vals vs ts) vss tss → ∀ i, Vals (preT vss i) (preT tss i)
  | _, _, .nil, i => by unfold preT; simp; exact .nil
  | _, _, .cons r t, 0 => .nil
  | _, _, .cons r t, i + 1 => r.append (vals_pre t i)
section
variable {X : Cx} {pins : List (Addr ×
        Obj)} {σ : L2.St} {H : Hp} {s : Shared}
theorem tups_of (I : Inv X pins σ H s) : ∀ {bs : List Addr} {vss : List (List V)}, Paired (fun b vs => SqG X.K H b vs) bs vss →
    ∃ tss : List (List Value), Paired (fun vs ts => Vals vs ts) vss tss ∧ Paired (fun b ts => IsTup s.heap b ts.toArray ∧ ∃ vs, Vals vs ts ∧ (b, vs) ∈ bs.zip vss) bs tss
  | _, _, .nil => ⟨[], .nil, .nil⟩
  | _, _, .cons r t => by
    obtain ⟨tss, h1, h2⟩ := tups_of I t
    obtain ⟨its, rv, ht, _⟩ := I.tuple r.t
    exact ⟨its :: tss, .cons rv h1, .cons ⟨ht, _, rv, List.mem_cons_self ..⟩ (Paired.mapP h2 fun b ts ⟨x, vs, y, w⟩ => ⟨x, vs, y, List.mem_cons_of_mem _ w⟩)⟩
theorem hk_none (I : Inv X pins σ H s) {a : Addr} (h : s.heap.get? a = none) : H a = none := by
  cases q : H a with
  | none => rfl
  | some o =>
    have := I.hok a o q
    exfalso
    have key : ∃ u, s.heap.get? a = some u := by
      cases o with
      | lst xs => obtain ⟨_, _, _, _, e⟩ := this; exact ⟨_, e⟩
      | tup xs => obtain ⟨_, _, _, o, e, _⟩ := this; exact ⟨_, e⟩
      | dK kvs => obtain ⟨_, _, _, _, o, _, _, e, _⟩ := this; exact ⟨_, e⟩
      | dT kvs => obtain ⟨_, _, _, _, o, _, _, e, _⟩ := this; exact ⟨_, e⟩
      | set S n => obtain ⟨o, _, _, _, e, _⟩ := this; exact ⟨_, e⟩
      | ins C dx fs => obtain ⟨_, _, _, e, _⟩ := this; exact ⟨_, e⟩
      | own y => obtain ⟨_, e⟩ := this; exact ⟨_, e⟩
      | xd fs => obtain ⟨_, ⟨_, _, _, e, _⟩, _⟩ := this; exact ⟨_, e⟩
      | rng lo hi => obtain ⟨_, _, _, e⟩ := this; exact ⟨_, e⟩
      | frz ob u => obtain ⟨e, _⟩ := this; exact ⟨_, e⟩
      | tbl ps => exact ⟨_, (show s.heap.get? a = some _ from this)⟩
      | met f y => exact ⟨_, (show s.heap.get? a = some _ from this)⟩
      | ext φ => obtain ⟨_, ⟨_, e⟩, _⟩ := this; exact ⟨_, e⟩
    obtain ⟨u, e⟩ := key
    rw [h] at e; cases e
def rSumT (K : PySem.W.Frag) : List V → Hp → VK → Prop := fun xs H Q => ∃ p z bs vss, xs = [.ref p, .ref z] ∧ SqL K H p (bs.map V.ref) ∧ SqG K H z [] ∧ Paired (fun b vs => SqG K H b vs) bs vss ∧ vss.flatten.length ≤ sizeLine ∧
  (∀ r, ((r = z ∧ vss.flatten = []) ∨ (r, vss.flatten) ∈ bs.zip vss) → Q (.ref r) H) ∧ NewT H vss.flatten Q
theorem call_sumT (hc : X.calm = true) : CallR X (.builtin "sum") (rSumT X.K) := by
  intro pins s₀ σ H xs us Q I r h
  obtain ⟨p, z, bs, vss, rfl, hp, hz, hP, hl, q1, q2⟩ := h
  obtain ⟨u, v, rfl, r1, r2⟩ := Vals.two r
  cases r1
  cases r2
  obtain ⟨its, rv, pl, _⟩ := I.list hp
  have := vals_ref rv
  subst this
  obtain ⟨zs, rz, tz, _⟩ := I.tuple hz.t
  have := Vals.zero rz
  subst this
  obtain ⟨tss, h1, h2⟩ := tups_of I hP
  have l1 : bs.length = vss.length := Paired.length hP
  have l2 : bs.length = tss.length := Paired.length h2
  have epre : preT vss bs.length = vss.flatten := by unfold preT; rw [l1, List.take_length]
  have hv := vals_pre h1 bs.length
  rw [epre] at hv
  refine call_sum_tups (I.ok.hd hc) (fun b ts => ∃ vs, Vals vs ts ∧ ((b = z ∧ vs = []) ∨ (b, vs) ∈ bs.zip vss)) l2 (fun i => ?_) (fun j b ts e1 e2 => (paired_at h2 j b ts e1 e2).2.imp fun vs h => ⟨h.1, .inr h.2⟩) pl.isList tz ⟨[], .nil, .inl ⟨rfl, rfl⟩⟩ (fun j b ts e1 e2 => (paired_at h2 j b ts e1 e2).1) fun h' tk a' k ht ho => ?_
  · have := (vals_pre h1 i).length
    have e : (preT vss i).length ≤ vss.flatten.length := by
      unfold preT
      conv => rhs; rw [← List.take_append_drop i vss]
      rw [List.flatten_append, List.length_append]
      omega
    omega
  · rcases ho with ⟨vs, rvs, g⟩ | ⟨n, e⟩
    · have := Vals.inj rvs hv
      subst this
      exact ⟨.ref a', H, I.kept k, rfl, q1 a' g⟩
    · have hn := hk_none I n
      refine ⟨.ref a', upd H a' (.frz { cls := .type "tuple", data := .seq (preT tss bs.length).toArray } (.tup vss.flatten)), I.laidN (t' := tk) k n hn ?_, rfl, q2 _ _ hn rfl⟩
      exact ⟨e, hl, _, hv, ⟨_, e, rfl, _, rfl⟩⟩
end
/-! ### as a tree program -/
def tupsD : List D → Option (List (List D))
  | [] => some []
  | .tup ds :: r => (tupsD r).map (ds :: ·)
  | _ :: _ => none
def bSumT : D → R D
  | .lst ds => match tupsD ds with
    | some tss => if tss.flatten.length ≤ sizeLine then .ok (.tup tss.flatten) else .stuck
    | none => .stuck
  | _ => .stuck
theorem sumT_nx : ∀ x, NoX (bSumT x) := fun x z => by
  unfold bSumT
  repeat' split
  all_goals exact fun w => by cases w
section
variable {K : PySem.W.Frag} {mg : Str → Option Value} {Φ : Hp}
theorem SeeAll.app : ∀ {vs ws : List V} {ds es : List D}, SeeAll K mg Φ vs ds → SeeAll K mg Φ ws es → SeeAll K mg Φ (vs ++ ws) (ds ++ es)
  | _, _, _, _, .nil, h => h
  | _, _, _, _, .cons r t, h => .cons r (SeeAll.app t h)
theorem see_tups : ∀ {ds : List D} {tss : List (List D)} {vs : List V}, tupsD ds = some tss → SeeAll K mg Φ vs ds → ∃ (bs : List Addr) (vss : List (List V)), vs = bs.map V.ref ∧ Paired (fun b vs => SqG K Φ b vs) bs vss ∧ SeeAll K mg Φ vss.flatten tss.flatten ∧
    ∀ b vs, (b, vs) ∈ bs.zip vss → SqG K Φ b vs
  | [], _, _, h, .nil => by cases h; exact ⟨[], [], rfl, .nil, .nil, fun b vs m => by cases m⟩
  | d :: ds, tss, _, h, .cons (v := v) s t => by
    cases d with
    | tup es =>
      have h : (tupsD ds).map (es :: ·) = some tss := h
      cases q : tupsD ds with
      | none => rw [q] at h; cases h
      | some rs =>
        rw [q] at h
        cases h
        obtain ⟨bs, vss, e1, e2, e3, e4⟩ := see_tups q t
        cases s with
        | tup g r =>
          rename_i a us
          refine ⟨a :: bs, us :: vss, by rw [e1]; rfl, .cons g e2, by rw [List.flatten_cons, List.flatten_cons]; exact SeeAll.app r e3, fun b vs m => ?_⟩
          rcases List.mem_cons.mp m with m | m
          · cases m; exact g
          · exact e4 b vs m
    | _ => cases h
end
section
variable {K : PySem.W.Frag} {mg : Str → Option Value} {T : List (Addr × Str)} {E : XK} {X : Cx} {a : Expr} {ta : TE} {f : S → R D} {pos p pos' : Pos} {x : Str}
theorem imp_sumT (ha : ImpB K mg E T ta f) : ImpE K mg E T (tCB (rSumT K) (tCons ta (tCons (tTupF tNil) tNil))) (d1 bSumT f) := by
  intro B Φ H σ ρ s Q q
  refine ha B Φ H σ ρ s _ (PostB.bindE q fun dx v Φ1 H1 g1 s1 q1 => ?_)
  refine ⟨by rw [sizeLine_eq]; exact Nat.zero_le _, fun z o nz od => ?_⟩
  show rSumT K [v, .ref z] (upd H1 z (.frz o (.tup []))) Q
  unfold bSumT at q1
  split at q1
  · split at q1
    · split at q1
      · rename_i ds tss et hl
        obtain ⟨p, vs, rfl, e, s2⟩ := s1.lst g1.ex
        obtain ⟨bs, vss, rfl, e2, e3, e4⟩ := see_tups et s2
        have gm : Gr Φ1 H1 Φ1 (upd H1 z (.frz o (.tup []))) := Gr.newM g1.ex nz
        have q1 : PostE K mg E Φ1 H1 (.ok (.tup tss.flatten)) Q := q1
        refine ⟨p, z, bs, vss, rfl, .inl (.inl (gm.h _ _ e)), .inl ⟨o, upd_same, od⟩, Paired.mapP e2 fun b vs g => ex_g gm.ex g, by rw [SeeAll.length e3]; exact hl, fun r hr => ?_, PostE.newT gm.ex (PostE.grow gm q1) e3⟩
        rcases hr with ⟨rfl, h0⟩ | hr
        · rw [h0] at e3
          exact q1 _ _ _ (Gr.new g1.ex nz) (.tup (.inl ⟨o, upd_same, od⟩) (SeeAll.mono (Gr.new g1.ex nz).p e3))
        · exact q1 _ _ _ gm (.tup (e4 r _ hr) e3)
      · exact q1.elim
    · exact q1.elim
  · exact q1.elim
theorem de_sumT (hc : X.calm = true) (hm : mg x = none) (hv : bootBuiltins x = some (.builtin "sum")) (ha : DB K mg E T X a ta f) {tx} (hg : Gl X x := by rfl)
    (hnn : x ≠ "__name__" := by decide) (hdb : (x == ("__debug__" : Str)) = false := by decide) (hs : starEach (a :: [.Tuple [] tx pos']) X.env = (false, eval a X.env) :: starEach [.Tuple [] tx pos'] X.env := by rfl)
    (hs2 : starEach (.Tuple [] tx pos' :: []) X.env = (false, eval (.Tuple [] tx pos') X.env) :: starEach [] X.env := by rfl)
    (hpl : (backTo pos (starEach ([.Tuple [] tx pos'] : List Expr) X.env)).any (·.1) = false := by rfl) :
    DE K mg E T X (.Call (.Name x p) [a, .Tuple [] tx pos'] [] pos) (tCB (rSumT K) (tCons ta (tCons (tTupF tNil) tNil))) (d1 bSumT f) :=
  ⟨ha.k, ha.m, pe_callB (ha.k ▸ call_sumT hc) hg (by rw [ha.m]; exact hm) hv (pa_cons ha.pe (pa_cons (pe_tupF pa_nil) pa_nil hs2) hs) hnn hdb hs hpl, imp_sumT ha.imp⟩
end
end TP
set_option Elab.async false
set_option linter.all false
set_option maxRecDepth 100000
/-! Loops over a dict of tuples that is one's own: names given anew, values gathered; new lists by keyword. -/
namespace TP
open PySem L2 PyProof.Rows PySem.Spec
section
variable {κ : Type}
        [DecidableEq κ]
/-- at each of these keys: what is o becomes f -/
def relabK (o f : Int) : List κ → List (κ × D) → Option (List (κ × D))
  | [], kvs => some kvs
  | k :: r, kvs => match getKD kvs k with
    | some (.int v) => if kvs.length < sizeLine then relabK o f r (if v = o then putKD kvs k (.int f) else kvs) else none
    | _ => none
end
def sRelab (i c o f : Nat) : S → M Fl := fun ρ => match ρ[i]?, ρ[o]?, ρ[f]? with
  | some (some (.mt kvs)), some (some (.fz (.int a))), some (some (.fz (.int b))) => match relabK a b (kvs.map (·.1)) kvs with
    | some kvs' => if c < ρ.length then .ok .nx ((ρ.set i (some (.mt kvs'))).set c none) else .stuck
    | none => .stuck
  | _, _, _ => .stuck
section
variable {K : PySem.W.Frag} {mg : Str → Option Value} {T : List (Addr × Str)} {B : Bs} {Φ H : Hp} {σ : L2.St} {ρ : S}
theorem slotI {j : Nat} {a : Int} (s : SOk K mg T B Φ H σ ρ) (h : ρ[j]? = some (some (.fz (.int a)))) : σ[j]? = some (some (.int a)) := by
  obtain ⟨nd, n⟩ := s.nds
  obtain ⟨v, e1, e2⟩ := n.at_ j _ h
  generalize nd j = A at e2
  cases e2 with
  | fz r => cases r; exact e1
theorem seeT_keys : ∀ {vs : List (List Key × V)} {ds : List (List Key × D)}, SeeT K mg Φ vs ds → vs.map (·.1) = ds.map (·.1)
  | _, _, .nil => rfl
  | _, _, .cons _ t => by simp only [List.map_cons]; rw [seeT_keys t]
/-- the list's words: what the list call says of a dict of tuples -/
abbrev rKeysL : List V → Hp → VK → Prop := fun xs H Q => ∃ d kvs, xs = [V.ref d] ∧ Rd H d (.dT kvs) ∧ ∀ p bs, H p = none → IsKeys H kvs bs → Q (.ref p) (upd H p (.lst (bs.map V.ref)))
abbrev tRelab (K : PySem.W.Frag) (i c o f : Nat) : TS := tFor (iList K (tCB rKeysL (tCons (tVar i) tNil))) (gName c)
  (tSeq (tIfS (tTest (tOp (rEqP K false) (tDGet (tVar i) (tVar c)) (tVar o))) (tSeq (sDPut (tVar i) (tVar c) (tVar f)) tNext) tNext) tNext)
theorem imp_relab {E : XK} {i c o f : Nat} (ic : i ≠ c) (oi : o ≠ i) (oc : o ≠ c) (fi : f ≠ i) (fc : f ≠ c) : ImpS K mg E T (tRelab K i c o f) (sRelab i c o f) := by
  intro B Φ H σ ρ hM s D z
  unfold sRelab at z
  split at z
  · rename_i kvs a b hi ho hf
    split at z
    · rename_i kvs' hk
      split at z
      · rename_i cl
        obtain ⟨p, vs, e1, e2, e3, _⟩ := slot_mt s hi
        refine ⟨.ref p, e1, p, vs, rfl, .inl e2, fun q bs nq ks => ?_⟩
        have gq : Gr Φ H Φ (upd H q (.lst (bs.map V.ref))) := Gr.newM s.ex nq
        have s1 := s.grow gq
        refine ⟨q, rfl, ⟨bs.map V.ref, .inl (.inl upd_same)⟩, ?_⟩
        have lk : vs.length = bs.length := Paired.length ks
        have hkeys := seeT_keys e3
        have hw := walk_list (K := K) (a := q) (xs := bs.map V.ref)
        refine for_it hw (fun j σ' H' => ∃ Φ' kj, Ex Φ Φ' ∧ SOk K mg T B Φ' H' σ' ((ρ.set i (some (.mt kj))).set c none) ∧ H' q = some (.lst (bs.map V.ref)) ∧ Paired (fun (kv : List Key × V) b => H' b = some (.tup (kv.1.map kV))) vs bs ∧ relabK a b ((kvs.map (·.1)).drop j) kj = some kvs') ?_ ?_ ?_ ?_
        · refine ⟨Φ, kvs, Ex.refl _, ?_, upd_same, Paired.mapP ks fun kv b e => gq.h _ _ e, hk⟩
          have e : ρ.set i (some (.mt kvs)) = ρ := by
            apply List.ext_getElem?
            intro n
            by_cases w : n = i
            · rw [w, List.getElem?_set_self (lt_of_get hi), hi]
            · rw [List.getElem?_set_ne (Ne.symm w)]
          rw [e]
          exact s1.drop c
        · rintro j σ' H' hj ⟨Φ', kj, _, _, hq, _, _⟩
          exact .inl (.inl hq)
        · rintro j x σ' H' H'' hj ⟨Φ', kj, eΦ, sj, hq, kp, hr⟩ ⟨rfl, hx⟩
          rw [List.getElem?_map] at hx
          obtain ⟨b', hb', rfl⟩ := mapSome hx
          have hjv : j < vs.length := by rw [List.length_map] at hj; omega
          have hkv : vs[j]? = some vs[j] := List.getElem?_eq_getElem hjv
          obtain ⟨k, hk0⟩ : ∃ k, vs[j].1 = k := ⟨_, rfl⟩
          have hb2 := paired_at kp j _ _ hkv hb'
          rw [hk0] at hb2
          have hkd : (kvs.map (·.1)).drop j = k :: (kvs.map (·.1)).drop (j + 1) := by
            have hl : j < (kvs.map (·.1)).length := by rw [← hkeys, List.length_map]; exact hjv
            rw [List.drop_eq_getElem_cons hl]
            congr 1
            have : (vs.map (·.1))[j]? = some k := by rw [List.getElem?_map, hkv]; exact congrArg some hk0
            rw [hkeys, List.getElem?_eq_getElem hl] at this
            exact Option.some.inj this
          rw [hkd] at hr
          unfold relabK at hr
          split at hr
          · rename_i v hg
            split at hr
            · rename_i hz
              have hij : ((ρ.set i (some (.mt kj))).set c none)[i]? = some (some (.mt kj)) := by
                rw [List.getElem?_set_ne (Ne.symm ic), List.getElem?_set_self (lt_of_get hi)]
              have hoj : ((ρ.set i (some (.mt kj))).set c none)[o]? = some (some (.fz (.int a))) := by
                rw [List.getElem?_set_ne (Ne.symm oc), List.getElem?_set_ne (Ne.symm oi)]; exact ho
              have hfj : ((ρ.set i (some (.mt kj))).set c none)[f]? = some (some (.fz (.int b))) := by
                rw [List.getElem?_set_ne (Ne.symm fc), List.getElem?_set_ne (Ne.symm fi)]; exact hf
              obtain ⟨p', vs', f1, f2, f3, _⟩ := slot_mt sj hij
              have cl' : c < σ'.length := by
                have := sj.len
                simp only [List.length_set] at this
                omega
              have gi : (σ'.set c (some (.ref b')))[i]? = some (some (.ref p')) := by rw [List.getElem?_set_ne (Ne.symm ic)]; exact f1
              have gc : (σ'.set c (some (.ref b')))[c]? = some (some (.ref b')) := List.getElem?_set_self cl'
              have go : (σ'.set c (some (.ref b')))[o]? = some (some (.int a)) := by rw [List.getElem?_set_ne (Ne.symm oc)]; exact slotI sj hoj
              have gf : (σ'.set c (some (.ref b')))[f]? = some (some (.int b)) := by rw [List.getElem?_set_ne (Ne.symm fc)]; exact slotI sj hfj
              have hval : valV vs' k = some (.int v) := by
                rcases f3.get (k := k) with ⟨vv, dd, q1, q2, q3⟩ | ⟨q1, q2⟩
                · rw [hg] at q2
                  cases q2
                  cases q3
                  exact q1
                · rw [hg] at q2; cases q2
              refine ⟨.ref p', gi, .ref b', gc, p', .int v, rfl, hval ▸ DGet.t f2 hb2, .int a, go, ?_⟩
              refine sem_eqP (mg := mg) (neg := false) Φ' H'' (.int v) (.int a) (.int v) (.int a) _ sj.ex (.fz (.int v)) (.fz (.int a)) ?_
              rw [opEqB_int]
              intro w Φ2 H2 g2 sw
              cases sw
              refine ⟨_, rfl, ?_⟩
              dsimp only
              have s2 := sj.grow g2
              have f2' := g2.h _ _ f2
              have hb3 := g2.h _ _ hb2
              by_cases hva : v = a
              · rw [if_pos (by simp [hva])]
                rw [if_pos hva] at hr
                refine ⟨.int b, gf, .ref p', gi, .ref b', gc, p', _, rfl, DPut.t f2' hb3 (by rw [SeeT.length f3]; exact hz), Φ2, putKD kj k (.int b), eΦ.trans g2.p, ?_, ?_, ?_, hr⟩
                · have s3 := (s2.setMt hij f1 (SeeT.put (k := k) (See.int b) (SeeT.mono g2.p f3))).wipe c (some (.ref b'))
                  have e : ((((ρ.set i (some (.mt kj))).set c none).set i (some (.mt (putKD kj k (.int b))))).set c none) = (ρ.set i (some (.mt (putKD kj k (.int b))))).set c none := by
                    rw [List.set_comm _ _ (Ne.symm ic), List.set_set, List.set_set]
                  rw [e] at s3
                  exact s3
                · rw [upd_ne (fun w => by rw [w] at hq; rw [hq] at f2; cases f2)]
                  exact g2.h _ _ hq
                · exact Paired.mapP kp fun kv b e => by
                    rw [upd_ne (fun w => by rw [w] at e; rw [e] at f2; cases f2)]
                    exact g2.h _ _ e
              · rw [if_neg (by simp [hva])]
                rw [if_neg hva] at hr
                refine ⟨Φ2, kj, eΦ.trans g2.p, ?_, g2.h _ _ hq, Paired.mapP kp fun kv b e => g2.h _ _ e, hr⟩
                have s3 := s2.wipe c (some (.ref b'))
                rw [List.set_set] at s3
                exact s3
            · cases hr
          · cases hr
        · rintro σ' H' ⟨Φ', kj, eΦ, sj, hq, kp, hr⟩
          have : (kvs.map (·.1)).drop (bs.map V.ref).length = [] := by
            rw [List.drop_eq_nil_iff, ← hkeys]
            simp only [List.length_map]
            omega
          rw [this] at hr
          cases hr
          exact z Φ' H' σ' eΦ sj
      · exact z.elim
    · exact z.elim
  · exact z.elim
end
section
variable {K : PySem.W.Frag} {mg : Str → Option Value} {T : List (Addr × Str)} {E : XK} {X : Cx}
/-- for c in list(d): if d[c] == o: d[c] = f -/
theorem ds_relab {i c o f : Nat} {xd xc xo xf : Str} {p1 p2 p3 p4 p6 p7 p8 p9 q1 q2 q3 q4 q5 q6 q7 q8 : Pos} (hk : X.K = K) (hmg : X.mg = mg) (hp : PassesOwn (model X.prog X.w) X.A X.env X.xe) (hc : X.calm = true) (hu : X.A.units + 65 < cLine) (hN : X.N.Nodup)
    (n1 : X.N[i]? = some xd) (n2 : X.N[c]? = some xc) (n3 : X.N[o]? = some xo) (n4 : X.N[f]? = some xf) (v1 : Vis X.env.scope xd) (v2 : Vis X.env.scope xc) (v3 : Vis X.env.scope xo) (v4 : Vis X.env.scope xf)
    (b1 : (xd == ("__debug__" : Str)) = false) (b2 : (xc == ("__debug__" : Str)) = false) (b3 : (xo == ("__debug__" : Str)) = false) (b4 : (xf == ("__debug__" : Str)) = false)
    (d1 : (xd == ("__classdict__" : Str)) = false) (d2 : (xc == ("__classdict__" : Str)) = false) (d3 : (xo == ("__classdict__" : Str)) = false) (d4 : (xf == ("__classdict__" : Str)) = false)
    (lc : Loc X.env.scope xc) (fc : X.fn xc = true ∨ X.env.scope.names.lookup xc = some .local) (hm : mg "list" = none) (hg : Gl X "list")
    (ne : i ≠ c ∧ o ≠ i ∧ o ≠ c ∧ f ≠ i ∧ f ≠ c)
    (hs1 : starEach [Expr.Name xd p3] X.env = (false, eval (.Name xd p3) X.env) :: starEach [] X.env)
    (hs2 : ∀ x, foldedSetIterable (.Call (.Name "list" p2) [.Name xd p3] [] p4) X.env x = pure x)
    (hs3 : swapsWith (.Name xf q5) (some (.Subscript (.Name xd q3) (.Name xc q4) q6)) q7.line X.env = pure false)
    (hm2 : behindInMarks .Eq (.Name xo p9) = false) (hns : NoSl (.Name xc p7)) (hns2 : NoSl (.Name xc q4)) :
    DS K mg E T X (.For (.Name xc p1) (.Call (.Name "list" p2) [.Name xd p3] [] p4) [.If (.Compare (.Subscript (.Name xd p6) (.Name xc p7) p8) [.Eq] [.Name xo p9] q1) [.Assign [.Subscript (.Name xd q3) (.Name xc q4) q6] (.Name xf q5) q7] [] q2] [] q8) (tRelab K i c o f) (sRelab i c o f) := by
  subst hk
  refine ⟨rfl, hmg, ?_, imp_relab ne.1 ne.2.1 ne.2.2.1 ne.2.2.2.1 ne.2.2.2.2⟩
  refine ps_for hp hc (pi_list (pe_callTy (call_list_dT hc) hg (by rw [hmg]; exact hm) (by decide +kernel) (pa_cons (pe_var n1 v1 b1 d1) pa_nil hs1) (by decide) (by decide) hs1 rfl)) (pg_name hN n2 lc fc)
    (pss_cons (ps_if (pt_cmpR (op_eqP (by omega)) (pe_dget (by omega) (pe_var n1 v1 b1 d1) (pe_var n2 v2 b2 d2) hns) (pe_var n3 v3 b3 d3) hm2) (pss_cons (ps_dput (by omega) (pe_var n1 v1 b1 d1) (pe_var n2 v2 b2 d2) (pe_var n4 v4 b4 d4) hs3) pss_nil) pss_nil) pss_nil) hs2
end
/-! ### values gathered -/
section
variable {κ : Type}
        [DecidableEq κ]
def valsK (kvs : List (κ × D)) : List κ → Option (List Int)
  | [] => some []
  | k :: r => match getKD kvs k with
    | some (.int v) => (valsK kvs r).map (v :: ·)
    | _ => none
end
def gath (ns : List Int) : List Int → List Int
  | [] => ns
  | v :: r => gath (if v ∈ ns then ns else ns ++ [v]) r
def sGather (i c k : Nat) : S → M Fl := fun ρ => match ρ[i]?, ρ[k]? with
  | some (some (.mt kvs)), some (some (.fz (.lst ds))) => match D.ints ds, valsK kvs (kvs.map (·.1)) with
    | some ns, some ws => if c < ρ.length ∧ ns.length + ws.length ≤ 1000 then .ok .nx ((ρ.set k (some (.fz (.lst ((gath ns ws).map D.int))))).set c none) else .stuck
    | _, _ => .stuck
  | _, _ => .stuck
section
variable {K : PySem.W.Frag} {mg : Str → Option Value} {T : List (Addr × Str)} {B : Bs} {Φ Φ2 H H2 : Hp} {σ : L2.St} {ρ : S}
theorem upd_self' {H : Hp} {a : Addr} {o : HO} (h : H a = some o) : upd H a o = H := by
  funext b
  by_cases e : b = a
  · rw [e, upd_same, h]
  · rw [upd_ne e]
theorem slot_own {i : Nat} {ds : List (List Key × D)} (s : SOk K mg T B Φ H σ ρ) (h : ρ[i]? = some (some (.mt ds))) : ∃ p vs, σ[i]? = some (some (.ref p)) ∧ H p = some (.dT vs) ∧ SeeT K mg Φ vs ds ∧ Φ p = none := by
  obtain ⟨p, vs, e1, e2, e3, e4⟩ := slot_mt s h
  obtain ⟨nd, n⟩ := s.nds
  exact ⟨p, vs, e1, e2, e3, (n.own i p (e4 nd n)).1⟩
theorem ex_lock {p : Addr} {o : HO} (ex : Ex Φ H) (n : Φ p = none) : Ex Φ (upd H p o) := fun a u e => by
  have : a ≠ p := fun w => by rw [w, n] at e; cases e
  rw [upd_ne this]; exact ex a u e
theorem Gr.unlock {p : Addr} {o u : HO} (ex : Ex Φ H) (n : Φ p = none) (hp : H p = some u) (g : Gr Φ (upd H p o) Φ2 H2) : Gr Φ H Φ2 (upd H2 p u) where
  p := g.p
  h := fun a w e => by
    by_cases q : a = p
    · subst q; rw [hp] at e; rw [upd_same]; exact e
    · rw [upd_ne q]; exact g.h a w (by rw [upd_ne q]; exact e)
  ex := fun a w e => by
    by_cases q : a = p
    · subst q
      have := g.nm a n (not_none upd_same)
      rw [this] at e; cases e
    · rw [upd_ne q]; exact g.ex a w e
  nm := fun a e q => by
    by_cases w : a = p
    · subst w; exact g.nm a n (not_none upd_same)
    · exact g.nm a e (by rw [upd_ne w]; exact q)
abbrev tGather (K : PySem.W.Frag) (i c k : Nat) : TS := tLock (tFor (iKeys (tVar i)) (gName c)
  (tSeq (tAsg (tIf (tTest (tOp (rInP K false) (tDGet (tVar i) (tVar c)) (tVar k))) (tVar k) (tOp (rAdd4 K) (tVar k) (tLst (tCons (tDGet (tVar i) (tVar c)) tNil)))) (gName k)) tNext))
theorem imp_gather {E : XK} {i c k : Nat} (ic : i ≠ c) (ki : k ≠ i) (kc : k ≠ c) : ImpS K mg E T (tGather K i c k) (sGather i c k) := by
  intro B Φ H σ ρ hM s Dd z
  unfold sGather at z
  split at z
  · rename_i kvs ds hi hk
    split at z
    · rename_i ns ws hns hws
      split at z
      · rename_i cl
        obtain ⟨cl, hlen⟩ := cl
        have := ints_some hns
        subst this
        obtain ⟨p, vs, e1, e2, e3, e4⟩ := slot_own s hi
        refine ⟨p, .dT vs, e2, trivial, fun od => ?_⟩
        refine ⟨.ref p, e1, p, od, rfl, .inr ⟨vs, upd_same, ?_⟩⟩
        have hkeys := seeT_keys e3
        have hw := walk_keysT (d := p) (o := od) (kvs := vs)
        refine for_it hw (fun j σ' H' => ∃ Φ' Hu nj wj, Ex Φ Φ' ∧ SOk K mg T B Φ' Hu σ' ((ρ.set k (some (.fz (.lst (nj.map D.int))))).set c none) ∧ H' = upd Hu p (.frz od (.dT vs)) ∧ Hu p = some (.dT vs) ∧ σ'[i]? = some (some (.ref p)) ∧ valsK kvs ((kvs.map (·.1)).drop j) = some wj ∧ gath nj wj = gath ns ws ∧ nj.length + wj.length ≤ 1000) ?_ ?_ ?_ ?_
        · refine ⟨Φ, H, ns, ws, Ex.refl _, ?_, rfl, e2, e1, hws, rfl, hlen⟩
          have e : ρ.set k (some (.fz (.lst (ns.map D.int)))) = ρ := by
            apply List.ext_getElem?
            intro n
            by_cases w : n = k
            · rw [w, List.getElem?_set_self (lt_of_get hk), hk]
            · rw [List.getElem?_set_ne (Ne.symm w)]
          rw [e]
          exact s.drop c
        · rintro j σ' H' hj ⟨Φ', Hu, nj, wj, _, _, rfl, _⟩
          exact upd_same
        · rintro j x σ' H' H'' hj ⟨Φ', Hu, nj, wj, eΦ, sj, rfl, hu, gi0, hv, hg, hz⟩ ⟨rfl, kk, v, q, hkv, rfl, hq⟩
          have hkd : (kvs.map (·.1)).drop j = kk :: (kvs.map (·.1)).drop (j + 1) := by
            have hl : j < (kvs.map (·.1)).length := by rw [← hkeys, List.length_map]; exact hj
            rw [List.drop_eq_getElem_cons hl]
            congr 1
            have : (vs.map (·.1))[j]? = some kk := by rw [List.getElem?_map, hkv]; rfl
            rw [hkeys, List.getElem?_eq_getElem hl] at this
            exact Option.some.inj this
          rw [hkd] at hv
          unfold valsK at hv
          split at hv
          · rename_i w hgk
            obtain ⟨wr, hwr, rfl⟩ := mapSome hv
            have hij : ((ρ.set k (some (.fz (.lst (nj.map D.int))))).set c none)[i]? = some (some (.mt kvs)) := by
              rw [List.getElem?_set_ne (Ne.symm ic), List.getElem?_set_ne ki]; exact hi
            have hkj : ((ρ.set k (some (.fz (.lst (nj.map D.int))))).set c none)[k]? = some (some (.fz (.lst (nj.map D.int)))) := by
              rw [List.getElem?_set_ne (Ne.symm kc), List.getElem?_set_self (lt_of_get hk)]
            obtain ⟨p', vs', f1, f2, f3, f4⟩ := slot_own sj hij
            rw [gi0] at f1
            cases f1
            rw [hu] at f2
            cases f2
            obtain ⟨vk, gk0, sk⟩ : ∃ vk, σ'[k]? = some (some vk) ∧ See K mg Φ' vk (.lst (nj.map D.int)) := by
              obtain ⟨nd, n⟩ := sj.nds
              obtain ⟨v, e1, e2⟩ := n.at_ k _ hkj
              generalize nd k = A at e2
              cases e2 with
              | fz r => exact ⟨v, e1, r⟩
            have cl' : c < σ'.length := by
              have := sj.len
              simp only [List.length_set] at this
              omega
            have gi : (σ'.set c (some (.ref q)))[i]? = some (some (.ref p)) := by rw [List.getElem?_set_ne (Ne.symm ic)]; exact gi0
            have gc : (σ'.set c (some (.ref q)))[c]? = some (some (.ref q)) := List.getElem?_set_self cl'
            have gk : (σ'.set c (some (.ref q)))[k]? = some (some vk) := by rw [List.getElem?_set_ne (Ne.symm kc)]; exact gk0
            have hval : valV vs kk = some (.int w) := by
              rcases f3.get (k := kk) with ⟨vv, dd, q1, q2, q3⟩ | ⟨q1, q2⟩
              · rw [hgk] at q2
                cases q2
                cases q3
                exact q1
              · rw [hgk] at q2; cases q2
            have exl : Ex Φ' (upd Hu p (.frz od (.dT vs))) := ex_lock sj.ex f4
            have tail : ∀ (Φ2 H2 : Hp) (r : V) (n2 : List Int), Gr Φ' (upd Hu p (.frz od (.dT vs))) Φ2 H2 → See K mg Φ2 r (.lst (n2.map D.int)) → gath n2 wr = gath ns ws → n2.length + wr.length ≤ 1000 →
                ∃ Φ' Hu nj wj, Ex Φ Φ' ∧ SOk K mg T B Φ' Hu ((σ'.set c (some (.ref q))).set k (some r)) ((ρ.set k (some (.fz (.lst (nj.map D.int))))).set c none) ∧ H2 = upd Hu p (.frz od (.dT vs)) ∧ Hu p = some (.dT vs) ∧ ((σ'.set c (some (.ref q))).set k (some r))[i]? = some (some (.ref p)) ∧ valsK kvs ((kvs.map (·.1)).drop (j + 1)) = some wj ∧ gath nj wj = gath ns ws ∧ nj.length + wj.length ≤ 1000 := by
              intro Φ2 H2 r n2 g2 sr hg2 hz2
              have g3 := Gr.unlock sj.ex f4 hu g2
              have s3 := ((sj.grow g3).set k sr).wipe c (some (.ref q))
              have er : (((ρ.set k (some (.fz (.lst (nj.map D.int))))).set c none).set k (some (.fz (.lst (n2.map D.int))))).set c none = (ρ.set k (some (.fz (.lst (n2.map D.int))))).set c none := by
                rw [List.set_comm _ _ (Ne.symm kc), List.set_set, List.set_set]
              rw [er, List.set_comm _ _ kc] at s3
              refine ⟨Φ2, upd H2 p (.dT vs), n2, wr, eΦ.trans g2.p, s3, ?_, upd_same, ?_, hwr, hg2, hz2⟩
              · rw [upd_upd, upd_self' (g2.h _ _ upd_same)]
              · rw [List.getElem?_set_ne ki]; exact gi
            have dg : DGet (upd Hu p (.frz od (.dT vs))) p (.ref q) (some (.int w)) := .inr ⟨vs, kk, q, .inr ⟨od, upd_same⟩, rfl, hq, hval.symm⟩
            refine ⟨.ref p, gi, .ref q, gc, p, .int w, rfl, dg, vk, gk, ?_⟩
            refine sem_inP (mg := mg) (neg := false) Φ' _ (.int w) vk (.int w) (.lst (nj.map D.int)) _ exl (.fz (.int w)) (.fz sk) ?_
            rw [opIn_ints]
            intro w2 Φ2 H2 g2 sw
            cases sw
            refine ⟨_, rfl, ?_⟩
            dsimp only
            simp only [List.length_cons] at hz
            have hg : gath (if w ∈ nj then nj else nj ++ [w]) wr = gath ns ws := hg
            by_cases hwn : w ∈ nj
            · rw [if_pos (by simp [hwn])]
              rw [if_pos hwn] at hg
              exact ⟨vk, gk, tail Φ2 H2 vk nj g2 (See.mono g2.p sk) hg (by omega)⟩
            · rw [if_neg (by simp [hwn])]
              rw [if_neg hwn] at hg
              have dg2 : DGet H2 p (.ref q) (some (.int w)) := .inr ⟨vs, kk, q, .inr ⟨od, g2.h _ _ upd_same⟩, rfl, g2.h _ _ hq, hval.symm⟩
              refine ⟨vk, gk, .ref p, gi, .ref q, gc, p, .int w, rfl, dg2, by rw [sizeLine_eq]; simp, fun l nl => ?_⟩
              have g3 : Gr Φ2 H2 (upd Φ2 l (.lst [.int w])) (upd H2 l (.lst [.int w])) := Gr.new g2.ex nl
              refine sem_add (mg := mg) _ _ vk (.ref l) (.lst (nj.map D.int)) (.lst ([w].map D.int)) _ g3.ex (.fz (See.mono g3.p (See.mono g2.p sk))) (.fz (.lst upd_same (.cons (.int w) .nil))) ?_
              rw [opAdd_lst, if_pos (by rw [sizeLine_eq]; simp; omega)]
              intro r Φ4 H4 g4 sr
              rw [← List.map_append] at sr
              exact tail Φ4 H4 r (nj ++ [w]) ((g2.trans g3).trans g4) sr hg (by simp; omega)
          · cases hv
        · rintro σ' H' ⟨Φ', Hu, nj, wj, eΦ, sj, rfl, hu, gi0, hv, hg, hz⟩
          have : (kvs.map (·.1)).drop vs.length = [] := by
            rw [List.drop_eq_nil_iff, ← hkeys, List.length_map]; exact Nat.le_refl _
          rw [this] at hv
          cases hv
          have hg : nj = gath ns ws := hg
          refine ⟨upd_same, ?_⟩
          rw [upd_upd, upd_self' hu]
          subst hg
          exact z Φ' Hu σ' eΦ sj
      · exact z.elim
    · exact z.elim
  · exact z.elim
end
section
variable {K : PySem.W.Frag} {mg : Str → Option Value} {T : List (Addr × Str)} {E : XK} {X : Cx}
/-- for c in d: k = k if d[c] in k else k + [d[c]] -/
theorem ds_gather {i c k : Nat} {xd xc xk : Str} {p1 p2 p3 p4 p5 p6 p7 p8 p9 q1 q2 q3 q4 q5 q6 q7 q8 : Pos} (hk : X.K = K) (hmg : X.mg = mg) (hp : PassesOwn (model X.prog X.w) X.A X.env X.xe) (hc : X.calm = true) (hu : X.A.units + 65 < cLine) (hN : X.N.Nodup)
    (n1 : X.N[i]? = some xd) (n2 : X.N[c]? = some xc) (n3 : X.N[k]? = some xk) (v1 : Vis X.env.scope xd) (v2 : Vis X.env.scope xc) (v3 : Vis X.env.scope xk)
    (b1 : (xd == ("__debug__" : Str)) = false) (b2 : (xc == ("__debug__" : Str)) = false) (b3 : (xk == ("__debug__" : Str)) = false)
    (d1 : (xd == ("__classdict__" : Str)) = false) (d2 : (xc == ("__classdict__" : Str)) = false) (d3 : (xk == ("__classdict__" : Str)) = false)
    (lc : Loc X.env.scope xc) (fc : X.fn xc = true ∨ X.env.scope.names.lookup xc = some .local) (lk : Loc X.env.scope xk) (fk : X.fn xk = true ∨ X.env.scope.names.lookup xk = some .local)
    (ne : i ≠ c ∧ k ≠ i ∧ k ≠ c)
    (hs1 : starEach [Expr.Subscript (.Name xd q3) (.Name xc q4) q5] X.env = (false, eval (.Subscript (.Name xd q3) (.Name xc q4) q5) X.env) :: starEach [] X.env)
    (hs2 : ∀ x, foldedSetIterable (.Name xd p2) X.env x = pure x)
    (hs3 : swapsWith (.IfExp (.Compare (.Subscript (.Name xd p4) (.Name xc p5) p6) [.In] [.Name xk p7] p8) (.Name xk p9) (.BinOp (.Name xk q1) .Add (.List [.Subscript (.Name xd q3) (.Name xc q4) q5] q2) q6) q7) (some (.Name xk p3)) q8.line X.env = pure false)
    (hm2 : behindInMarks .In (.Name xk p7) = false) (hns : NoSl (.Name xc p5)) (hns2 : NoSl (.Name xc q4)) {q9 : Pos} :
    DS K mg E T X (.For (.Name xc p1) (.Name xd p2) [.Assign [.Name xk p3] (.IfExp (.Compare (.Subscript (.Name xd p4) (.Name xc p5) p6) [.In] [.Name xk p7] p8) (.Name xk p9) (.BinOp (.Name xk q1) .Add (.List [.Subscript (.Name xd q3) (.Name xc q4) q5] q2) q6) q7) q8] [] q9) (tGather K i c k) (sGather i c k) := by
  subst hk
  refine ⟨rfl, hmg, ?_, imp_gather ne.1 ne.2.1 ne.2.2⟩
  exact ps_lock (ps_for hp hc (pi_keys (pe_var n1 v1 b1 d1)) (pg_name hN n2 lc fc)
    (pss_cons (ps_set hN n3 lk (pe_ifExp (pt_cmpR (op_inP hu) (pe_dget (by omega) (pe_var n1 v1 b1 d1) (pe_var n2 v2 b2 d2) hns) (pe_var n3 v3 b3 d3) hm2) (pe_var n3 v3 b3 d3)
      (pe_op or_add (pe_var n3 v3 b3 d3) (pe_lst (pa_cons (pe_dget (by omega) (pe_var n1 v1 b1 d1) (pe_var n2 v2 b2 d2) hns2) pa_nil hs1)))) hs3 fk) pss_nil) hs2)
end
end TP
namespace TP
open PySem L2 PyProof.Rows PySem.Spec LamX
/-! ### a tuple that may be a key; new lists by keyword -/
def dPr (gs : S → R (List D)) : S → R D := fun ρ => (gs ρ).bind fun ds => if ds.length ≤ sizeLine then .ok (.pr ds) else .stuck
def dKeyN (ix : List Nat) (n : Nat) (F : List D → R (List D)) (gs : S → R (List D)) : S → R (List D) := fun ρ => (gs ρ).bind fun ds => if ds.length = n then F (pick ix ds) else .stuck
section
variable {K : PySem.W.Frag} {mg : Str → Option Value} {T : List (Addr × Str)} {E : XK} {X : Cx} {es : List Expr} {kws : List Keyword} {tk : TA} {gs : S → R (List D)} {pos p : Pos} {x : Str} {fA : Addr} {fd : FuncData} {ps ks : List Str} {ix : List Nat}
theorem de_pr {ts : TA} {x1} (ha : DA K mg E T X es ts gs) : DE K mg E T X (.Tuple es x1 pos) (tTup ts) (dPr gs) := by
  refine ⟨ha.k, ha.m, pe_tup ha.pe, fun B Φ H σ ρ s Q z => ha.imp B Φ H σ ρ s _ ?_⟩
  have z : PostE K mg E Φ H ((gs ρ).bind fun ds => if ds.length ≤ sizeLine then .ok (.pr ds) else .stuck) Q := z
  cases e : gs ρ with
  | ok ds =>
    rw [e] at z
    intro vs Φ' H' gr sv
    have z : PostE K mg E Φ H (if ds.length ≤ sizeLine then .ok (.pr ds) else .stuck) Q := z
    split at z
    · rename_i hl
      refine ⟨by rw [SeeAll.length sv]; exact hl, fun p np => ?_⟩
      have g2 : Gr Φ' H' (upd Φ' p (.tup vs)) (upd H' p (.tup vs)) := Gr.new gr.ex np
      exact z _ _ _ (gr.trans g2) (.pr upd_same (SeeAll.mono g2.p sv))
    · exact z.elim
  | raise x => rw [e] at z; exact z
  | stuck => rw [e] at z; exact z.elim
theorem dn_key {F : List D → R (List D)} (C : Callee X x fA fd ps (spN K mg F)) (hb : KB X.K fd ps 0 ks ix) (hx : Passes (L2.CX X.prog X.w) X E) (ha : DKw K mg E T X kws tk gs) (hg : Gl X x)
    (hall : (backToKw pos (keywordEach kws X.env)).all (·.1.isSome) = true) (hks : (backToKw pos (keywordEach kws X.env)).filterMap (·.1) = ks) (hdb : (x == ("__debug__" : Str)) = false)
    (hpl : ((backTo pos (starEach [] X.env)).any (·.1) || (backToKw pos (keywordEach kws X.env)).any (·.1.isNone)) = false) :
    DN K mg E T X (.Call (.Name x p) [] kws pos) (tKey 0 ks.length ix (spN K mg F) E tk) (dKeyN ix ks.length F gs) := by
  refine ⟨ha.k, ha.m, ⟨fun pins s σ H Q I h => ?_⟩, fun B Φ H σ ρ s Q z => ha.imp B Φ H σ ρ s _ ?_⟩
  · refine wpAny_Call_Name_kw (ld_glob I hg C.gl ?_ hdb)
    refine PySem.W.callWith_KW0 (h₀ := X.base) I.ok.mod.kin C.kp hall ?_ hpl
    refine thn (ha.pk.run pos pins s σ H _ I h) fun ws s2 ⟨zs, H2, I2, rz, l2, q2⟩ => ⟨I2.kIn, ?_⟩
    rw [hks]
    exact run_atK (us := []) (vs := []) C.ok hb hx I2 .nil rz rfl l2 q2
  · have z : PostN K mg E Φ H ((gs ρ).bind fun ds => if ds.length = ks.length then F (pick ix ds) else .stuck) Q := z
    cases q : gs ρ with
    | raise x => rw [q] at z; exact z
    | stuck => rw [q] at z; exact z.elim
    | ok ds =>
      rw [q] at z
      intro vs Φ1 H1 g1 sv
      have z : PostN K mg E Φ H (if ds.length = ks.length then F (pick ix ds) else .stuck) Q := z
      split at z
      · rename_i hl
        exact ⟨by rw [SeeAll.length sv]; exact hl, Φ1, _, g1.ex, see_pick sv ix, PostN.grow g1 z⟩
      · exact z.elim
/-! ### rules for simp -/
@[simp] theorem run_dPr {ρ : S} : dPr gs ρ = (gs ρ).bind fun ds => if ds.length ≤ sizeLine then .ok (.pr ds) else .stuck := nr rfl
@[simp] theorem run_dKeyN {n : Nat} {F : List D → R (List D)} {ρ : S} : dKeyN ix n F gs ρ = (gs ρ).bind fun ds => if ds.length = n then F (pick ix ds) else .stuck := nr rfl
theorem run_sRelab {i c o f : Nat} {ρ : S} {kvs kvs' : List (List Key × D)} {a b : Int} (h1 : ρ[i]? = some (some (.mt kvs))) (h2 : ρ[o]? = some (some (.fz (.int a)))) (h3 : ρ[f]? = some (some (.fz (.int b)))) (h4 : relabK a b (kvs.map (·.1)) kvs = some kvs') (h5 : c < ρ.length) :
    sRelab i c o f ρ = .ok .nx ((ρ.set i (some (.mt kvs'))).set c none) := by
  unfold sRelab
  rw [h1, h2, h3]
  simp only [h4]
  rw [if_pos h5]
theorem run_sGather {i c k : Nat} {ρ : S} {kvs : List (List Key × D)} {ns ws : List Int} (h1 : ρ[i]? = some (some (.mt kvs))) (h2 : ρ[k]? = some (some (.fz (.lst (ns.map D.int))))) (h3 : valsK kvs (kvs.map (·.1)) = some ws) (h4 : c < ρ.length) (h5 : ns.length + ws.length ≤ 1000) :
    sGather i c k ρ = .ok .nx ((ρ.set k (some (.fz (.lst ((gath ns ws).map D.int))))).set c none) := by
  unfold sGather
  rw [h1, h2]
  simp only [ints_map, h3]
  rw [if_pos ⟨h4, h5⟩]
end
end TP
set_option Elab.async false
set_option linter.all false
set_option maxRecDepth 100000
set_option maxHeartbeats 1001234
/-! enumerate(a tuple). -/
namespace TP
open PySem L2 PyProof.Rows PySem.Spec
open AutoSeq1
        (wpAny_loadPart')
theorem meets_enumerate_newT (l : Addr) (items : Array Value) (n : Nat) (dct : Option Addr) (sl : Array (Option Value)) :
    Meets (Builtin.«enumerate.__new__» ⟨[.type "enumerate", .ref l], []⟩) (fun _ R s => s.heap.get? l = some { cls := .type "tuple", data := .seq items n, dict := dct, slots := sl } ∧
      R (.ok (.ret (.ref (s.heap.push { cls := .type "tuple_iterator", data := .fields #[.ref l, .int 0 0] }).objs.size)))
        { s with heap := (s.heap.push { cls := .type "tuple_iterator", data := .fields #[.ref l, .int 0 0] }).push { cls := .type "enumerate", data := .fields #[.none, .bool false, .ref s.heap.objs.size, rawInt 0, .none, .none] } }) :=
  .of_wp fun prog w₀ A R s h => by
    obtain ⟨hp, g₀, d, tk, os⟩ := s; obtain ⟨hl₀, h⟩ := h
    have hsub := PySem.sub_enumerate
    have hT : Heap.IsTuple (Shared.heap ⟨hp, g₀, d, tk, os⟩) l items := ⟨_, hl₀, rfl, n, rfl⟩
    wp_walk using wpAny_loadPart' hl₀
    refine wpAny_stack_any fun st₀ => wpAny_pure ?_
    split
    · rename_i c₀ _ _ _ _ _
      cases (c₀ == Value.type "enumerate")
      · wp_walk using wpAny_loadPart' hl₀, wpAny_pyIter_tuple hT
        exact ⟨_, rfl, h⟩
      · wp_walk using wpAny_loadPart' hl₀, wpAny_pyIter_tuple hT
        exact ⟨_, rfl, h⟩
    · wp_walk using wpAny_loadPart' hl₀, wpAny_pyIter_tuple hT
      exact ⟨_, rfl, h⟩
section
variable {prog : Program} {w : World} {A :
        Around} {E : Value → Shared → Prop} {s : Shared}
theorem call_enumerate_tup {l : Addr} {items : Array Value} {Q : Value → Shared → Prop} (hL : s.heap.IsTuple l items)
    (h : ∀ h', IsEnum h' (s.heap.objs.size + 1) s.heap.objs.size 0 .none → h'.IsTupleIter s.heap.objs.size l 0 → h'.objs.size = s.heap.objs.size + 2 →
      (∀ b o, s.heap.get? b = some o → h'.get? b = some o) → Q
              (.ref (s.heap.objs.size + 1)) { s with heap := h' }) :
    wpAny (model prog w) A (call (.type
            "enumerate") [.ref l]) Q E s := by
  obtain ⟨⟨c₀, dct, dt₀, sl⟩, hl, hc, n, hd⟩ := hL
  replace hc : c₀ = .type "tuple" := hc
  replace hd : dt₀ = .seq items n := hd
  subst hc hd
  refine callType_new PySem.F.called_enumerate (by decide) (PySem.F.typeCall_enumerate_1 _) (PySem.F.newCall_enumerate_1 _) (fun obj => PySem.F.args_object_init_2 obj _) PySem.F.entry_enumerate_new
    (meets_enumerate_newT l items n dct sl) ⟨hl, ?_⟩
  have hz : (s.heap.push { cls := .type "tuple_iterator", data := .fields #[.ref l, .int 0 0] }).objs.size = s.heap.objs.size + 1 := Heap.size_push ..
  show _ ∧ _
  rw [hz]
  have he : IsEnum ((s.heap.push { cls := .type "tuple_iterator", data := .fields #[.ref l, .int 0 0] }).push
      { cls := .type "enumerate", data := .fields #[.none, .bool false, .ref s.heap.objs.size,
              rawInt 0, .none, .none] }) (s.heap.objs.size + 1) s.heap.objs.size 0 .none := by
    have := Heap.get?_push_size (s.heap.push { cls := .type "tuple_iterator", data := .fields #[.ref l, .int 0 0] })
      (o := { cls := .type "enumerate", data := .fields #[.none, .bool
              false, .ref s.heap.objs.size, rawInt 0, .none, .none] }) rfl
    rw [hz] at this; exact this
  refine ⟨⟨_, he, rfl⟩, h _ he ⟨_, Heap.get?_push_of_some _ (Heap.get?_push_size _ rfl), rfl, rfl⟩ (by rw [Heap.size_push, hz]) fun b o x₀ => Heap.get?_push_of_some _ (Heap.get?_push_of_some _ x₀)⟩
end
/-- the tuple at a, each item in a new pair -/
def Itet (K : PySem.W.Frag) (a : Addr) : It :=
  ⟨fun i H => ∃ (xs : List V) (x : V), SqT K H a xs ∧ xs[i]? = some x, fun i H v H' => ∃ T x, v = .ref T ∧ H T = none ∧ H' = upd H T (.tup [.int (i : Nat), x]) ∧ ∀ xs, SqT K H a xs → xs[i]? = some x, fun i H => ∃ xs : List V, SqT K H a xs ∧ xs.length ≤ i⟩
theorem turn_enumT {P : Program} {w : World} {K : PySem.W.Frag} {elts : List Expr} {kk : Nat} {tpos : Pos} (a e it : Addr) :
    Turn P w K (.Tuple elts kk tpos) (Itet K a) [e, it] e (fun i h => (∃ old, IsEnum h e it ((i : Nat) : Int) old) ∧ h.IsTupleIter it a i ∧ e ≠ it ∧ a ≠ it ∧ a ≠ e) where
  mem := by simp
  obj := fun i h st b hb₀ => by
    obtain ⟨⟨old, he₀⟩, ⟨o₀, ho, hc, hd⟩, _⟩ := st
    have e' : b = e ∨ b = it := by simpa using hb₀
    rcases e' with z | z
    · rw [z]; exact ⟨_, he₀, fun v q₀ => nomatch q₀⟩
    · rw [z]; exact ⟨o₀, ho, fun v q₀ => by rw [hd] at q₀; cases q₀⟩
  keep := fun i h h' st k => let ⟨⟨old, he₀⟩, hi, hne⟩ := st; ⟨⟨old, k e (by simp) _ he₀⟩, hi.at fun o₀ q₀ => k it (by simp) o₀ q₀, hne⟩
  item := by
    intro X₀ hP hw hK hc i pins s σ H E I₀ hf st hg
    subst hP hw hK
    obtain ⟨⟨old, he₀⟩, hit, hne, na, nb⟩ := st
    obtain ⟨xs, x, hq, hx⟩ := hg
    obtain ⟨its, rv, p, hz⟩ := I₀.tuple hq
    obtain ⟨u, hu₀, ru⟩ := rv.get hx
    have hel : e < s.heap.objs.size := Heap.lt_size he₀
    have hil : it < s.heap.objs.size := by obtain ⟨_, q₀, _⟩ := hit; exact Heap.lt_size q₀
    have hlt : i < its.toArray.size := by
      have := (List.getElem?_eq_some_iff.mp hu₀).1
      simpa using this
    have D := PySem.Draws.tuple (prog := X₀.prog) (w := X₀.w) (A := X₀.A.in1) (I₀.ok.hd hc) it a na its.toArray
    refine wpAny_pyNext_enum_itemD D he₀ ⟨hit, (show s.heap.IsTuple a its.toArray from p)⟩ hlt hne (by simp [hne, Ne.symm nb]) fun x' h' tk hP ho hit' hT hsz hk => ?_
    have hxu : x' = u := by
      have : its.toArray[i]? = some x' := hP
      rw [List.getElem?_toArray, hu₀] at this
      exact (Option.some.inj
              this).symm
    subst hxu
    refine ⟨_, rfl, wpAny_letOwnedTupleGo_enum (s := { s with heap := h', toks := tk + 1 }) ho fun h'' he' sb => ?_⟩
    have hT2 : h''.get? s.heap.objs.size = some { cls := .type "tuple", data := .seq #[.int i tk, x'] } := (sb.2 _ (Nat.ne_of_gt hel)).trans hT
    have new : ObjOk X₀.prog X₀.w (upd H s.heap.objs.size (.tup [.int (i : Nat), x])) h'' s.heap.objs.size (.tup [.int (i : Nat), x]) :=
      ⟨by show 2 ≤ sizeLine; decide, [.int i tk, x'], .cons ⟨_, rfl⟩ (.cons ru .nil), ⟨_, hT2, rfl, _, rfl⟩⟩
    have I1 : Inv X₀ pins σ (upd H s.heap.objs.size (.tup [.int (i : Nat), x])) { s with heap := h'', toks := tk + 1 } :=
      I₀.turnedNew (ch := [e, it]) (fun b ob hb₀ q₀ => (sb.2 b (fun z => hb₀ (by simp [z]))).trans (hk b ob (fun z => hb₀ (by simp [z])) (fun z => hb₀ (by simp [z])) q₀)) hf (Nat.le_refl _) new
    refine ⟨.ref s.heap.objs.size, _, I1, rfl, ⟨_, x, rfl, I₀.hok.fresh (Nat.le_refl _), rfl, fun ys hy => by rw [I₀.tuple_inj hy hq]; exact hx⟩, ⟨⟨x', ?_⟩, hit'.1.at fun o₀ q₀ => (sb.2 it (Ne.symm hne)).trans q₀, hne, na, nb⟩, fun b hb₀ => ?_⟩
    · have e1₀ : ((i + 1 : Nat) : Int) = (i : Int) + 1 := by omega
      rw [e1₀]; exact he'
    · have hb'₀ : b < s.heap.objs.size := by
        have e' : b = e ∨ b = it := by simpa using hb₀
        rcases e' with z | z
        · rw [z]; exact hel
        · rw [z]; exact hil
      rw [upd_ne (Nat.ne_of_lt hb'₀)]
      exact (hf b hb₀).1
  done := by
    intro X₀ hP hw hK hc i pins s σ H E I₀ hf st hg
    subst hP hw hK
    obtain ⟨⟨old, he₀⟩, hit, hne, na, nb⟩ := st
    obtain ⟨xs, hq, hx⟩ := hg
    obtain ⟨its, rv, p, hz⟩ := I₀.tuple hq
    obtain ⟨f0₀, f1, f2, f3, f4, f5⟩ := hf it (by simp)
    have hl := rv.length
    have hlen : its.toArray.size ≤ i := by simp; omega
    have hT : Heap.IsTuple s.heap a its.toArray := p
    have hT2 : s.TypeIs (.ref e) "enumerate" := ⟨_, he₀, rfl⟩
    unfold pyNext
    refine wpAny_bind (wpAny_attempt (wpAny_callSpecial?_slot (name := Str.ofString "__next__") hT2 PySem.F.slot_enumerate_next
      (wpAny_call_entry PySem.F.slot_enumerate_next hT2 PySem.F.entry_enumerate_next ?_ (PySem.F.args_enumerate_next_1 _))))
    show wpAny _ _ (field
            (.ref e) 2 >>= _) _ _ _
    refine wpAny_bind (wpAny_field he₀ rfl (x := .ref it) rfl ?_)
    refine wpAny_bind (wpAny_nextOf_tuple_end (I₀.ok.hd hc) hit hT (Array.getElem?_eq_none hlen) fun h' x he' hx' => ?_)
    obtain ⟨o₀, ho, hcc⟩ := hx'
    refine wpAny_bind (wpAny_isInstance (T := "StopIteration") (b := true) ⟨o₀, ho, hcc⟩ isSubtype_stop ?_)
    exact wpAny_pure ⟨rfl, I₀.turned (t' := s.toks) (fun b o₀ hb₀ q₀ => he' b o₀ hb₀ q₀) f0₀ f1 f3 f4 f5⟩
  self := fun A i s Q E st h => let ⟨⟨_, he₀⟩, _⟩ := st; wpAny_pyIter_enum he₀ h
def iEnumT (K : PySem.W.Frag) (ta : TA) : TI := fun σ H R => ta σ H fun vs H1 => ∃ a xs, vs = [.ref a] ∧ SqT K H1 a xs ∧ R (Itet K a) H1
theorem pi_enumT {X : Cx} {e : Expr} {ta : TA} {p pos tpos : Pos} {elts : List Expr} {kk : Nat} (hg : Gl X "enumerate") (hm : X.mg "enumerate" = none) (ha : PA X [e] ta) (hs : starEach [e] X.env = [(false, eval e X.env)] := by rfl) :
    PI X (.Tuple elts kk tpos) (.Call (.Name "enumerate" p) [e] [] pos) (iEnumT X.K ta) := by
  refine ⟨fun pins s₀ σ₀ H R I h => ?_⟩
  refine Call_ (ld_blt I hg hm boot_enumerate (PyProof.Rows.callWith_type1 (thn (ha.run pos pins s₀ σ₀ H _ I h) fun us s1₀ ⟨vs, H1, I1₀, r1, q1⟩ => ?_) hs rfl))
  obtain ⟨a₀, xs, ex, hq, q⟩ := q1
  subst ex
  cases r1 with
  | cons r rr =>
    cases rr
    cases r
    obtain ⟨its, rv, p', hz⟩ := I1₀.tuple hq
    have hT : Heap.IsTuple s1₀.heap a₀ its.toArray := p'
    have hal : a₀ < s1₀.heap.objs.size := by obtain ⟨_, q, _⟩ := hT; exact Heap.lt_size q
    refine call_enumerate_tup hT fun h' he hit hsz hk => wpAny_pyIter_enum he ?_
    have I2 : Inv X pins σ₀ H1 { s1₀ with heap := h' } := I1₀.kept (t' := s1₀.toks) hk
    refine ⟨s1₀.heap.objs.size + 1, [s1₀.heap.objs.size + 1, s1₀.heap.objs.size], _, _, H1, rfl, I2, turn_enumT a₀ (s1₀.heap.objs.size + 1) s1₀.heap.objs.size, ⟨⟨.none, he⟩, hit, Nat.succ_ne_self _, Nat.ne_of_lt hal, Nat.ne_of_lt (Nat.lt_succ_of_lt hal)⟩, fun b hb₀ => ?_, q⟩
    have e' : b = s1₀.heap.objs.size + 1 ∨ b = s1₀.heap.objs.size := by simpa using hb₀
    have hle : s1₀.heap.objs.size ≤ b := by
      rcases e' with z₀ | z₀
      · rw [z₀]; exact Nat.le_add_right _ _
      · rw [z₀]; exact Nat.le_refl _
    exact I1₀.fpOk hle (I1₀.hok.fresh hle)
theorem walk_enumT {K : PySem.W.Frag} {a : Addr} {xs : List V} : Walk (Itet K a) xs.length (fun H => SqT K H a xs) (YPair (fun i => some (.int (i : Nat))) (fun i => xs[i]?)) := by
  refine ⟨fun i _ hi q => ⟨xs, xs[i], q, by simp [hi]⟩, fun _ q => ⟨xs, q, Nat.le_refl _⟩, fun i H v₀ H' _ q y => ?_⟩
  obtain ⟨T₀, x, h1, h2, h3, h4⟩ := y
  exact ⟨T₀, .int (i : Nat), x, h1, h2, h3, rfl, h4 xs q⟩
section
variable {K : PySem.W.Frag} {mg : Str → Option Value} {T : List (Addr × Str)} {E : XK} {X : Cx} {a e : Expr} {fm : S → M D} {te : TE} {p pos tpos : Pos} {elts : List Expr} {kk : Nat}
theorem walkD_enumT {Φ : Hp} {a : Addr} {xs : List V} {ds : List D} (h : SqT K Φ a xs) (s : SeeAll K mg Φ xs ds) : WalkD K mg Φ (Itet K a) (enumD ds) := by
  refine walkD_pair (n := xs.length) (by simp [enumD, SeeAll.length s]) walk_enumT (fun Φ' H' e e' => ex_t (e.trans e') h) fun i x y hi h1 h2 => ?_
  cases h1
  cases q : ds[i]? with
  | none => exact absurd (List.getElem?_eq_none_iff.mp q) (by rw [← SeeAll.length s]; exact Nat.not_le_of_lt hi)
  | some d =>
    obtain ⟨v, e1, e2⟩ := SeeAll.get s q
    rw [h2] at e1
    cases e1
    exact ⟨.int i, d, enumD_get q, .int _, e2⟩
def enumRT : D → R (List D)
  | .tup ds => .ok (enumD ds)
  | _ => .stuck
theorem di_enumT (hm : mg "enumerate" = none) (h : DM K mg E T X a te fm) (hg : Gl X "enumerate" := by rfl) (hs : starEach [a] X.env = [(false, eval a X.env)] := by rfl) :
    DI K mg E T X (.Tuple elts kk tpos) (.Call (.Name "enumerate" p) [a] [] pos) (iEnumT K (tCons te tNil)) (fun ρ => (fm ρ).lift enumRT) := by
  obtain ⟨hk, hm', hp, hi⟩ := h
  subst hk
  refine ⟨rfl, hm', pi_enumT hg (by rw [hm']; exact hm) (pa_cons hp pa_nil hs) hs, fun B Φ H σ ρ s R' z => hi B Φ H σ ρ s _ ?_⟩
  have z : PostMI X.K mg E T B Φ σ ((fm ρ).bind fun a ρ => (enumRT a).toM ρ) R' := z
  cases q : fm ρ with
  | raise x ρ1 => rw [q] at z; exact z
  | stuck => rw [q] at z; exact z
  | ok d ρ1 =>
    rw [q] at z
    intro v Φ' H' e' s' sv
    have z : PostMI X.K mg E T B Φ σ ((enumRT d).toM ρ1) R' := z
    cases d with
    | tup ds =>
      cases sv with
      | tup a r => exact ⟨_, _, rfl, ex_t s'.ex a.t, z _ Φ' H' e' s' (walkD_enumT a.t r)⟩
    | _ => exact z.elim
end
@[simp] theorem enumRT_tup {ds : List D} : enumRT (.tup ds) = .ok (enumD ds) := nr rfl
end TP
set_option Elab.async false
set_option linter.all false
set_option maxRecDepth 100000
/-! Words: what undoes one another is taken out. -/
namespace TP
open PySem L2 PyProof.Rows PySem.Spec LamX
def mate (l : Int) : Int := if l % 2 = 0 then l + 1 else l - 1
theorem mate_mate (l : Int) : mate (mate l) = l := by
  unfold mate
  split <;> split <;> omega
theorem mate_eq {a b : Int} : a = mate b ↔ b = mate a := ⟨fun h => by rw [h, mate_mate], fun h => by rw [h, mate_mate]⟩
theorem xor_small : ∀ l : Fin 64, Builtin.bitXor ((l.val : Nat) : Int) 1 = mate ((l.val : Nat) : Int) := by decide +kernel
theorem xor_mate {l : Int} (h0 : 0 ≤ l) (h1 : l < 64) : Builtin.bitXor l 1 = mate l := by
  have := xor_small ⟨l.toNat, by omega⟩
  rw [show ((l.toNat : Nat) : Int) = l by omega] at this
  exact this
theorem mate_range {l : Int} {n : Nat} (h0 : 0 ≤ l) (h1 : l < (2 * n : Nat)) : 0 ≤ mate l ∧ mate l < (2 * n : Nat) := by
  unfold mate
  split <;> omega
/-- a stack of letters, the last one first; letters that come -/
def red : List Int → List Int → List Int
  | acc, [] => acc
  | [], l :: ls => red [l] ls
  | a :: r, l :: ls => if a = mate l then red r ls else red (l :: a :: r) ls
/-- no two beside one another undo one another -/
def Rd : List Int → Prop
  | a :: b :: r => a ≠ mate b ∧ Rd (b :: r)
  | _ => True
theorem Rd.tail : ∀ {a : Int} {r : List Int}, Rd (a :: r) → Rd r
  | _, [], _ => trivial
  | _, _ :: _, h => h.2
theorem Rd.push {l : Int} : ∀ {acc : List Int}, Rd acc → (∀ a r, acc = a :: r → a ≠ mate l) → Rd (l :: acc)
  | [], _, _ => trivial
  | a :: r, h, k => ⟨fun z => k a r rfl (mate_eq.mp z), h⟩
theorem red_rd : ∀ (ws acc : List Int), Rd acc → Rd (red acc ws)
  | [], acc, h => by
    cases acc <;> exact h
  | l :: ls, [], _ => red_rd ls [l] trivial
  | l :: ls, a :: r, h => by
    unfold red
    by_cases z : a = mate l
    · rw [if_pos z]; exact red_rd ls r h.tail
    · rw [if_neg z]
      exact red_rd ls _ (h.push fun a' r' e => by cases e; exact z)
theorem red_nil (acc : List Int) : red acc [] = acc := by cases acc <;> rfl
theorem red_pop {a l : Int} {r ls : List Int} (h : a = mate l) : red (a :: r) (l :: ls) = red r ls := by
  conv => lhs; unfold red
  exact if_pos h
theorem red_push {l : Int} {ls : List Int} : ∀ {acc : List Int}, (∀ a r, acc = a :: r → a ≠ mate l) → red acc (l :: ls) = red (l :: acc) ls
  | [], _ => rfl
  | a :: r, h => by
    conv => lhs; unfold red
    exact if_neg (h a r rfl)
theorem red_app : ∀ (xs ys acc : List Int), red acc (xs ++ ys) = red (red acc xs) ys
  | [], ys, acc => by rw [red_nil]; rfl
  | x :: xs, ys, [] => red_app xs ys [x]
  | x :: xs, ys, a :: r => by
    by_cases z : a = mate x
    · rw [List.cons_append, red_pop z, red_pop z]; exact red_app xs ys r
    · have k : ∀ a' r', a :: r = a' :: r' → a' ≠ mate x := fun a' r' e => by cases e; exact z
      rw [List.cons_append, red_push k, red_push k]; exact red_app xs ys _
theorem red_cancel {l : Int} {ys : List Int} : ∀ {acc : List Int}, Rd acc → red acc (l :: mate l :: ys) = red acc ys := fun {acc} h => by
  by_cases z : ∃ r, acc = mate l :: r
  · obtain ⟨r, rfl⟩ := z
    rw [red_pop rfl]
    refine red_push fun b r' e => ?_
    subst e
    exact fun w => h.1 (by rw [← mate_eq.mp w])
  · have k : ∀ a r, acc = a :: r → a ≠ mate l := fun a r e w => z ⟨r, by rw [e, w]⟩
    rw [red_push k]
    exact red_pop (mate_mate l).symm
theorem red_mid {l : Int} {xs ys acc : List Int} (h : Rd acc) : red acc (xs ++ l :: mate l :: ys) = red acc (xs ++ ys) := by
  rw [red_app, red_app, red_cancel (red_rd xs acc h)]
theorem red_id : ∀ (ws acc : List Int), Rd (ws.reverse ++ acc) → red acc ws = ws.reverse ++ acc
  | [], acc, _ => by rw [red_nil]; rfl
  | l :: ls, acc, h => by
    rw [List.reverse_cons, List.append_assoc] at h
    have k : ∀ a r, acc = a :: r → a ≠ mate l := fun a r e => by
      subst e
      have g : ∀ (xs : List Int), Rd (xs ++ l :: a :: r) → l ≠ mate a := fun xs => by
        induction xs with
        | nil => exact fun h => h.1
        | cons x xs ih => exact fun h => ih h.tail
      exact fun w => g _ h (mate_eq.mp w)
    rw [red_push k, red_id ls (l :: acc) h, List.reverse_cons, List.append_assoc]
    rfl
/-- the free word -/
def freeW (ws : List Int) : List Int := (red [] ws).reverse
theorem red_red : ∀ (ws st acc : List Int), Rd acc → Rd st → red acc (red st ws).reverse = red acc (st.reverse ++ ws)
  | [], st, acc, _, _ => by rw [red_nil, List.append_nil]
  | l :: ls, st, acc, h, hs => by
    by_cases z : ∃ r, st = mate l :: r
    · obtain ⟨r, rfl⟩ := z
      rw [red_pop rfl, red_red ls r acc h hs.tail, List.reverse_cons, List.append_assoc]
      have := red_mid (l := mate l) (xs := r.reverse) (ys := ls) h
      rw [mate_mate] at this
      exact this.symm
    · have k : ∀ a r, st = a :: r → a ≠ mate l := fun a r e w => z ⟨r, by rw [e, w]⟩
      rw [red_push k, red_red ls (l :: st) acc h (hs.push k), List.reverse_cons, List.append_assoc]
      rfl
theorem freeW_app (a b : List Int) : freeW (freeW a ++ freeW b) = freeW (a ++ b) := by
  unfold freeW
  have r1 := red_red a [] [] trivial trivial
  have r2 := red_red b [] (red [] a) (red_rd a [] trivial) trivial
  rw [red_app, r1, List.reverse_nil, List.nil_append, r2, List.reverse_nil, List.nil_append, ← red_app]
theorem freeW_undone (w : List Int) : freeW (w ++ w.reverse.map mate) = [] := by
  unfold freeW
  have : ∀ n (w : List Int), w.length = n → red [] (w ++ w.reverse.map mate) = [] := fun n => by
    induction n with
    | zero => intro w h; rw [List.length_eq_zero_iff.mp h]; rfl
    | succ n ih =>
      intro w h
      have hne : w ≠ [] := fun z => by rw [z] at h; cases h
      obtain ⟨v, l, rfl⟩ : ∃ v l, w = v ++ [l] := ⟨w.dropLast, w.getLast hne, (List.dropLast_concat_getLast hne).symm⟩
      have hv : v.length = n := by simpa using h
      rw [List.reverse_append, List.reverse_singleton, List.map_append, List.map_singleton, List.append_assoc]
      show red [] (v ++ l :: mate l :: v.reverse.map mate) = []
      rw [red_mid (acc := []) trivial]
      exact ih v hv
  rw [this _ w rfl]; rfl
/-- a pair taken out -/
theorem freeW_pair {l : Int} {xs ys : List Int} : freeW (xs ++ l :: mate l :: ys) = freeW (xs ++ ys) := by
  unfold freeW
  rw [red_mid (acc := []) trivial]
theorem Rd_of_adj : ∀ (ws : List Int), (∀ i a b, ws[i]? = some a → ws[i + 1]? = some b → a ≠ mate b) → Rd ws
  | [], _ => trivial
  | [_], _ => trivial
  | a :: b :: r, h => ⟨h 0 a b rfl rfl, Rd_of_adj (b :: r) fun i x y e1 e2 => h (i + 1) x y (by simpa using e1) (by simpa using e2)⟩
theorem Rd_reverse {ws : List Int} (h : ∀ i a b, ws[i]? = some a → ws[i + 1]? = some b → a ≠ mate b) : Rd ws.reverse := by
  refine Rd_of_adj _ fun i a b e1 e2 => ?_
  have l1 : i + 1 < ws.length := by
    have := (List.getElem?_eq_some_iff.mp e2).1
    simpa using this
  rw [List.getElem?_reverse (by omega)] at e1
  rw [List.getElem?_reverse (by omega)] at e2
  have := h (ws.length - 1 - (i + 1)) b a e2 (by rw [show ws.length - 1 - (i + 1) + 1 = ws.length - 1 - i by omega]; exact e1)
  exact fun z => this (mate_eq.mp z)
/-- nothing to be taken out -/
theorem freeW_done {ws : List Int} (h : ∀ i a b, ws[i]? = some a → ws[i + 1]? = some b → a ≠ mate b) : freeW ws = ws := by
  unfold freeW
  rw [red_id ws [] (by rw [List.append_nil]; exact Rd_reverse h), List.append_nil, List.reverse_reverse]
theorem red_mem : ∀ (ws acc : List Int) (x : Int), x ∈ red acc ws → x ∈ acc ∨ x ∈ ws
  | [], acc, x, h => by rw [red_nil] at h; exact .inl h
  | l :: ls, acc, x, h => by
    by_cases z : ∃ r, acc = mate l :: r
    · obtain ⟨r, rfl⟩ := z
      rw [red_pop rfl] at h
      rcases red_mem ls r x h with h | h
      · exact .inl (List.mem_cons_of_mem _ h)
      · exact .inr (List.mem_cons_of_mem _ h)
    · have k : ∀ a r, acc = a :: r → a ≠ mate l := fun a r e w => z ⟨r, by rw [e, w]⟩
      rw [red_push k] at h
      rcases red_mem ls _ x h with h | h
      · rcases List.mem_cons.mp h with h | h
        · exact .inr (by rw [h]; exact List.mem_cons_self ..)
        · exact .inl h
      · exact .inr (List.mem_cons_of_mem _ h)
theorem red_len : ∀ (ws acc : List Int), (red acc ws).length ≤ acc.length + ws.length
  | [], acc => by rw [red_nil]; simp
  | l :: ls, acc => by
    by_cases z : ∃ r, acc = mate l :: r
    · obtain ⟨r, rfl⟩ := z
      rw [red_pop rfl]
      have := red_len ls r
      simp only [List.length_cons]
      omega
    · have k : ∀ a r, acc = a :: r → a ≠ mate l := fun a r e w => z ⟨r, by rw [e, w]⟩
      rw [red_push k]
      have := red_len ls (l :: acc)
      simp only [List.length_cons] at this ⊢
      omega
theorem freeW_mem {ws : List Int} {x : Int} (h : x ∈ freeW ws) : x ∈ ws := by
  rcases red_mem ws [] x (List.mem_reverse.mp h) with h | h
  · cases h
  · exact h
theorem freeW_len (ws : List Int) : (freeW ws).length ≤ ws.length := by
  have := red_len ws []
  unfold freeW
  simpa using this
/-- a comprehension that draws -/
theorem comp_st {v : Nat} {ef : S → M D} (I : S → Prop) (P : D → Prop) (hI : ∀ ρ, I ρ → ρ[v]? = some none) (step : ∀ d ρ, I ρ → ∃ y ρ', ef (ρ.set v (some (.fz d))) = .ok y (ρ'.set v (some (.fz d))) ∧ I ρ' ∧ P y) :
    ∀ (ds : List D) (τ : S), I (τ.set v none) → ∃ ys ρ', compM [v] (asgN v) (fun ρ => .ok true ρ) ef ds τ = .ok ys ρ' ∧ I ρ' ∧ ys.length = ds.length ∧ ∀ y ∈ ys, P y
  | [], τ, h => ⟨[], τ.set v none, rfl, h, rfl, fun _ m => by cases m⟩
  | d :: ds, τ, h => by
    have hv := hI _ h
    obtain ⟨y, ρ', e, h2, p⟩ := step d _ h
    rw [List.set_set] at e
    have hb : (ρ'.set v (some (Sl.fz d))).set v none = ρ' := by rw [List.set_set]; exact set_none (hI _ h2)
    obtain ⟨ys, ρ2, e2, h3, hl, hp⟩ := comp_st I P hI step ds (ρ'.set v (some (.fz d))) (by rw [hb]; exact h2)
    refine ⟨y :: ys, ρ2, ?_, h3, by simp [hl], fun z m => ?_⟩
    · unfold compM
      have lt : v < (τ.set v none).length := lt_of_get hv
      rw [show asgN v d (wipeR τ [v]) = some (τ.set v (some (.fz d))) from by
        show (if v < (τ.set v none).length then some ((τ.set v none).set v (some (.fz d))) else none) = _
        rw [if_pos lt, List.set_set]]
      simp only [noX_ok, bindM_ok, if_true, e, e2]
    · rcases List.mem_cons.mp m with m | m
      · rw [m]; exact p
      · exact hp z m
theorem all_ints {P : Int → Prop} : ∀ ys : List D, (∀ y ∈ ys, ∃ i, y = .int i ∧ P i) → ∃ ns : List Int, ys = ns.map D.int ∧ ∀ n ∈ ns, P n
  | [], _ => ⟨[], rfl, fun _ m => by cases m⟩
  | y :: ys, h => by
    obtain ⟨i, rfl, p⟩ := h y (List.mem_cons_self ..)
    obtain ⟨ns, rfl, q⟩ := all_ints ys fun z m => h z (List.mem_cons_of_mem _ m)
    exact ⟨i :: ns, rfl, fun n m => by
      rcases List.mem_cons.mp m with m | m
      · rw [m]; exact p
      · exact q n m⟩
end TP
set_option Elab.async false
set_option linter.all false
set_option maxRecDepth 100000
/-! Rounds: words up to turns and pairs taken out. -/
namespace TP
open PySem L2 PyProof.Rows PySem.Spec LamX
/-! ### the least one -/
theorem lexL_tri : ∀ a b : List Int, lexL a b = false → lexL b a = false → a = b
  | [], [], _, _ => rfl
  | [], _ :: _, h,
          _ => by cases h
  | _ :: _, [], _,
          h => by cases h
  | x :: xs, y :: ys, h1, h2 => by
    unfold lexL at h1 h2
    by_cases z : x = y
    · subst z
      rw [if_pos rfl] at h1 h2
      rw [lexL_tri xs ys h1 h2]
    · rw [if_neg z] at h1
      rw [if_neg (Ne.symm z)] at h2
      have h1 := of_decide_eq_false h1
      have h2 := of_decide_eq_false h2
      omega
theorem lexL_irr : ∀ a : List Int, lexL a a = false
  | [] => rfl
  | x :: xs => by
    unfold lexL
    rw [if_pos rfl, lexL_irr xs]
theorem lexL_trans : ∀ a b c : List Int, lexL a b = true → lexL b c = true → lexL a c = true
  | a, b, [], _, h => by
    cases b with
    | nil => cases h
    | cons y ys => cases h
  | [], _, _ :: _, _, _ => rfl
  | _ :: _, [], _ :: _, h, _ => by cases h
  | x :: xs, y :: ys,
          z :: zs, h1, h2 => by
    unfold lexL at h1 h2 ⊢
    by_cases e1 : x = y
    · subst e1
      rw [if_pos rfl] at h1
      by_cases e2 : x = z
      · subst e2
        rw [if_pos rfl] at h2 ⊢
        exact lexL_trans xs ys zs h1 h2
      · rw [if_neg e2] at h2 ⊢
        exact h2
    · rw [if_neg e1] at h1
      have h1 := of_decide_eq_true h1
      by_cases e2 : y = z
      · subst e2
        rw [if_neg e1]
        exact decide_eq_true h1
      · rw [if_neg e2] at h2
        have h2 := of_decide_eq_true h2
        rw [if_neg (by omega)]
        exact decide_eq_true
                (by omega)
theorem minL_spec : ∀ (as : List (List Int)) (a : List Int), minL a as ∈ a :: as ∧ ∀ x ∈ a :: as, lexL x (minL a as) = false
  | [], a => ⟨List.mem_cons_self .., fun x h => by
    rcases List.mem_cons.mp
            h with rfl | h
    · exact lexL_irr _
    · cases h⟩
  | b :: as, a => by
    have e : minL a (b :: as) = minL (if lexL b a = true then b else a) as := rfl
    rw [e]
    obtain ⟨h1, h2⟩ := minL_spec as (if lexL b a = true then b else a)
    have h3 := h2 _ (List.mem_cons_self ..)
    refine ⟨?_, fun x hx => ?_⟩
    · rcases List.mem_cons.mp h1 with h | h
      · rw [h]; split
        · exact List.mem_cons_of_mem _ (List.mem_cons_self ..)
        · exact List.mem_cons_self ..
      · exact List.mem_cons_of_mem _ (List.mem_cons_of_mem _ h)
    · rcases List.mem_cons.mp hx with rfl | hx
      · by_cases z : lexL b x = true
        · rw [if_pos z] at h3 ⊢
          cases q : lexL x (minL b as) with
          | false => rfl
          | true => rw [lexL_trans _ _ _ z q] at h3; cases h3
        · rw [if_neg z] at h3 ⊢
          exact h3
      · rcases List.mem_cons.mp hx with rfl | hx
        · by_cases z : lexL x a = true
          · rw [if_pos z] at h3 ⊢; exact h3
          · rw [if_neg z] at h3 h2 ⊢
            cases q : lexL x (minL a as) with
            | false => rfl
            | true =>
              rcases List.mem_cons.mp (show minL a as ∈ a :: as from by rw [if_neg z] at h1; exact h1) with h | h
              · rw [h] at q; exact absurd q z
              · cases w : lexL a (minL a as) with
                | true => rw [w] at h3; cases h3
                | false =>
                  cases w2 : lexL (minL a as) a with
                  | false => rw [lexL_tri _ _ w2 w] at q; exact absurd q z
                  | true => exact absurd (lexL_trans _ _ _ q w2) z
        · exact h2 x (List.mem_cons_of_mem _ hx)
theorem minL_same {a b : List Int} {as bs : List (List Int)} (h : ∀ x, x ∈ a :: as ↔ x ∈ b :: bs) : minL a as = minL b bs := by
  obtain ⟨h1, h2⟩ := minL_spec as a
  obtain ⟨h3, h4⟩ := minL_spec bs b
  exact lexL_tri _ _ (h4 _ ((h _).mp h1)) (h2 _ ((h _).mpr h3))
/-! ### turns -/
def Rot (a b : List Int) : Prop := ∃ x y, a = x ++ y ∧ b = y ++ x
theorem Rot.refl (a : List Int) : Rot a a := ⟨[], a, rfl, by simp⟩
theorem Rot.symm {a b : List Int} (h : Rot a b) : Rot b a := by
  obtain ⟨x, y, rfl, rfl⟩ := h
  exact ⟨y, x, rfl, rfl⟩
theorem Rot.trans {a b c : List Int} (h : Rot a b) (k : Rot b c) : Rot a c := by
  obtain ⟨x, y, rfl, rfl⟩ := h
  obtain ⟨u, v, e, rfl⟩ := k
  rcases List.append_eq_append_iff.mp e with ⟨t, rfl, rfl⟩ | ⟨t, rfl, rfl⟩
  · exact ⟨t, v ++ y, by simp, by simp⟩
  · exact ⟨x ++ u, t, by simp, by simp⟩
def rots (w : List Int) : List (List Int) := (List.range (max 1 w.length)).map fun k => w.drop k ++ w.take k
theorem mem_rots {w x : List Int} : x ∈ rots w ↔ Rot w x := by
  unfold rots
  rw [List.mem_map]
  constructor
  · rintro ⟨k, _, rfl⟩
    exact ⟨w.take k, w.drop k, by simp, rfl⟩
  · rintro ⟨u, v, rfl, rfl⟩
    by_cases z : v = []
    · subst z
      exact ⟨0, List.mem_range.mpr (by omega), by simp⟩
    · have : 0 < v.length := List.length_pos_iff.mpr z
      exact ⟨u.length, List.mem_range.mpr (by simp; omega), by simp⟩
def leastT (w : List Int) : List Int := minL w (rots w)
theorem self_rots (w : List Int) : w ∈ rots w := mem_rots.mpr (Rot.refl w)
theorem leastT_rot (w : List Int) : Rot w (leastT w) := by
  rcases List.mem_cons.mp (minL_spec (rots w) w).1 with h | h
  · unfold leastT; rw [h]; exact Rot.refl w
  · exact mem_rots.mp h
theorem leastT_iff {a b : List Int} : leastT a = leastT b ↔ Rot a b := by
  constructor
  · intro h
    have := leastT_rot b
    rw [← h] at this
    exact (leastT_rot a).trans this.symm
  · intro h
    refine minL_same fun x => ?_
    have key : ∀ w : List Int, x ∈ w :: rots w ↔ Rot w x := fun w => by
      rw [List.mem_cons, mem_rots]
      exact ⟨fun k => k.elim (fun e => by rw [e]; exact Rot.refl _) id, .inr⟩
    rw [key, key]
    exact ⟨fun k => h.symm.trans k, fun k => h.trans k⟩
/-- the rows of turns, the first one ahead -/
theorem leastT_of {w a : List Int} {as : List (List Int)} (h : ∀ x, x ∈ a :: as ↔ Rot w x) : minL a as = leastT w := by
  refine minL_same fun x => ?_
  rw [h, List.mem_cons, mem_rots]
  exact ⟨.inr, fun k => k.elim (fun e => by rw [e]; exact Rot.refl _) id⟩
/-! ### ends that undo one another -/
def inv (p : List Int) : List Int := p.reverse.map mate
theorem inv_cons (x : Int) (p : List Int) : inv (x :: p) = inv p ++ [mate x] := by simp [inv]
def CR (s : List Int) : Prop := ∀ x m, s ≠ x :: (m ++ [mate x])
def Core (w s : List Int) : Prop := CR s ∧ ∃ p, w = p ++ s ++ inv p
theorem Core.self {s : List Int} (h : CR s) : Core s s := ⟨h, [], by simp [inv]⟩
theorem Core.wrap {w s : List Int} {x : Int} (h : Core w s) : Core (x :: (w ++ [mate x])) s := by
  obtain ⟨h, p, rfl⟩ := h
  exact ⟨h, x :: p, by rw [inv_cons]; simp⟩
theorem core_uniq : ∀ (p p' : List Int) {s s' : List Int}, CR s → CR s' → p ++ s ++ inv p = p' ++ s' ++ inv p' → s = s'
  | [], [], s, s', _, _, e => by simpa [inv] using e
  | [], x :: q, s, s', h, _, e => by
    exfalso
    refine h x (q ++ s' ++ inv q) ?_
    rw [inv_cons] at e
    simpa [inv] using e
  | x :: q, [], s, s', _, h, e => by
    exfalso
    refine h x (q ++ s ++ inv q) ?_
    rw [inv_cons] at e
    simpa [inv] using e.symm
  | x :: q, y :: q', s, s', h, h', e => by
    rw [inv_cons, inv_cons] at e
    simp only [List.cons_append, List.cons.injEq] at e
    obtain ⟨rfl, e⟩ := e
    rw [← List.append_assoc, ← List.append_assoc] at e
    exact core_uniq q q' h h' (List.append_cancel_right e)
theorem Core.uniq {w s s' : List Int} (h : Core w s) (k : Core w s') : s = s' := by
  obtain ⟨h, p, rfl⟩ := h
  obtain ⟨k, p', e⟩ := k
  exact core_uniq p p' h k e
theorem core_ex : ∀ (n : Nat) (w : List Int), w.length ≤ n → ∃ s, Core w s
  | 0, w, h => ⟨[], by
    rw [List.length_eq_zero_iff.mp (Nat.le_zero.mp h)]
    exact Core.self fun x m e => by cases e⟩
  | n + 1, w, h => by
    by_cases z : ∃ x m, w = x :: (m ++ [mate x])
    · obtain ⟨x, m, rfl⟩ := z
      obtain ⟨s, k⟩ := core_ex n m (by simp at h; omega)
      exact ⟨s, k.wrap⟩
    · exact ⟨w, Core.self fun x m e => z ⟨x, m, e⟩⟩
noncomputable def core (w : List Int) : List Int := (core_ex w.length w (Nat.le_refl _)).choose
theorem core_ok (w : List Int) : Core w (core w) := (core_ex w.length w (Nat.le_refl _)).choose_spec
theorem core_eq {w s : List Int} (h : Core w s) : core w = s := (core_ok w).uniq h
/-- the round of a word -/
noncomputable def roundW (w : List Int) : List Int := leastT (core (freeW w))
/-! ### words that nothing is taken out of -/
theorem Rd_adj : ∀ {w : List Int}, Rd w → ∀ i a b, w[i]? = some a → w[i + 1]? = some b → a ≠ mate b
  | [], _, _, _, _, e, _ => by simp at e
  | [_], _, i, _, _, _, e => by simp at e
  | x :: y :: r, h, 0, a, b, e1, e2 => by
    have e1 : some x = some a := e1
    have e2 : some y = some b := e2
    cases e1; cases e2
    exact h.1
  | x :: y :: r, h, i + 1, a, b, e1, e2 => Rd_adj h.2 i a b (by simpa using e1) (by simpa using e2)
theorem Rd.rev {w : List Int} (h : Rd w) : Rd w.reverse := Rd_reverse (Rd_adj h)
theorem Rd_free (w : List Int) : Rd (freeW w) := (red_rd w [] trivial).rev
theorem free_fix {w : List Int} (h : Rd w) : freeW w = w := freeW_done (Rd_adj h)
theorem Rd.snoc {w : List Int} {l : Int} (h : Rd w) (k : ∀ s a, w = s ++ [a] → a ≠ mate l) : Rd (w ++ [l]) := by
  have e : Rd (w ++ [l]).reverse := by
    rw [List.reverse_append]
    refine (h.rev).push (l := l) fun a r e => ?_
    have : w = r.reverse ++ [a] := by
      have := congrArg List.reverse e
      simpa using this
    exact k _ _ this
  simpa using e.rev
theorem Rd.init {s : List Int} {m : Int} (h : Rd (s ++ [m])) : Rd s := by
  have := h.rev
  rw [List.reverse_append] at this
  have e : Rd s.reverse := this.tail
  simpa using e.rev
theorem free_cons (l : Int) (r : List Int) : freeW (l :: r) = freeW (l :: freeW r) := by
  have e := freeW_app [l] r
  have e1 : freeW [l] = [l] := free_fix trivial
  rw [e1] at e
  exact e.symm
theorem free_snoc (l : Int) (r : List Int) : freeW (r ++ [l]) = freeW (freeW r ++ [l]) := by
  have e := freeW_app r [l]
  have e1 : freeW [l] = [l] := free_fix trivial
  rw [e1] at e
  exact e.symm
/-- a turn by one letter -/
theorem turn1 (l : Int) (r : List Int) : Rot (core (freeW (l :: r))) (core (freeW (r ++ [l]))) := by
  rw [free_cons, free_snoc]
  have h := Rd_free r
  generalize freeW r = w at h
  by_cases z1 : ∃ t, w = mate l :: t
  · obtain ⟨t, rfl⟩ := z1
    have f1 : freeW (l :: mate l :: t) = t := by
      have := freeW_pair (l := l) (xs := []) (ys := t)
      simp only [List.nil_append] at this
      rw [this]
      exact free_fix h.tail
    rw [f1]
    by_cases z2 : ∃ s, mate l :: t = s ++ [mate l]
    · obtain ⟨s, e⟩ := z2
      have f2 : freeW ((mate l :: t) ++ [l]) = s := by
        rw [e, List.append_assoc]
        have := freeW_pair (l := mate l) (xs := s) (ys := [])
        rw [mate_mate, List.append_nil] at this
        show freeW (s ++ [mate l, l]) = s
        rw [this]
        rw [e] at h
        exact free_fix h.init
      rw [f2]
      cases s with
      | nil =>
        have : t = [] := by simpa using e
        subst this
        exact Rot.refl _
      | cons a q =>
        simp only [List.cons_append, List.cons.injEq] at e
        obtain ⟨rfl, rfl⟩ := e
        have c1 : CR (q ++ [mate l]) := fun x m e => by
          cases q with
          | nil => simp at e
          | cons a q =>
            simp only [List.cons_append, List.cons.injEq] at e
            obtain ⟨rfl, e⟩ := e
            have := (List.append_inj' e rfl).2
            simp only [List.cons.injEq, and_true] at this
            exact h.1 this
        have c2 : CR (mate l :: q) := fun x m e => by
          simp only [List.cons.injEq] at e
          obtain ⟨e1, rfl⟩ := e
          rw [← e1] at h
          have : Rd ([mate l] ++ (m ++ [mate (mate l), mate l])) := by simpa using h
          have g : ∀ (xs : List Int) {a b : Int}, Rd (xs ++ [a, b]) → a ≠ mate b := fun xs => by
            induction xs with
            | nil => exact fun h => h.1
            | cons x xs ih => exact fun h => ih h.tail
          rw [← List.append_assoc] at this
          exact g _ this rfl
        rw [core_eq (Core.self c1), core_eq (Core.self c2)]
        exact ⟨q, [mate l], rfl, rfl⟩
    · have f2 : freeW ((mate l :: t) ++ [l]) = mate l :: (t ++ [mate (mate l)]) := by
        rw [mate_mate]
        exact free_fix (h.snoc fun s a e w => z2 ⟨s, by rw [e, w]⟩)
      rw [f2, core_eq (core_ok t).wrap]
      exact Rot.refl _
  · have f1 : freeW (l :: w) = l :: w := by
      refine free_fix ?_
      cases w with
      | nil => trivial
      | cons a t => exact ⟨fun e => z1 ⟨t, by rw [mate_eq.mp e]⟩, h⟩
    rw [f1]
    by_cases z2 : ∃ s, w = s ++ [mate l]
    · obtain ⟨s, rfl⟩ := z2
      have f2 : freeW (s ++ [mate l] ++ [l]) = s := by
        rw [List.append_assoc]
        have := freeW_pair (l := mate l) (xs := s) (ys := [])
        rw [mate_mate, List.append_nil] at this
        show freeW (s ++ [mate l, l]) = s
        rw [this]
        exact free_fix h.init
      rw [f2, core_eq (core_ok s).wrap]
      exact Rot.refl _
    · have f2 : freeW (w ++ [l]) = w ++ [l] := free_fix (h.snoc fun s a e k => z2 ⟨s, by rw [e, k]⟩)
      rw [f2]
      have c1 : CR (l :: w) := fun x m e => by
        simp only [List.cons.injEq] at e
        obtain ⟨rfl, rfl⟩ := e
        exact z2 ⟨m, rfl⟩
      have c2 : CR (w ++ [l]) := fun x m e => by
        cases w with
        | nil => simp at e
        | cons a q =>
          simp only [List.cons_append, List.cons.injEq] at e
          obtain ⟨rfl, e⟩ := e
          have := (List.append_inj' e rfl).2
          simp only [List.cons.injEq, and_true] at this
          exact z1 ⟨q, by rw [mate_eq.mp this]⟩
      rw [core_eq (Core.self c1), core_eq (Core.self c2)]
      exact ⟨[l], w, rfl, rfl⟩
theorem round_turn1 (l : Int) (r : List Int) : roundW (l :: r) = roundW (r ++ [l]) := leastT_iff.mpr (turn1 l r)
theorem round_turn : ∀ (x y : List Int), roundW (x ++ y) = roundW (y ++ x)
  | [], y => by simp
  | l :: x, y => by
    show roundW (l :: (x ++ y)) = _
    rw [round_turn1, List.append_assoc, round_turn x (y ++ [l])]
    simp
theorem round_pair {l : Int} {xs ys : List Int} : roundW (xs ++ l :: mate l :: ys) = roundW (xs ++ ys) := by
  unfold roundW
  rw [freeW_pair]
theorem free_inv (a : List Int) : freeW (inv a ++ a) = [] := by
  have e := freeW_undone (inv a)
  have : (inv a).reverse.map mate = a := by
    unfold inv
    rw [← List.map_reverse, List.reverse_reverse, List.map_map]
    have : mate ∘ mate = id := funext fun l => mate_mate l
    rw [this, List.map_id]
  rw [this] at e
  exact e
theorem round_ahead (a w : List Int) : roundW (a ++ w ++ inv a) = roundW w := by
  rw [List.append_assoc, round_turn a (w ++ inv a), List.append_assoc]
  unfold roundW
  rw [← freeW_app w (inv a ++ a), free_inv, List.append_nil, free_fix (Rd_free w)]
end TP
set_option Elab.async false
set_option linter.all false
set_option maxRecDepth 100000
/-! Periods of words: what is gone several times. -/
namespace TP
open PySem L2 PyProof.Rows PySem.Spec LamX
def timesW (n : Nat) (w : List Int) : List Int := (List.replicate n w).flatten
theorem timesW_succ (n : Nat) (w : List Int) : timesW (n + 1) w = w ++ timesW n w := by
  unfold timesW
  rw [List.replicate_succ,
          List.flatten_cons]
theorem timesW_len (n : Nat) (w : List Int) : (timesW n w).length = n * w.length := rep_len w n
theorem timesW_one (w : List Int) : timesW 1 w = w := by
  rw [timesW_succ]
  unfold timesW
  simp
/-- turned by m -/
def rotN (m : Nat) (w : List Int) : List Int := w.drop m ++ w.take m
theorem rotN_len {m : Nat} {w : List Int} (h : m ≤ w.length) : (rotN m w).length = w.length := by
  unfold rotN; simp; omega
theorem rotN_get {m : Nat} {w : List Int} (h : m ≤ w.length) (i : Nat) (hi : i < w.length) : (rotN m w)[i]? = w[(i + m) % w.length]? := by
  unfold rotN
  by_cases z : i + m < w.length
  · rw [List.getElem?_append_left (by simp; omega), List.getElem?_drop, Nat.mod_eq_of_lt z, Nat.add_comm]
  · rw [List.getElem?_append_right (by simp; omega), List.getElem?_take, List.length_drop]
    have e : (i + m) % w.length = i + m - w.length := by
      rw [Nat.mod_eq_sub_mod (by omega), Nat.mod_eq_of_lt (by omega)]
    rw [e, if_pos (by omega), show i - (w.length - m) = i + m - w.length by omega]
theorem ext_get {a b : List Int} (hl : a.length = b.length) (h : ∀ i, i < a.length → a[i]? = b[i]?) : a = b := by
  refine List.ext_getElem? fun i => ?_
  by_cases z : i < a.length
  · exact h i z
  · rw [List.getElem?_eq_none (by omega), List.getElem?_eq_none (by omega)]
/-- turned by m it is itself -/
def Per (w : List Int) (m : Nat) : Prop := ∀ i, w[(i + m) % w.length]? = w[i % w.length]?
theorem per_iff {w : List Int} {m : Nat} (h : m ≤ w.length) (h0 : 0 < w.length) : rotN m w = w ↔ Per w m := by
  constructor
  · intro e i
    have lt : i % w.length < w.length := Nat.mod_lt _ h0
    have := rotN_get h (i % w.length) lt
    rw [e, Nat.mod_add_mod] at this
    exact this.symm
  · intro p
    refine ext_get (rotN_len h) fun i hi => ?_
    rw [rotN_len h] at hi
    rw [rotN_get h i hi, p i, Nat.mod_eq_of_lt hi]
theorem Per.mul {w : List Int} {m : Nat} (h : Per w m) : ∀ k, Per w (k * m)
  | 0 => fun i => by rw [Nat.zero_mul, Nat.add_zero]
  | k + 1 => fun i => by
    rw [Nat.succ_mul, ← Nat.add_assoc, h (i + k * m), Per.mul h k i]
theorem Per.full (w : List Int) : Per w w.length := fun i => by rw [Nat.add_mod_right]
/-- the least one divides -/
theorem Per.dvd {w : List Int} {m : Nat} (h : Per w m) (h1 : 0 < m) (hm : ∀ j, 0 < j → j < m → ¬ Per w j) : w.length % m = 0 := by
  by_cases z : w.length % m = 0
  · exact z
  · exfalso
    refine hm (w.length % m) (by omega) (Nat.mod_lt _ h1) fun i => ?_
    have e := Per.mul h (w.length / m) (i + w.length % m)
    have q : i + w.length % m + w.length / m * m = i + w.length := by
      have := Nat.div_add_mod w.length m
      rw [Nat.mul_comm] at this
      omega
    rw [q, Nat.add_mod_right] at e
    exact e.symm
theorem timesW_get (u : List Int) : ∀ (k i : Nat), i < k * u.length → (timesW k u)[i]? = u[i % u.length]?
  | 0, i, h => by simp at h
  | k + 1, i, h => by
    rw [timesW_succ]
    by_cases z : i < u.length
    · rw [List.getElem?_append_left z, Nat.mod_eq_of_lt z]
    · rw [List.getElem?_append_right (by omega), timesW_get u k (i - u.length) (by rw [Nat.succ_mul] at h; omega)]
      rw [Nat.mod_eq_sub_mod (a := i) (by omega)]
/-- a word is its beginning so many times -/
theorem times_iff {w : List Int} {d : Nat} (h0 : 0 < d) (hd : w.length % d = 0) : timesW (w.length / d) (w.take d) = w ↔ Per w d := by
  by_cases hw : w.length = 0
  · have : w = [] := List.length_eq_zero_iff.mp hw
    subst this
    constructor
    · intro _ i; rfl
    · intro _; simp [timesW]
  · have hdl : d ≤ w.length := by
      refine Nat.le_of_dvd (by omega) (Nat.dvd_of_mod_eq_zero hd)
    have tl : (w.take d).length = d := by simp; omega
    have tn : w.length / d * d = w.length := Nat.div_mul_cancel (Nat.dvd_of_mod_eq_zero hd)
    have get : ∀ i, i < w.length → (timesW (w.length / d) (w.take d))[i]? = w[i % d]? := fun i hi => by
      rw [timesW_get _ _ i (by rw [tl, tn]; exact hi), tl, List.getElem?_take, if_pos (Nat.mod_lt _ h0)]
    have mm : ∀ i, i % w.length % d = i % d := fun i => Nat.mod_mod_of_dvd _ (Nat.dvd_of_mod_eq_zero hd)
    constructor
    · intro e i
      have lt1 : (i + d) % w.length < w.length := Nat.mod_lt _ (by omega)
      have lt2 : i % w.length < w.length := Nat.mod_lt _ (by omega)
      have e1 := get _ lt1
      have e2 := get _ lt2
      rw [e] at e1 e2
      rw [e1, e2, mm, mm, Nat.add_mod_right]
    · intro p
      refine ext_get (by rw [timesW_len, tl, tn]) fun i hi => ?_
      rw [timesW_len, tl, tn] at hi
      rw [get i hi]
      have := Per.mul p (i / d) (i % d)
      rw [show i % d + i / d * d = i by rw [Nat.mul_comm]; exact Nat.mod_add_div i d, Nat.mod_eq_of_lt hi, Nat.mod_eq_of_lt (Nat.lt_of_lt_of_le (Nat.mod_lt _ h0) hdl)] at this
      exact this.symm
/-- the least period -/
structure IsPer (w : List Int) (m : Nat) : Prop where
  pos : 0 < m
  le : m ≤ w.length
  per : Per w m
  least : ∀ j, 0 < j → j < m → ¬ Per w j
theorem IsPer.dvd {w : List Int} {m : Nat} (h : IsPer w m) : w.length % m = 0 := h.per.dvd h.pos h.least
theorem IsPer.uniq {w : List Int} {m n : Nat} (h : IsPer w m) (k : IsPer w n) : m = n := by
  rcases Nat.lt_trichotomy m n with z | z | z
  · exact absurd h.per (k.least m h.pos z)
  · exact z
  · exact absurd k.per (h.least n k.pos z)
theorem least_ex (P : Nat → Prop) : ∀ n, P n → ∃ m, m ≤ n ∧ P m ∧ ∀ j, j < m → ¬ P j := fun n => by
  induction n using
          Nat.strongRecOn with
  | ind n ih =>
    intro h
    by_cases z : ∃ j, j < n ∧ P j
    · obtain ⟨j, lt, hj⟩ := z
      obtain ⟨m, h1, h2, h3⟩ := ih j lt hj
      exact ⟨m, by omega, h2, h3⟩
    · exact ⟨n, Nat.le_refl _, h, fun j lt hj => z ⟨j, lt, hj⟩⟩
theorem isPer_ex {w : List Int} (h : 0 < w.length) : ∃ m, IsPer w m := by
  obtain ⟨m, h1, h2, h3⟩ := least_ex (fun m => 0 < m ∧ Per w m) w.length ⟨h, Per.full w⟩
  exact ⟨m, h2.1, h1, h2.2, fun j j0 lt p => h3 j lt ⟨j0, p⟩⟩
end TP
set_option Elab.async false
set_option linter.all false
set_option maxRecDepth 100000
/-! Cycles of a list's rearrangement; lists of tuples, sorted. -/
namespace TP
open PySem L2 PyProof.Rows PySem.Spec LamX
/-! ### sorted -/
theorem leL_trans {a b c : List Int} (h : leL a b = true) (k : leL b c = true) : leL a c = true := by
  unfold leL at *
  simp only [Bool.not_eq_true'] at *
  cases e : lexL c a with
  | false => rfl
  | true =>
    cases e2 : lexL b c with
    | true => exact (lexL_trans b c a e2 e).symm.trans h
    | false =>
      have := lexL_tri b c e2 k
      subst this
      rw [e] at h; cases h
theorem leL_total (a b : List Int) : (leL a b || leL b a) = true := by
  unfold leL
  cases e : lexL b a with
  | false => rfl
  | true =>
    cases e2 : lexL a b with
    | false => rfl
    | true => have := lexL_trans a b a e2 e; rw [lexL_irr] at this; cases this
theorem leL_anti {a b : List Int} (h : leL a b = true) (k : leL b a = true) : a = b := by
  unfold leL at *
  simp only [Bool.not_eq_true'] at *
  exact lexL_tri a b k h
theorem sortL_perm (as : List (List Int)) : (sortL as).Perm as := List.mergeSort_perm _ _
theorem sortL_sorted (as : List (List Int)) : (sortL as).Pairwise fun a b => leL a b = true := List.pairwise_mergeSort (le := leL) (fun _ _ _ => leL_trans) leL_total as
theorem sorted_uniq : ∀ {as bs : List (List Int)}, as.Perm bs → as.Pairwise (fun a b => leL a b = true) → bs.Pairwise (fun a b => leL a b = true) → as = bs
  | [], bs, h, _, _ => (List.Perm.nil_eq h)
  | a :: as, [], h, _, _ => by cases h.symm.nil_eq
  | a :: as, b :: bs, h, p, q => by
    have e : a = b := by
      have ha : a ∈ b :: bs := h.mem_iff.mp (List.mem_cons_self ..)
      have hb : b ∈ a :: as := h.mem_iff.mpr (List.mem_cons_self ..)
      rcases List.mem_cons.mp ha with z | ha
      · exact z
      · rcases List.mem_cons.mp hb with z | hb
        · exact z.symm
        · exact leL_anti ((List.pairwise_cons.mp p).1 b hb) ((List.pairwise_cons.mp q).1 a ha)
    subst e
    rw [sorted_uniq h.cons_inv (List.pairwise_cons.mp p).2 (List.pairwise_cons.mp q).2]
theorem sortL_of_perm {as bs : List (List Int)} (h : as.Perm bs) : sortL as = sortL bs :=
  sorted_uniq ((sortL_perm as).trans (h.trans (sortL_perm bs).symm)) (sortL_sorted as) (sortL_sorted bs)
/-! ### lists without repetition -/
theorem nodup_len : ∀ {l xs : List Int}, l.Nodup → (∀ x ∈ l, x ∈ xs) → l.length ≤ xs.length
  | [], _, _, _ =>
          Nat.zero_le _
  | a :: l, xs, h, k => by
    rw [List.nodup_cons] at h
    have ha := k a (List.mem_cons_self ..)
    have := nodup_len (l := l) (xs := xs.erase a) h.2 fun x hx => (List.mem_erase_of_ne (fun z => h.1 (by rw [← z]; exact hx))).mpr (k x (List.mem_cons_of_mem _ hx))
    rw [List.length_erase_of_mem ha] at this
    have : 0 < xs.length := List.length_pos_of_mem ha
    simp only [List.length_cons]
    omega
theorem nodup_ne {l : List Int} (h : l.Nodup) (i j : Nat) (hij : i < j) (hj : j < l.length) : l[i]? ≠ l[j]? := by
  rw [List.getElem?_eq_getElem (by omega), List.getElem?_eq_getElem hj]
  exact fun z => (List.pairwise_iff_getElem.mp h) i j (by omega) hj hij (Option.some.inj z)
/-! ### going round -/
def it (f : Int → Int) : Nat → Int → Int
  | 0, x => x
  | k + 1, x => f (it f k x)
def goL (f : Int → Int) (k : Nat) (x : Int) : List Int := (List.range k).map fun i => it f i x
theorem goL_len {f : Int → Int} {k : Nat} {x : Int} : (goL f k x).length = k := by simp [goL]
theorem goL_succ {f : Int → Int} {k : Nat} {x : Int} : goL f (k + 1) x = goL f k x ++ [it f k x] := by
  unfold goL
  rw [List.range_succ, List.map_append]; rfl
theorem goL_get {f : Int → Int} {k i : Nat} {x : Int} (h : i < k) : (goL f k x)[i]? = some (it f i x) := by
  unfold goL
  rw [List.getElem?_map, List.getElem?_range h]; rfl
theorem goL_mem {f : Int → Int} {k : Nat} {x y : Int} : y ∈ goL f k x ↔ ∃ i, i < k ∧ it f i x = y := by
  unfold goL
  rw [List.mem_map]
  constructor
  · rintro ⟨i, hi, e⟩; exact ⟨i, List.mem_range.mp hi, e⟩
  · rintro ⟨i, hi, e⟩; exact ⟨i, List.mem_range.mpr hi, e⟩
/-- f rearranges xs -/
structure Pm (f : Int → Int) (xs : List Int) : Prop where
  nd : xs.Nodup
  cl : ∀ x ∈ xs, f x ∈ xs
  inj : ∀ x ∈ xs, ∀ y ∈ xs, f x = f y → x = y
theorem Pm.it {f : Int → Int} {xs : List Int} (h : Pm f xs) {x : Int} (hx : x ∈ xs) : ∀ k, it f k x ∈ xs
  | 0 => hx
  | k + 1 => h.cl _ (h.it hx k)
/-- what is met again first is the beginning -/
theorem go_end {f : Int → Int} {xs : List Int} (h : Pm f xs) {x : Int} (hx : x ∈ xs) {i : Nat} (nd : (goL f i x).Nodup) (hm : it f i x ∈ goL f i x) : it f i x = x := by
  obtain ⟨j, hj, e⟩ := goL_mem.mp hm
  cases j with
  | zero => exact e.symm
  | succ j =>
    exfalso
    cases i with
    | zero => omega
    | succ i =>
      have e2 := h.inj _ (h.it hx j) _ (h.it hx i) e
      have := (nodup_ne nd) j i (by omega) (by rw [goL_len]; omega)
      rw [goL_get (by omega), goL_get (by omega), e2] at this
      exact this rfl
/-- all that is come to, once -/
def IsCyc (f : Int → Int) (w : List Int) : Prop := w ≠ [] ∧ w.Nodup ∧ ∀ i a, w[i]? = some a → w[(i + 1) % w.length]? = some (f a)
theorem goL_cyc {f : Int → Int} {k : Nat} {x : Int} (hk : 0 < k) (nd : (goL f k x).Nodup) (e : it f k x = x) : IsCyc f (goL f k x) := by
  refine ⟨fun z => by have := goL_len (f := f) (k := k) (x := x); rw [z] at this; simp at this; omega, nd, fun i a ha => ?_⟩
  have hi : i < k := by have := (List.getElem?_eq_some_iff.mp ha).1; rw [goL_len] at this; exact this
  rw [goL_get hi] at ha
  cases ha
  rw [goL_len]
  by_cases z : i + 1 = k
  · rw [z, Nat.mod_self, goL_get hk]
    show some x = some (it f (i + 1) x)
    rw [z, e]
  · rw [Nat.mod_eq_of_lt (by omega), goL_get (by omega)]; rfl
theorem cyc_it {f : Int → Int} {w : List Int} (h : IsCyc f w) {i : Nat} {x : Int} (hx : w[i]? = some x) : ∀ t, w[(i + t) % w.length]? = some (it f t x)
  | 0 => by
    have hi := (List.getElem?_eq_some_iff.mp hx).1
    rw [Nat.add_zero, Nat.mod_eq_of_lt hi]; exact hx
  | t + 1 => by
    have := h.2.2 _ _ (cyc_it h hx t)
    rw [Nat.mod_add_mod] at this
    rw [← Nat.add_assoc]; exact this
theorem cyc_rot {f : Int → Int} {w : List Int} (h : IsCyc f w) {x : Int} (hx : x ∈ w) : Rot w (goL f w.length x) := by
  obtain ⟨i, hi⟩ := List.getElem?_of_mem hx
  have lt := (List.getElem?_eq_some_iff.mp hi).1
  refine ⟨w.take i, w.drop i, (List.take_append_drop i w).symm, ?_⟩
  apply List.ext_getElem?
  intro t
  by_cases ht : t < w.length
  · rw [goL_get ht, ← cyc_it h hi t]
    by_cases z : i + t < w.length
    · rw [Nat.mod_eq_of_lt z, List.getElem?_append_left (by rw [List.length_drop]; omega), List.getElem?_drop]
    · rw [List.getElem?_append_right (by rw [List.length_drop]; omega), List.length_drop, List.getElem?_take]
      have e : (i + t) % w.length = t - (w.length - i) := by
        rw [Nat.mod_eq_sub_mod (by omega),
                Nat.mod_eq_of_lt (by omega)]; omega
      rw [if_pos (by omega), e]
  · rw [List.getElem?_eq_none (by rw [goL_len]; omega), List.getElem?_eq_none (by rw [List.length_append, List.length_drop, List.length_take]; omega)]
theorem cyc_len {f : Int → Int} {w v : List Int} (h : IsCyc f w) (k : IsCyc f v) {x : Int} (hx : x ∈ w) (hy : x ∈ v) : w.length ≤ v.length := by
  obtain ⟨i, hi⟩ := List.getElem?_of_mem hx
  obtain ⟨j, hj⟩ := List.getElem?_of_mem hy
  have li := (List.getElem?_eq_some_iff.mp hi).1
  have lj := (List.getElem?_eq_some_iff.mp hj).1
  have e := cyc_it k hj v.length
  rw [Nat.add_mod_right, Nat.mod_eq_of_lt lj, hj] at e
  have e := Option.some.inj e
  have e2 := cyc_it h hi v.length
  rw [← e] at e2
  rcases Nat.lt_or_ge v.length w.length with z | z
  · exfalso
    have ne : (i + v.length) % w.length ≠ i := by
      by_cases q : i + v.length < w.length
      · rw [Nat.mod_eq_of_lt q]; omega
      · rw [Nat.mod_eq_sub_mod (by omega), Nat.mod_eq_of_lt (by omega)]; omega
    have lt2 : (i + v.length) % w.length < w.length := Nat.mod_lt _ (by omega)
    rcases Nat.lt_or_ge i ((i + v.length) % w.length) with q | q
    · exact (nodup_ne h.2.1) i _ q lt2 (hi.trans e2.symm)
    · exact (nodup_ne h.2.1) _ i (by omega) li (e2.trans hi.symm)
  · exact z
theorem cyc_same {f : Int → Int} {w v : List Int} (h : IsCyc f w) (k : IsCyc f v) {x : Int} (hx : x ∈ w) (hy : x ∈ v) : Rot w v := by
  have e : w.length = v.length := Nat.le_antisymm (cyc_len h k hx hy) (cyc_len k h hy hx)
  have a := cyc_rot h hx
  rw [e] at a
  exact a.trans (cyc_rot k hy).symm
theorem rot_mem {a b : List Int} (h : Rot a b) {x : Int} : x ∈ a ↔ x ∈ b := by
  obtain ⟨u, v, rfl, rfl⟩ := h
  rw [List.mem_append, List.mem_append, or_comm]
/-- all cycles, each once -/
structure Cycs (f : Int → Int) (xs : List Int) (cs : List (List Int)) : Prop where
  cyc : ∀ c ∈ cs, IsCyc f c
  sub : ∀ c ∈ cs, ∀ x ∈ c, x ∈ xs
  dj : cs.Pairwise fun c d => ∀ x ∈ c, x ∉ d
  all : ∀ x ∈ xs, ∃ c ∈ cs, x ∈ c
theorem IsCyc.head {f : Int → Int} {w : List Int} (h : IsCyc f w) : ∃ x, x ∈ w := by
  cases w with
  | nil => exact absurd rfl h.1
  | cons x r => exact ⟨x, List.mem_cons_self ..⟩
theorem Cycs.nd {f : Int → Int} {xs : List Int} {cs : List (List Int)} (h : Cycs f xs cs) : (cs.map leastT).Nodup := by
  rw [List.Nodup, List.pairwise_map]
  have hc : ∀ c ∈ cs, ∃ x, x ∈ c := fun c m => (h.cyc c m).head
  refine List.Pairwise.imp_of_mem (fun {c d} hcm hdm dj e => ?_) h.dj
  obtain ⟨x, hx⟩ := hc c hcm
  exact dj x hx ((rot_mem (leastT_iff.mp e)).mp hx)
theorem Cycs.sub_least {f : Int → Int} {xs : List Int} {cs ds : List (List Int)} (h : Cycs f xs cs) (k : Cycs f xs ds) : ∀ a ∈ cs.map leastT, a ∈ ds.map leastT := fun a ha => by
  obtain ⟨c, hc, rfl⟩ := List.mem_map.mp ha
  obtain ⟨x, hx⟩ := (h.cyc c hc).head
  obtain ⟨d, hd, hxd⟩ := k.all x (h.sub c hc x hx)
  exact List.mem_map.mpr ⟨d, hd, leastT_iff.mpr (cyc_same (k.cyc d hd) (h.cyc c hc) hxd hx)⟩
theorem Cycs.uniq {f : Int → Int} {xs : List Int} {cs ds : List (List Int)} (h : Cycs f xs cs) (k : Cycs f xs ds) : (cs.map leastT).Perm (ds.map leastT) :=
  (List.perm_ext_iff_of_nodup h.nd k.nd).mpr fun a => ⟨h.sub_least k a, k.sub_least h a⟩
theorem Cycs.sorted {f : Int → Int} {xs : List Int} {cs ds : List (List Int)} (h : Cycs f xs cs) (k : Cycs f xs ds) : sortL (cs.map leastT) = sortL (ds.map leastT) := sortL_of_perm (h.uniq k)
/-- led by a map that goes along -/
theorem IsCyc.map {f g r : Int → Int} {w : List Int} (h : IsCyc f w) (hr : ∀ x ∈ w, g (r x) = r (f x)) (inj : ∀ x ∈ w, ∀ y ∈ w, r x = r y → x = y) : IsCyc g (w.map r) := by
  refine ⟨fun z => h.1 (List.map_eq_nil_iff.mp z), ?_, fun i a ha => ?_⟩
  · rw [List.Nodup, List.pairwise_map]
    exact List.Pairwise.imp_of_mem (fun {x y} hx hy ne e => ne (inj x hx y hy e)) h.2.1
  · rw [List.getElem?_map] at ha
    obtain ⟨b, hb, rfl⟩ := mapSome ha
    rw [List.length_map, List.getElem?_map, h.2.2 i b hb, hr b (List.mem_of_getElem? hb)]; rfl
theorem Cycs.map {f g r : Int → Int} {xs : List Int} {cs : List (List Int)} (h : Cycs f xs cs) (hr : ∀ x ∈ xs, g (r x) = r (f x)) (inj : ∀ x ∈ xs, ∀ y ∈ xs, r x = r y → x = y) : Cycs g (xs.map r) (cs.map (·.map r)) := by
  refine ⟨fun c hc => ?_, fun c hc x hx => ?_, ?_, fun x hx => ?_⟩
  · obtain ⟨d, hd, rfl⟩ := List.mem_map.mp hc
    exact (h.cyc d hd).map (fun x hx => hr x (h.sub d hd x hx)) fun x hx y hy₀ => inj x (h.sub d hd x hx) y (h.sub d hd y hy₀)
  · obtain ⟨d, hd, rfl⟩ := List.mem_map.mp hc
    obtain ⟨y, hy₀, rfl⟩ := List.mem_map.mp hx
    exact List.mem_map.mpr ⟨y, h.sub d hd y hy₀, rfl⟩
  · rw [List.pairwise_map]
    refine List.Pairwise.imp_of_mem (fun {c d} hc hd dj x hx hx2 => ?_) h.dj
    obtain ⟨y, hy₀, rfl⟩ := List.mem_map.mp hx
    obtain ⟨z, hz, e⟩ := List.mem_map.mp hx2
    have := inj z (h.sub d hd z hz) y (h.sub c hc y hy₀) e
    subst this
    exact dj z hy₀ hz
  · obtain ⟨y, hy₀, rfl⟩ := List.mem_map.mp hx
    obtain ⟨c, hc, hyc⟩ := h.all y hy₀
    exact ⟨_, List.mem_map.mpr ⟨c, hc, rfl⟩, List.mem_map.mpr ⟨y, hyc, rfl⟩⟩
theorem Cycs.perm {f : Int → Int} {xs ys : List Int} {cs : List (List Int)} (h : Cycs f xs cs) (p : xs.Perm ys) : Cycs f ys cs :=
  ⟨h.cyc, fun c hc x hx => p.mem_iff.mp (h.sub c hc x hx), h.dj, fun x hx => h.all x (p.mem_iff.mpr hx)⟩
theorem IsCyc.congr {f g : Int → Int} {w : List Int} (h : IsCyc f w) (e : ∀ x ∈ w, f x = g x) : IsCyc g w := ⟨h.1, h.2.1, fun i a ha => by rw [← e a (List.mem_of_getElem? ha)]; exact h.2.2 i a ha⟩
theorem Cycs.congr {f g : Int → Int} {xs : List Int} {cs : List (List Int)} (h : Cycs f xs cs) (e : ∀ x ∈ xs, f x = g x) : Cycs g xs cs :=
  ⟨fun c hc => (h.cyc c hc).congr fun x hx => e x (h.sub c hc x hx), h.sub, h.dj, h.all⟩
/-- gone the other way -/
theorem IsCyc.rev {f g : Int → Int} {w : List Int} (h : IsCyc f w) (hg : ∀ x ∈ w, g (f x) = x) : IsCyc g w.reverse := by
  have h0 : 0 < w.length := List.length_pos_iff.mpr h.1
  refine ⟨fun z => h.1 (List.reverse_eq_nil_iff.mp z), List.pairwise_reverse.mpr (h.2.1.imp fun ne => ne.symm), fun i a ha => ?_⟩
  have hi : i < w.length := by have := (List.getElem?_eq_some_iff.mp ha).1; rwa [List.length_reverse] at this
  rw [List.getElem?_reverse hi] at ha
  rw [List.length_reverse]
  have lt : (i + 1) % w.length < w.length := Nat.mod_lt _ h0
  rw [List.getElem?_reverse lt]
  obtain ⟨b, hb⟩ : ∃ b, w[w.length - 1 - (i + 1) % w.length]? = some b := ⟨_, List.getElem?_eq_getElem (by omega)⟩
  have e := h.2.2 _ b hb
  have ei : (w.length - 1 - (i + 1) % w.length + 1) % w.length = w.length - 1 - i := by
    by_cases z : i + 1 = w.length
    · rw [z, Nat.mod_self]
      rw [show w.length - 1 - 0 + 1 = w.length by omega, Nat.mod_self]; omega
    · rw [Nat.mod_eq_of_lt (show i + 1 < w.length by omega), Nat.mod_eq_of_lt (by omega)]; omega
  rw [ei, ha] at e
  have e := Option.some.inj e
  rw [hb, e, hg b (List.mem_of_getElem? hb)]
theorem Cycs.rev {f g : Int → Int} {xs : List Int} {cs : List (List Int)} (h : Cycs f xs cs) (hg : ∀ x ∈ xs, g (f x) = x) : Cycs g xs (cs.map List.reverse) := by
  refine ⟨fun c hc => ?_, fun c hc x hx => ?_, ?_, fun x hx => ?_⟩
  · obtain ⟨d, hd, rfl⟩ := List.mem_map.mp hc
    exact (h.cyc d hd).rev fun x hx => hg x (h.sub d hd x hx)
  · obtain ⟨d, hd, rfl⟩ := List.mem_map.mp hc
    exact h.sub d hd x (List.mem_reverse.mp hx)
  · rw [List.pairwise_map]
    exact h.dj.imp fun dj x hx hx2 => dj x (List.mem_reverse.mp hx) (List.mem_reverse.mp hx2)
  · obtain ⟨c, hc, hxc⟩ := h.all x hx
    exact ⟨_, List.mem_map.mpr ⟨c, hc, rfl⟩, List.mem_reverse.mpr hxc⟩
end TP
set_option Elab.async false
set_option linter.all false
set_option maxRecDepth 100000
/-! Bands named as they are met. -/
namespace TP
open PySem L2 PyProof.Rows PySem.Spec LamX
/-- a band more, by the end that is met -/
def stepB (bs : List Int) (e : Int) : List Int := if e ∈ bs ∨ mate e ∈ bs then bs else bs ++ [e]
def nameF : Nat → List Int → Int → Int
  | _, [], _ => 0
  | k, b :: bs, e => if e = b then 2 * (k : Int) else if e = mate b then 2 * (k : Int) + 1 else nameF (k + 1) bs e
def dictF : Nat → List Int → List (Key × D)
  | _, [] => []
  | k, b :: bs => (.inl b, .int (2 * (k : Int))) :: (.inl (mate b), .int (2 * (k : Int) + 1)) :: dictF (k + 1) bs
/-- is named -/
def In (bs : List Int) (e : Int) : Prop := e ∈ bs ∨ mate e ∈ bs
theorem In.cons {b : Int} {bs : List Int} {e : Int} : In (b :: bs) e ↔ e = b ∨ e = mate b ∨ In bs e := by
  unfold In
  simp only [List.mem_cons]
  have : mate e = b ↔ e = mate b := ⟨fun h => by rw [← h, mate_mate], fun h => by rw [h, mate_mate]⟩
  rw [this]
  constructor
  · rintro ((h | h) | (h | h))
    · exact .inl h
    · exact .inr (.inr (.inl h))
    · exact .inr (.inl h)
    · exact .inr (.inr (.inr h))
  · rintro (h | h | h | h)
    · exact .inl (.inl h)
    · exact .inr (.inl h)
    · exact .inl (.inr h)
    · exact .inr (.inr h)
theorem In.mate {bs : List Int} {e : Int} : In bs (mate e) ↔ In bs e := by
  unfold In
  rw [mate_mate, or_comm]
theorem dictF_app : ∀ (bs : List Int) (k : Nat) (e : Int), dictF k (bs ++ [e]) = dictF k bs ++ [(.inl e, .int (2 * ((k + bs.length : Nat) : Int))), (.inl (mate e), .int (2 * ((k + bs.length : Nat) : Int) + 1))]
  | [], k, e => by simp [dictF]
  | b :: bs, k, e => by
    show _ :: _ :: dictF (k + 1) (bs ++ [e]) = _
    rw [dictF_app bs (k + 1) e]
    show _ = (.inl b, .int (2 * (k : Int))) :: (.inl (mate b), .int (2 * (k : Int) + 1)) :: dictF (k + 1) bs ++ _
    rw [List.length_cons, show k + 1 + bs.length = k + (bs.length + 1) by omega]
    rfl
theorem dictF_len : ∀ (bs : List Int) (k : Nat), (dictF k bs).length = 2 * bs.length
  | [], _ => rfl
  | b :: bs, k => by
    show (dictF (k + 1) bs).length + 1 + 1 = _
    rw [dictF_len bs (k + 1), List.length_cons]; omega
theorem dictF_get : ∀ (bs : List Int) (k : Nat) (e : Int), In bs e → getKD (dictF k bs) (.inl e) = some (.int (nameF k bs e))
  | [], _, _, h => by rcases h with h | h <;> cases h
  | b :: bs, k, e, h => by
    unfold dictF nameF getKD
    by_cases h1 : e = b
    · subst h1; rw [List.find?_cons_of_pos (by simp), if_pos rfl]; rfl
    · rw [List.find?_cons_of_neg (by simp; exact fun z => h1 z.symm), if_neg h1]
      by_cases h2 : e = mate b
      · subst h2; rw [List.find?_cons_of_pos (by simp), if_pos rfl]; rfl
      · rw [List.find?_cons_of_neg (by simp; exact fun z => h2 z.symm), if_neg h2]
        refine dictF_get bs (k + 1) e ?_
        rcases In.cons.mp h with h | h | h
        · exact absurd h h1
        · exact absurd h h2
        · exact h
theorem dictF_none : ∀ (bs : List Int) (k : Nat) (e : Int), ¬ In bs e → getKD (dictF k bs) (.inl e) = none
  | [], _, _, _ => rfl
  | b :: bs, k, e, h => by
    have h : ¬ (e = b ∨ e = mate b ∨ In bs e) := fun z => h (In.cons.mpr z)
    simp only [not_or] at h
    unfold dictF getKD
    rw [List.find?_cons_of_neg (by simp; exact fun z => h.1 z.symm), List.find?_cons_of_neg (by simp; exact fun z => h.2.1 z.symm)]
    exact dictF_none bs (k + 1) e h.2.2
theorem put_new {kvs : List (Key × D)} {k : Key} {v : D} (h : getKD kvs k = none) : putKD kvs k v = kvs ++ [(k, v)] := by
  unfold putKD
  rw [if_neg]
  intro z
  obtain ⟨p, hp, e⟩ := List.any_eq_true.mp z
  unfold getKD at h
  rw [Option.map_eq_none_iff, List.find?_eq_none] at h
  exact h p hp e
theorem dictF_put {bs : List Int} {e : Int} (h : ¬ In bs e) : putKD (putKD (dictF 0 bs) (.inl e) (.int ((dictF 0 bs).length : Int))) (.inl (mate e)) (.int ((dictF 0 bs).length + 1 : Int)) = dictF 0 (bs ++ [e]) := by
  have ne : ¬ (e = mate e) := by unfold mate; split <;> omega
  have h2 : getKD (dictF 0 bs ++ [(Sum.inl e, D.int ((dictF 0 bs).length : Int))]) (.inl (mate e)) = none := by
    have q := dictF_none bs 0 (mate e) (fun z => h (In.mate.mp z))
    unfold getKD at q ⊢
    rw [Option.map_eq_none_iff] at q ⊢
    rw [List.find?_append, q]
    simp [ne]
  rw [put_new (dictF_none bs 0 e h), put_new h2, dictF_app, List.append_assoc, dictF_len]
  simp
/-! ### names stay -/
theorem nameF_app : ∀ (bs cs : List Int) (k : Nat) (e : Int), In bs e → nameF k (bs ++ cs) e = nameF k bs e
  | [], _, _, _, h => by rcases h with h | h <;> cases h
  | b :: bs, cs, k, e, h => by
    show nameF k (b :: (bs ++ cs)) e = nameF k (b :: bs) e
    unfold nameF
    by_cases h1 : e = b
    · rw [if_pos h1, if_pos h1]
    · rw [if_neg h1, if_neg h1]
      by_cases h2 : e = mate b
      · rw [if_pos h2, if_pos h2]
      · rw [if_neg h2, if_neg h2]
        refine nameF_app bs cs (k + 1) e ?_
        rcases In.cons.mp h with h | h | h
        · exact absurd h h1
        · exact absurd h h2
        · exact h
theorem nameF_new : ∀ (bs : List Int) (k : Nat) (e : Int), ¬ In bs e → nameF k (bs ++ [e]) e = 2 * ((k + bs.length : Nat) : Int)
  | [], k, e, _ => by simp [nameF]
  | b :: bs, k, e, h => by
    have h : ¬ (e = b ∨ e = mate b ∨ In bs e) := fun z => h (In.cons.mpr z)
    simp only [not_or] at h
    show nameF k (b :: (bs ++ [e])) e = _
    unfold nameF
    rw [if_neg h.1, if_neg h.2.1, nameF_new bs (k + 1) e h.2.2, List.length_cons, show k + 1 + bs.length = k + (bs.length + 1) by omega]
theorem stepB_in (bs : List Int) (e : Int) : In (stepB bs e) e := by
  unfold stepB
  split
  · assumption
  · exact .inl (by simp)
theorem stepB_ext (bs : List Int) (e : Int) : ∃ cs, stepB bs e = bs ++ cs := by
  unfold stepB
  split
  · exact ⟨[], by simp⟩
  · exact ⟨[e], rfl⟩
theorem In.app {bs cs : List Int} {e : Int} (h : In bs e) : In (bs ++ cs) e := h.imp (fun z => List.mem_append_left _ z) fun z => List.mem_append_left _ z
def metB (w : List Int) : List Int := w.foldl stepB []
theorem foldB_ext : ∀ (w bs : List Int), ∃ cs, w.foldl stepB bs = bs ++ cs
  | [], bs => ⟨[], by simp⟩
  | e :: w, bs => by
    obtain ⟨c1, e1⟩ := stepB_ext bs e
    obtain ⟨c2, e2⟩ := foldB_ext w (stepB bs e)
    refine ⟨c1 ++ c2, ?_⟩
    rw [List.foldl_cons, e2, e1, List.append_assoc]
theorem foldB_in : ∀ (w bs : List Int) (e : Int), e ∈ w → In (w.foldl stepB bs) e
  | x :: w, bs, e, h => by
    rw [List.foldl_cons]
    rcases List.mem_cons.mp h with z | h
    · subst z
      obtain ⟨cs, e2⟩ := foldB_ext w (stepB bs e)
      rw [e2]; exact (stepB_in bs e).app
    · exact foldB_in w _ e h
/-- the row, named -/
def named (w : List Int) : List Int := w.map (nameF 0 (metB w))
def nmR : List Int → List Int → List Int
  | _, [] => []
  | bs, e :: r => nameF 0 (stepB bs e) e :: nmR (stepB bs e) r
theorem nmR_eq : ∀ (w bs : List Int), w.map (nameF 0 (w.foldl stepB bs)) = nmR bs w
  | [], _ => rfl
  | e :: w, bs => by
    unfold nmR
    rw [List.map_cons, List.foldl_cons, nmR_eq w]
    obtain ⟨cs, e2⟩ := foldB_ext w (stepB bs e)
    rw [e2, nameF_app _ _ _ _ (stepB_in bs e)]
theorem named_eq (w : List Int) : named w = nmR [] w := nmR_eq w []
/-! ### renamings -/
/-- letters for the ends 0 .. N - 1 -/
structure Ren (N : Nat) (r : Int → Int) : Prop where
  rg : ∀ e, 0 ≤ e → e < (N : Int) → 0 ≤ r e ∧ r e < (N : Int)
  mt : ∀ e, 0 ≤ e → e < (N : Int) → r (mate e) = mate (r e)
  inj : ∀ a, 0 ≤ a → a < (N : Int) → ∀ b, 0 ≤ b → b < (N : Int) → r a = r b → a = b
/-- ends of N -/
abbrev Lt (N : Nat) (w : List Int) : Prop := ∀ e ∈ w, 0 ≤ e ∧ e < (N : Int)
theorem Lt.mate {n : Nat} {e : Int} (h : 0 ≤ e ∧ e < ((2 * n : Nat) : Int)) : 0 ≤ mate e ∧ mate e < ((2 * n : Nat) : Int) := mate_range h.1 h.2
theorem Ren.in_map {n : Nat} {r : Int → Int} (h : Ren (2 * n) r) {bs : List Int} (hb : Lt (2 * n) bs) {e : Int} (he : 0 ≤ e ∧ e < ((2 * n : Nat) : Int)) : In (bs.map r) (r e) ↔ In bs e := by
  unfold In
  rw [← h.mt e he.1 he.2]
  have key : ∀ x, 0 ≤ x ∧ x < ((2 * n : Nat) : Int) → (r x ∈ bs.map r ↔ x ∈ bs) := fun x hx => by
    rw [List.mem_map]
    constructor
    · rintro ⟨y, hy, e⟩
      rw [← h.inj y (hb y hy).1 (hb y hy).2 x hx.1 hx.2 e]; exact hy
    · exact fun z => ⟨x, z, rfl⟩
  rw [key e he, key _ (Lt.mate he)]
theorem Ren.step {n : Nat} {r : Int → Int} (h : Ren (2 * n) r) {bs : List Int} (hb : Lt (2 * n) bs) {e : Int} (he : 0 ≤ e ∧ e < ((2 * n : Nat) : Int)) : stepB (bs.map r) (r e) = (stepB bs e).map r ∧ Lt (2 * n) (stepB bs e) := by
  have q := h.in_map hb he
  unfold In at q
  unfold stepB
  by_cases z : e ∈ bs ∨ TP.mate e ∈ bs
  · rw [if_pos z, if_pos (q.mpr z)]; exact ⟨rfl, hb⟩
  · rw [if_neg z, if_neg (fun w => z (q.mp w))]
    refine ⟨by simp, fun x hx₀ => ?_⟩
    rcases List.mem_append.mp hx₀ with hx₀ | hx₀
    · exact hb x hx₀
    · rw [List.mem_singleton.mp hx₀]; exact he
theorem Ren.name {n : Nat} {r : Int → Int} (h : Ren (2 * n) r) : ∀ {bs : List Int} (hb : Lt (2 * n) bs) (k : Nat) {e : Int} (he : 0 ≤ e ∧ e < ((2 * n : Nat) : Int)), nameF k (bs.map r) (r e) = nameF k bs e
  | [], _, _, _, _ => rfl
  | b :: bs, hb, k, e, he => by
    have hb0 := hb b (List.mem_cons_self ..)
    have k1 : r e = r b ↔ e = b := ⟨fun z => h.inj e he.1 he.2 b hb0.1 hb0.2 z, fun z => by rw [z]⟩
    have k2 : r e = TP.mate (r b) ↔ e = TP.mate b := by
      rw [← h.mt b hb0.1 hb0.2]
      exact ⟨fun z => h.inj e he.1 he.2 _ (Lt.mate hb0).1 (Lt.mate hb0).2 z, fun z => by rw [z]⟩
    show nameF k (r b :: bs.map r) (r e) = nameF k (b :: bs) e
    unfold nameF
    by_cases h1 : e = b
    · rw [if_pos h1, if_pos (k1.mpr h1)]
    · rw [if_neg h1, if_neg (fun z => h1 (k1.mp z))]
      by_cases h2 : e = TP.mate b
      · rw [if_pos h2, if_pos (k2.mpr h2)]
      · rw [if_neg h2, if_neg (fun z => h2 (k2.mp z))]
        exact h.name (fun x hx => hb x (List.mem_cons_of_mem _ hx)) (k + 1) he
theorem Ren.nmR {n : Nat} {r : Int → Int} (h : Ren (2 * n) r) : ∀ (w bs : List Int), Lt (2 * n) w → Lt (2 * n) bs → nmR (bs.map r) (w.map r) = TP.nmR bs w
  | [], _, _, _ => rfl
  | e :: w, bs, hw, hb => by
    have he := hw e (List.mem_cons_self ..)
    obtain ⟨e1, e2⟩ := h.step hb he
    show nameF 0 (stepB (bs.map r) (r e)) (r e) :: TP.nmR (stepB (bs.map r) (r e)) (w.map r) = nameF 0 (stepB bs e) e :: TP.nmR (stepB bs e) w
    rw [e1, h.name e2 0 he, h.nmR w _ (fun x hx => hw x (List.mem_cons_of_mem _ hx)) e2]
/-- a renamed row is named alike -/
theorem named_ren {n : Nat} {r : Int → Int} (h : Ren (2 * n) r) {w : List Int} (hw : Lt (2 * n) w) : named (w.map r) = named w := by
  rw [named_eq, named_eq]
  exact h.nmR w [] hw (fun _ m => by cases m)
/-! ### the least one -/
/-- unlike bands -/
def Apart : List Int → Prop
  | [] => True
  | b :: bs => ¬ In bs b ∧ Apart bs
theorem Apart.snoc : ∀ {bs : List Int} {e : Int}, Apart bs → ¬ In bs e → Apart (bs ++ [e])
  | [], _, _, _ => ⟨fun h => (by rcases h with h | h <;> cases h), trivial⟩
  | b :: bs, e, h, k => by
    have k : ¬ (e = b ∨ e = mate b ∨ In bs e) := fun z => k (In.cons.mpr z)
    simp only [not_or] at k
    refine ⟨fun z => ?_, h.2.snoc k.2.2⟩
    rcases z with z | z
    · rcases List.mem_append.mp z with z | z
      · exact h.1 (.inl z)
      · exact k.1 (List.mem_singleton.mp z).symm
    · rcases List.mem_append.mp z with z | z
      · exact h.1 (.inr z)
      · exact k.2.1 (List.mem_singleton.mp z).symm
theorem stepB_apart {bs : List Int} {e : Int} (h : Apart bs) : Apart (stepB bs e) := by
  unfold stepB
  split
  · exact h
  · rename_i k; exact h.snoc k
/-- r names the bands so, from the k-th on -/
def Agr (r : Int → Int) : Nat → List Int → Prop
  | _, [] => True
  | k, b :: bs => r b = 2 * (k : Int) ∧ Agr r (k + 1) bs
theorem Agr.snoc {r : Int → Int} : ∀ {bs : List Int} {k : Nat} {e : Int}, Agr r k bs → r e = 2 * ((k + bs.length : Nat) : Int) → Agr r k (bs ++ [e])
  | [], k, e, _, h => ⟨by simpa using h, trivial⟩
  | b :: bs, k, e, h, q => ⟨h.1, h.2.snoc (by rw [q, List.length_cons]; omega)⟩
theorem mate_even (k : Nat) : mate (2 * (k : Int)) = 2 * (k : Int) + 1 := by unfold mate; rw [if_pos (by omega)]
theorem Agr.name {n : Nat} {r : Int → Int} (h : Ren (2 * n) r) : ∀ {bs : List Int} {k : Nat} {e : Int}, Agr r k bs → Lt (2 * n) bs → In bs e → r e = nameF k bs e
  | [], _, _, _, _, q => by rcases q with q | q <;> cases q
  | b :: bs, k, e, a, hb, q => by
    have hb0 := hb b (List.mem_cons_self ..)
    unfold nameF
    by_cases h1 : e = b
    · rw [if_pos h1, h1]; exact a.1
    · rw [if_neg h1]
      by_cases h2 : e = mate b
      · rw [if_pos h2, h2, h.mt b hb0.1 hb0.2, a.1, mate_even]
      · rw [if_neg h2]
        refine Agr.name h a.2 (fun x hx => hb x (List.mem_cons_of_mem _ hx)) ?_
        rcases In.cons.mp q with q | q | q
        · exact absurd q h1
        · exact absurd q h2
        · exact q
/-- another end is named above -/
theorem Agr.above {n : Nat} {r : Int → Int} (h : Ren (2 * n) r) : ∀ {bs : List Int} {k : Nat} {e : Int}, Agr r k bs → Lt (2 * n) bs → (0 ≤ e ∧ e < ((2 * n : Nat) : Int)) → ¬ In bs e → 2 * (k : Int) ≤ r e → 2 * ((k + bs.length : Nat) : Int) ≤ r e
  | [], k, e, _, _, _, _, z => by simpa using z
  | b :: bs, k, e, a, hb, he, q, z => by
    have hb0 := hb b (List.mem_cons_self ..)
    have q : ¬ (e = b ∨ e = mate b ∨ In bs e) := fun z => q (In.cons.mpr z)
    simp only [not_or] at q
    have n1 : r e ≠ 2 * (k : Int) := fun w => q.1 (h.inj e he.1 he.2 b hb0.1 hb0.2 (by rw [w, a.1]))
    have n2 : r e ≠ 2 * (k : Int) + 1 := fun w => q.2.1 (h.inj e he.1 he.2 _ (Lt.mate hb0).1 (Lt.mate hb0).2 (by rw [w, h.mt b hb0.1 hb0.2, a.1, mate_even]))
    have := Agr.above h a.2 (fun x hx => hb x (List.mem_cons_of_mem _ hx)) he q.2.2 (by omega)
    rw [List.length_cons]
    omega
theorem least_nmR {n : Nat} {r : Int → Int} (h : Ren (2 * n) r) : ∀ (w bs : List Int), Lt (2 * n) w → Lt (2 * n) bs → Agr r 0 bs → lexL (w.map r) (nmR bs w) = false
  | [], _, _, _, _ => rfl
  | e :: w, bs, hw, hb, a => by
    have he := hw e (List.mem_cons_self ..)
    have hw2 : Lt (2 * n) w := fun x hx₀ => hw x (List.mem_cons_of_mem _ hx₀)
    show lexL (r e :: w.map r) (nameF 0 (stepB bs e) e :: nmR (stepB bs e) w) = false
    unfold lexL
    by_cases q : In bs e
    · have es : stepB bs e = bs := by unfold stepB; exact if_pos q
      rw [es, if_pos (a.name h hb q)]
      exact least_nmR h w bs hw2 hb a
    · have es : stepB bs e = bs ++ [e] := by unfold stepB; exact if_neg q
      have up := a.above h hb he q (by have := (h.rg e he.1 he.2).1; simpa using this)
      rw [es, nameF_new bs 0 e q]
      by_cases z : r e = 2 * ((0 + bs.length : Nat) : Int)
      · rw [if_pos z]
        refine least_nmR h w _ hw2 (fun x hx₀ => ?_) (a.snoc z)
        rcases List.mem_append.mp hx₀ with hx₀ | hx₀
        · exact hb x hx₀
        · rw [List.mem_singleton.mp hx₀]; exact he
      · rw [if_neg z]
        simp only
                [decide_eq_false_iff_not]
        omega
theorem least_named {n : Nat} {r : Int → Int} (h : Ren (2 * n) r) {w : List Int} (hw : Lt (2 * n) w) : lexL (w.map r) (named w) = false := by
  rw [named_eq]
  exact least_nmR h w [] hw (fun _ m => by cases m) trivial
/-! ### naming is a renaming -/
theorem nameF_rg : ∀ (bs : List Int) (k : Nat) (e : Int), In bs e → 2 * (k : Int) ≤ nameF k bs e ∧ nameF k bs e < 2 * ((k + bs.length : Nat) : Int)
  | [], _, _, q => by rcases q with q | q <;> cases q
  | b :: bs, k, e, q => by
    unfold nameF
    rw [List.length_cons]
    by_cases h1 : e = b
    · rw [if_pos h1]; omega
    · rw [if_neg h1]
      by_cases h2 : e = mate b
      · rw [if_pos h2]; omega
      · rw [if_neg h2]
        have := nameF_rg bs (k + 1) e (by
          rcases In.cons.mp q with q | q | q
          · exact absurd q h1
          · exact absurd q h2
          · exact q)
        omega
theorem nameF_mate : ∀ (bs : List Int) (k : Nat) (e : Int), Apart bs → In bs e → nameF k bs (mate e) = mate (nameF k bs e)
  | [], _, _, _, q => by rcases q with q | q <;> cases q
  | b :: bs, k, e, a, q => by
    have nm : ¬ (mate b = b) := by unfold mate; split <;> omega
    unfold nameF
    by_cases h1 : e = b
    · subst h1
      rw [if_pos rfl, if_neg nm, if_pos rfl, mate_even]
    · rw [if_neg h1]
      by_cases h2 : e = mate b
      · subst h2
        rw [mate_mate, if_pos rfl, if_pos rfl, ← mate_even, mate_mate]
      · rw [if_neg h2, if_neg (fun z => h2 (by rw [← z, mate_mate])), if_neg (fun z => h1 (by have := congrArg mate z; rwa [mate_mate, mate_mate] at this))]
        refine nameF_mate bs (k + 1) e a.2 ?_
        rcases In.cons.mp q with q | q | q
        · exact absurd q h1
        · exact absurd q h2
        · exact q
theorem nameF_inj : ∀ (bs : List Int) (k : Nat) (e e' : Int), In bs e → In bs e' → nameF k bs e = nameF k bs e' → e = e'
  | [], _, _, _, q, _, _ => by rcases q with q | q <;> cases q
  | b :: bs, k, e, e', q, q', z => by
    have hr : ∀ x, In (b :: bs) x → x ≠ b → x ≠ mate b → In bs x := fun x q h1 h2 => by
      rcases In.cons.mp q with q | q | q
      · exact absurd q h1
      · exact absurd q h2
      · exact q
    unfold nameF at z
    by_cases h1 : e = b
    · rw [if_pos h1] at z
      by_cases h1' : e' = b
      · rw [h1, h1']
      · rw [if_neg h1'] at z
        by_cases h2' : e' = mate b
        · rw [if_pos h2'] at z; omega
        · rw [if_neg h2'] at z
          have := nameF_rg bs (k + 1) e' (hr e' q' h1' h2'); omega
    · rw [if_neg h1] at z
      by_cases h2 : e = mate b
      · rw [if_pos h2] at z
        by_cases h1' : e' = b
        · rw [if_pos h1'] at z; omega
        · rw [if_neg h1'] at z
          by_cases h2' : e' = mate b
          · rw [h2, h2']
          · rw [if_neg h2'] at z
            have := nameF_rg bs (k + 1) e' (hr e' q' h1' h2'); omega
      · rw [if_neg h2] at z
        have r1 := nameF_rg bs (k + 1) e (hr e q h1 h2)
        by_cases h1' : e' = b
        · rw [if_pos h1'] at z; omega
        · rw [if_neg h1'] at z
          by_cases h2' : e' = mate b
          · rw [if_pos h2'] at z; omega
          · rw [if_neg h2'] at z
            exact nameF_inj bs (k + 1) e e' (hr e q h1 h2) (hr e' q' h1' h2') z
theorem apart_nodup : ∀ {bs : List Int}, Apart bs → (bs ++ bs.map mate).Nodup
  | [], _ => List.nodup_nil
  | b :: bs, h => by
    have ih := apart_nodup h.2
    rw [List.nodup_append] at ih ⊢
    obtain ⟨i1, i2, i3⟩ := ih
    have nm : b ≠ mate b := by unfold mate; split <;> omega
    have n1 : b ∉ bs := fun z => h.1 (.inl z)
    have n2 : ∀ x ∈ bs, b ≠ mate x := fun x hx z => h.1 (.inr (by rw [z, mate_mate]; exact hx))
    refine ⟨List.nodup_cons.mpr ⟨n1, i1⟩, ?_, ?_⟩
    · rw [List.map_cons, List.nodup_cons]
      refine ⟨fun z => ?_, i2⟩
      obtain ⟨x, hx, e⟩ := List.mem_map.mp z
      have : x = b := by have := congrArg mate e; rwa [mate_mate, mate_mate] at this
      exact n1 (this ▸ hx)
    · intro x hx y hy
      rw [List.map_cons] at hy
      rcases List.mem_cons.mp hx with hx | hx
      · subst hx
        rcases List.mem_cons.mp hy with hy | hy
        · rw [hy]; exact nm
        · obtain ⟨z, hz, rfl⟩ := List.mem_map.mp hy
          exact n2 z hz
      · rcases List.mem_cons.mp hy with hy | hy
        · intro e
          exact h.1 (.inr (by rw [← hy, ← e]; exact hx))
        · exact i3 x hx y hy
theorem foldB_apart : ∀ (w bs : List Int), Apart bs → Apart (w.foldl stepB bs)
  | [], _, h => h
  | e :: w, bs, h => foldB_apart w _ (stepB_apart h)
theorem foldB_lt {N : Nat} : ∀ (w bs : List Int), Lt N w → Lt N bs → Lt N (w.foldl stepB bs)
  | [], _, _, h => h
  | e :: w, bs, hw, hb => foldB_lt w _ (fun x hx => hw x (List.mem_cons_of_mem _ hx)) (by
    unfold stepB
    split
    · exact hb
    · intro x hx
      rcases List.mem_append.mp
              hx with hx | hx
      · exact hb x hx
      · rw [List.mem_singleton.mp hx]; exact hw e (List.mem_cons_self ..))
/-- the naming of a row of all ends -/
theorem naming {n : Nat} {w : List Int} (hw : Lt (2 * n) w) (hall : ∀ e, 0 ≤ e → e < ((2 * n : Nat) : Int) → e ∈ w) : Ren (2 * n) (nameF 0 (metB w)) := by
  have ap : Apart (metB w) := foldB_apart w [] trivial
  have lt : Lt (2 * n) (metB w) := foldB_lt w [] hw fun _ m => by cases m
  have hin : ∀ e, 0 ≤ e → e < ((2 * n : Nat) : Int) → In (metB w) e := fun e h0 h1 => foldB_in w [] e (hall e h0 h1)
  have hl : (metB w).length ≤ n := by
    have := nodup_len (xs := (List.range (2 * n)).map fun (i : Nat) => (i : Int)) (apart_nodup ap) fun x hx₀ => by
      have hx2 : 0 ≤ x ∧ x < ((2 * n : Nat) : Int) := by
        rcases List.mem_append.mp hx₀ with hx₀ | hx₀
        · exact lt x hx₀
        · obtain ⟨y, hy, rfl⟩ := List.mem_map.mp hx₀
          exact Lt.mate (lt y hy)
      exact List.mem_map.mpr ⟨x.toNat, List.mem_range.mpr (by omega), by omega⟩
    simp only [List.length_append, List.length_map, List.length_range] at this
    omega
  refine ⟨fun e h0 h1 => ?_, fun e h0 h1 => nameF_mate _ 0 e ap (hin e h0 h1), fun a a0 a1 b b0 b1 z => nameF_inj _ 0 a b (hin a a0 a1) (hin b b0 b1) z⟩
  have := nameF_rg (metB w) 0 e (hin e h0 h1)
  omega
theorem named_head (e : Int) (w : List Int) : ∃ r, named (e :: w) = 0 :: r := by
  rw [named_eq]
  refine ⟨nmR (stepB [] e) w, ?_⟩
  show nameF 0 (stepB [] e) e :: _ = _
  have : stepB [] e = [e] := rfl
  rw [this]
  unfold nameF
  rw [if_pos rfl]; rfl
end TP
set_option Elab.async false
set_option linter.all false
set_option maxRecDepth 100000
/-! Rows of ends, what stands behind, the way along the edge. -/
namespace TP
open PySem L2 PyProof.Rows PySem.Spec LamX
/-- what stands behind e in a row, the first one behind the last -/
def nxt (w : List Int) (e : Int) : Int := match w.findIdx? (· == e) with
  | some j => w.getD ((j + 1) % w.length) 0
  | none => 0
theorem idx_nd {w : List Int} (h : w.Nodup) {j : Nat} {e : Int} (hj : w[j]? = some e) : w.findIdx? (· == e) = some j := by
  obtain ⟨k, e1, lt, e2⟩ := idx_some (List.mem_of_getElem? hj)
  have lj := (List.getElem?_eq_some_iff.mp hj).1
  rw [e1]
  rcases Nat.lt_trichotomy j k with z | z | z
  · exact absurd (hj.trans e2.symm) (nodup_ne h j k z lt)
  · rw [z]
  · exact absurd (e2.trans hj.symm) (nodup_ne h k j z lj)
theorem nxt_at {w : List Int} (h : w.Nodup) {j : Nat} {e : Int} (hj : w[j]? = some e) : w[(j + 1) % w.length]? = some (nxt w e) := by
  unfold nxt
  rw [idx_nd h hj]
  have lj := (List.getElem?_eq_some_iff.mp hj).1
  have lt : (j + 1) % w.length < w.length := Nat.mod_lt _ (by omega)
  show _ = some (w.getD ((j + 1) % w.length) 0)
  rw [List.getD_eq_getElem?_getD, List.getElem?_eq_getElem lt]; rfl
theorem nxt_mem {w : List Int} (h : w.Nodup) {e : Int} (he : e ∈ w) : nxt w e ∈ w := by
  obtain ⟨j, hj⟩ := List.getElem?_of_mem he
  exact List.mem_of_getElem? (nxt_at h hj)
theorem mod_inj {j k n : Nat} (hj : j < n) (hk : k < n) (h : (j + 1) % n = (k + 1) % n) : j = k := by
  by_cases a : j + 1 = n
  · by_cases b : k + 1 = n
    · omega
    · rw [a, Nat.mod_self, Nat.mod_eq_of_lt (by omega)] at h; omega
  · rw [Nat.mod_eq_of_lt (show j + 1 < n by omega)] at h
    by_cases b : k + 1 = n
    · rw [b, Nat.mod_self] at h; omega
    · rw [Nat.mod_eq_of_lt (show k + 1 < n by omega)] at h; omega
theorem nodup_at {w : List Int} (h : w.Nodup) {j k : Nat} {e : Int} (hj : w[j]? = some e) (hk : w[k]? = some e) : j = k := by
  have := (idx_nd h hj).symm.trans (idx_nd h hk)
  exact Option.some.inj this
theorem nxt_inj {w : List Int} (h : w.Nodup) {a b : Int} (ha : a ∈ w) (hb : b ∈ w) (e : nxt w a = nxt w b) : a = b := by
  obtain ⟨j, hj⟩ := List.getElem?_of_mem ha
  obtain ⟨k, hk⟩ := List.getElem?_of_mem hb
  have e1 := nxt_at h hj
  have e2 := nxt_at h hk
  rw [e] at e1
  have := mod_inj (List.getElem?_eq_some_iff.mp hj).1 (List.getElem?_eq_some_iff.mp hk).1 (nodup_at h e1 e2)
  subst this
  rw [hj] at hk
  exact Option.some.inj hk
theorem nxt_rotN {w : List Int} (h : w.Nodup) {m : Nat} (hm : m ≤ w.length) {e : Int} (he : e ∈ w) : nxt (rotN m w) e = nxt w e := by
  have hl := rotN_len hm
  have hp : (rotN m w).Nodup := by
    have : (rotN m w).Perm w := by
      unfold rotN
      exact List.perm_append_comm.trans (by rw [List.take_append_drop])
    exact this.nodup_iff.mpr h
  obtain ⟨j, hj⟩ := List.getElem?_of_mem he
  have lj := (List.getElem?_eq_some_iff.mp hj).1
  have h0 : 0 < w.length := by omega
  have lt : (j + w.length - m) % w.length < w.length := Nat.mod_lt _ h0
  have e1 : (rotN m w)[(j + w.length - m) % w.length]? = some e := by
    rw [rotN_get hm _ lt, Nat.mod_add_mod, show j + w.length - m + m = j + w.length by omega, Nat.add_mod_right, Nat.mod_eq_of_lt lj]
    exact hj
  have e2 := nxt_at hp e1
  rw [hl, rotN_get hm _ (Nat.mod_lt _ h0), Nat.mod_add_mod, Nat.add_assoc, Nat.mod_add_mod] at e2
  have e3 := nxt_at h hj
  have : (j + w.length - m + (1 + m)) % w.length = (j + 1) % w.length := by
    rw [show j + w.length - m + (1 + m) = j + 1 + w.length by omega, Nat.add_mod_right]
  rw [this] at e2
  rw [e3] at e2
  exact (Option.some.inj e2).symm
theorem nxt_rot {w v : List Int} (h : w.Nodup) (r : Rot w v) {e : Int} (he : e ∈ w) : nxt v e = nxt w e := by
  obtain ⟨x, y, rfl, rfl⟩ := r
  have := nxt_rotN h (m := x.length) (by simp) he
  unfold rotN at this
  rw [List.drop_left, List.take_left] at this
  exact this
/-- a row of the ends of n bands -/
structure Row (n : Nat) (w : List Int) : Prop where
  perm : w.Perm (rgI (2 * n))
  lo : 1 ≤ n
  hi : n ≤ 6
section
variable {n : Nat} {w : List Int}
theorem rgI_mem' {n : Nat} {x : Int} : x ∈ rgI n ↔ 0 ≤ x ∧ x < n := by
  unfold rgI
  rw [List.mem_map]
  constructor
  · rintro ⟨i, hi, rfl⟩
    have := List.mem_range.mp hi
    omega
  · rintro ⟨h0, h1⟩
    exact ⟨x.toNat, List.mem_range.mpr (by omega), by omega⟩
theorem rgI_nd (n : Nat) : (rgI n).Nodup := by
  unfold rgI
  have h : (List.range n).Pairwise (· < ·) := List.pairwise_lt_range
  rw [List.Nodup, List.pairwise_map]
  exact List.Pairwise.imp (fun h => by omega) h
theorem Row.mem (h : Row n w) {x : Int} : x ∈ w ↔ 0 ≤ x ∧ x < ((2 * n : Nat) : Int) := by rw [h.perm.mem_iff]; exact rgI_mem'
theorem Row.nd (h : Row n w) : w.Nodup := h.perm.nodup_iff.mpr (rgI_nd _)
theorem Row.len (h : Row n w) : w.length = 2 * n := by rw [h.perm.length_eq, rgI_len]
theorem Row.mate (h : Row n w) {x : Int} (hx : x ∈ w) : mate x ∈ w := h.mem.mpr (Lt.mate (h.mem.mp hx))
theorem Row.lt (h : Row n w) : Lt (2 * n) w := fun e he => h.mem.mp he
theorem Row.rot (h : Row n w) {v : List Int} (r : Rot w v) : Row n v := by
  obtain ⟨x, y, rfl, rfl⟩ := r
  exact ⟨List.perm_append_comm.trans h.perm, h.lo, h.hi⟩
/-- along the edge -/
def fB (w : List Int) (e : Int) : Int := nxt w (TP.mate e)
theorem Row.pm (h : Row n w) : Pm (fB w) w := ⟨h.nd, fun x hx => nxt_mem h.nd (h.mate hx), fun x hx y hy e => by
  have := nxt_inj h.nd (h.mate hx) (h.mate hy) e
  have := congrArg TP.mate this
  rwa [mate_mate, mate_mate] at this⟩
theorem Row.small (h : Row n w) {x : Int} (hx : x ∈ w) : 0 ≤ x ∧ x < 64 := by
  have := h.mem.mp hx
  have := h.hi
  omega
theorem Row.ren {r : Int → Int} (h : Row n w) (hr : Ren (2 * n) r) : Row n (w.map r) := by
  refine ⟨?_, h.lo, h.hi⟩
  have nd : (w.map r).Nodup := by
    rw [List.Nodup, List.pairwise_map]
    exact List.Pairwise.imp_of_mem (fun {x y₀} hx hy ne e => ne (hr.inj x (h.mem.mp hx).1 (h.mem.mp hx).2 y₀ (h.mem.mp hy).1 (h.mem.mp hy).2 e)) h.nd
  have sub : ∀ x ∈ w.map r, x ∈ rgI (2 * n) := fun x hx => by
    obtain ⟨y₀, hy, rfl⟩ := List.mem_map.mp hx
    exact rgI_mem'.mpr (hr.rg y₀ (h.mem.mp hy).1 (h.mem.mp hy).2)
  refine (List.perm_ext_iff_of_nodup nd (rgI_nd _)).mpr fun x => ⟨sub x, fun hx => ?_⟩
  rcases Classical.em (x ∈ w.map r) with z | z
  · exact z
  · exfalso
    have := nodup_len (l := x :: w.map r) (xs := rgI (2 * n)) (List.nodup_cons.mpr ⟨z, nd⟩) fun y₀ hy => by
      rcases List.mem_cons.mp hy with hy | hy
      · rw [hy]; exact hx
      · exact sub y₀ hy
    rw [List.length_cons, List.length_map, h.len, rgI_len] at this
    omega
theorem nxt_map {r : Int → Int} (h : w.Nodup) (inj : ∀ x ∈ w, ∀ y ∈ w, r x = r y → x = y) {e : Int} (he : e ∈ w) : nxt (w.map r) (r e) = r (nxt w e) := by
  obtain ⟨j, hj⟩ := List.getElem?_of_mem he
  have nd : (w.map r).Nodup := by
    rw [List.Nodup, List.pairwise_map]
    exact List.Pairwise.imp_of_mem (fun {x y} hx hy ne e => ne (inj x hx y hy e)) h
  have e1 : (w.map r)[j]? = some (r e) := by rw [List.getElem?_map, hj]; rfl
  have e2 := nxt_at nd e1
  rw [List.length_map, List.getElem?_map, nxt_at h hj] at e2
  exact (Option.some.inj e2).symm
theorem fB_map {r : Int → Int} (h : Row n w) (hr : Ren (2 * n) r) {e : Int} (he : e ∈ w) : fB (w.map r) (r e) = r (fB w e) := by
  unfold fB
  rw [← hr.mt e (h.mem.mp he).1 (h.mem.mp he).2]
  exact nxt_map h.nd (fun x hx y hy => hr.inj x (h.mem.mp hx).1 (h.mem.mp hx).2 y (h.mem.mp hy).1 (h.mem.mp hy).2) (h.mate he)
theorem fB_rot (h : Row n w) {v : List Int} (r : Rot w v) {e : Int} (he : e ∈ w) : fB v e = fB w e := nxt_rot h.nd r (h.mate he)
/-- the row read the other way -/
theorem Row.rev (h : Row n w) : Row n w.reverse := ⟨(List.reverse_perm w).trans h.perm, h.lo, h.hi⟩
theorem nxt_rev (h : w.Nodup) {e : Int} (he : e ∈ w) : nxt w.reverse (nxt w e) = e := by
  obtain ⟨j, hj⟩ := List.getElem?_of_mem he
  have lj := (List.getElem?_eq_some_iff.mp hj).1
  have nd : w.reverse.Nodup := List.pairwise_reverse.mpr (h.imp fun ne => ne.symm)
  have e1 := nxt_at h hj
  have lt : (j + 1) % w.length < w.length := Nat.mod_lt _ (by omega)
  have e2 : w.reverse[w.length - 1 - (j + 1) % w.length]? = some (nxt w e) := by
    rw [List.getElem?_reverse (by omega), show w.length - 1 - (w.length - 1 - (j + 1) % w.length) = (j + 1) % w.length by omega]
    exact e1
  have e3 := nxt_at nd e2
  rw [List.length_reverse, List.getElem?_reverse (Nat.mod_lt _ (by omega))] at e3
  have ei : w.length - 1 - (w.length - 1 - (j + 1) % w.length + 1) % w.length = j := by
    by_cases z : j + 1 = w.length
    · rw [z, Nat.mod_self, show w.length - 1 - 0 + 1 = w.length by omega, Nat.mod_self]; omega
    · rw [Nat.mod_eq_of_lt (show j + 1 < w.length by omega), Nat.mod_eq_of_lt (by omega)]; omega
  rw [ei, hj] at e3
  exact (Option.some.inj e3).symm
/-- the rims of the mirrored row are the undone ones -/
theorem mirror_cycs (h : Row n w) {cs : List (List Int)} (c : Cycs (fB w) w cs) : Cycs (fB w.reverse) w.reverse (cs.map inv) := by
  have a := (c.rev (g := fun x => TP.mate (nxt w.reverse x)) fun x hx => by
    show TP.mate (nxt w.reverse (nxt w (TP.mate x))) = x
    rw [nxt_rev h.nd (h.mate hx), mate_mate]).map (g := fB w.reverse) (r := TP.mate) (fun x hx => by
    show nxt w.reverse (TP.mate (TP.mate x)) = TP.mate (TP.mate (nxt w.reverse x))
    rw [mate_mate, mate_mate]) fun x _ y _ e => by
      have := congrArg TP.mate e
      rwa [mate_mate, mate_mate] at this
  rw [List.map_map] at a
  have e : (cs.map ((fun x => x.map TP.mate) ∘ List.reverse)) = cs.map inv := by
    apply List.map_congr_left
    intro x _
    rfl
  rw [e] at a
  refine a.perm ?_
  refine (List.perm_ext_iff_of_nodup ?_ h.rev.nd).mpr fun x => ?_
  · rw [List.Nodup, List.pairwise_map]
    exact h.nd.imp fun ne e => ne (by have := congrArg TP.mate e; rwa [mate_mate, mate_mate] at this)
  · rw [List.mem_reverse, List.mem_map]
    constructor
    · rintro ⟨y, hy, rfl⟩; exact h.mate hy
    · intro hx; exact ⟨TP.mate x, h.mate hx, mate_mate x⟩
end
/-! ### from the beginning on -/
theorem Rot.map {a b : List Int} (r : Int → Int) (h : Rot a b) : Rot (a.map r) (b.map r) := by
  obtain ⟨x, y, rfl, rfl⟩ := h
  exact ⟨x.map r, y.map r, by simp, by simp⟩
theorem leastT_map {r : Int → Int} {w v : List Int} (h : Rot w v) : leastT (w.map r) = leastT (v.map r) := leastT_iff.mpr (h.map r)
theorem Rot.inv {a b : List Int} (h : Rot a b) : Rot (inv a) (inv b) := by
  obtain ⟨x, y, rfl, rfl⟩ := h
  refine ⟨TP.inv y, TP.inv x, ?_, ?_⟩ <;> (unfold TP.inv; simp)
/-- two rows that begin alike are one turned -/
theorem rot_head {w v : List Int} (nd : w.Nodup) (h : Rot w v) {x : Int} {r s : List Int} (hw : w = x :: r) (hv : v = x :: s) : w = v := by
  obtain ⟨a, b, rfl, rfl⟩ := h
  cases b with
  | nil => simp
  | cons y b =>
    cases a with
    | nil => simp
    | cons z a =>
      exfalso
      have e1 : z = x := by simpa using congrArg List.head? hw
      have e2 : y = x := by simpa using congrArg List.head? hv
      subst e1 e2
      rw [List.nodup_append] at nd
      exact nd.2.2 y (List.mem_cons_self ..) y (List.mem_cons_self ..) rfl
end TP
set_option Elab.async false
set_option linter.all false
set_option maxRecDepth 100000
/-! The number of cycles: odd and even. -/
namespace TP
open PySem L2 PyProof.Rows PySem.Spec LamX
/-- all cycles, told by what they hold together -/
structure Cy (f : Int → Int) (xs : List Int) (cs : List (List Int)) : Prop where
  cyc : ∀ c ∈ cs, IsCyc f c
  perm : cs.flatten.Perm xs
theorem Cycs.cy {f : Int → Int} {xs : List Int} {cs : List (List Int)} (h : Cycs f xs cs) (nd : xs.Nodup) : Cy f xs cs := by
  refine ⟨h.cyc, ?_⟩
  have fn : cs.flatten.Nodup := by
    rw [List.Nodup, List.pairwise_flatten]
    exact ⟨fun a ha => (h.cyc a ha).2.1, h.dj.imp fun {a b} (dj : ∀ x ∈ a, x ∉ b) x hx y hy (e : x = y) => dj x hx (e ▸ hy)⟩
  refine (List.perm_ext_iff_of_nodup fn nd).mpr fun x => ⟨fun hx => ?_, fun hx => ?_⟩
  · obtain ⟨c, hc, hxc⟩ := List.mem_flatten.mp hx
    exact h.sub c hc x hxc
  · obtain ⟨c, hc, hxc⟩ := h.all x hx
    exact List.mem_flatten.mpr ⟨c, hc, hxc⟩
theorem Cy.cycs {f : Int → Int} {xs : List Int} {cs : List (List Int)} (h : Cy f xs cs) (nd : xs.Nodup) : Cycs f xs cs := by
  refine ⟨h.cyc, fun c hc x hx => h.perm.mem_iff.mp (List.mem_flatten.mpr ⟨c, hc, hx⟩), ?_, fun x hx => ?_⟩
  · have := h.perm.nodup_iff.mpr nd
    rw [List.Nodup, List.pairwise_flatten] at this
    exact this.2.imp fun {a b} q x hx hx2 => q x hx x hx2 rfl
  · obtain ⟨c, hc, hxc⟩ := List.mem_flatten.mp (h.perm.mem_iff.mpr hx)
    exact ⟨c, hc, hxc⟩
theorem Cy.len {f : Int → Int} {xs : List Int} {cs ds : List (List Int)} (h : Cy f xs cs) (k : Cy f xs ds) (nd : xs.Nodup) : cs.length = ds.length := by
  have := ((h.cycs nd).uniq (k.cycs nd)).length_eq
  simpa using this
theorem Cy.congr {f g : Int → Int} {xs : List Int} {cs : List (List Int)} (h : Cy f xs cs) (e : ∀ x ∈ xs, f x = g x) : Cy g xs cs :=
  ⟨fun c hc => (h.cyc c hc).congr fun x hx => e x (h.perm.mem_iff.mp (List.mem_flatten.mpr ⟨c, hc, hx⟩)), h.perm⟩
theorem Cy.shift {f : Int → Int} {xs : List Int} {cs ds : List (List Int)} (h : Cy f xs cs) (p : cs.Perm ds) : Cy f xs ds :=
  ⟨fun c hc => h.cyc c (p.mem_iff.mpr hc), p.flatten.symm.trans h.perm⟩
theorem it_comm (f : Int → Int) (x : Int) : ∀ t, it f t (f x) = it f (t + 1) x
  | 0 => rfl
  | t + 1 => by show f (it f t (f x)) = _; rw [it_comm f x t]; rfl
/-- a cycle may be told so that it ends with b -/
theorem end_at {f : Int → Int} {c : List Int} (h : IsCyc f c) {b : Int} (hb : b ∈ c) : ∃ q, IsCyc f (q ++ [b]) ∧ (q ++ [b]).Perm c := by
  obtain ⟨i, hi⟩ := List.getElem?_of_mem hb
  have li := (List.getElem?_eq_some_iff.mp hi).1
  obtain ⟨k, hk⟩ : ∃ k, c.length = k + 1 := ⟨c.length - 1, by omega⟩
  have hf : f b ∈ c := List.mem_of_getElem? (h.2.2 i b hi)
  have hr := cyc_rot h hf
  have hper : it f (k + 1) b = b := by
    have := cyc_it h hi c.length
    rw [Nat.add_mod_right, Nat.mod_eq_of_lt li, hi, hk] at this
    exact (Option.some.inj
            this).symm
  have e : goL f c.length (f b) = goL f k (f b) ++ [b] := by
    rw [hk, goL_succ, it_comm, hper]
  have hp : (goL f c.length (f b)).Perm c := by
    obtain ⟨x, y, e1, e2⟩ := hr
    rw [e2, e1]; exact List.perm_append_comm
  refine ⟨goL f k (f b), ?_, e ▸ hp⟩
  rw [← e]
  exact goL_cyc (by omega) (hp.nodup_iff.mpr h.2.1) (by rw [it_comm, hk]; show f (it f (k + 1) b) = f b; rw [hper])
def swp (a b x : Int) : Int := if x = a then b else if x = b then a else x
theorem cyc_split {f g : Int → Int} {p r : List Int} {a b : Int} (hab : a ≠ b) (h : IsCyc f (p ++ a :: (r ++ [b]))) (hg : ∀ x, g x = f (swp a b x)) : IsCyc g (p ++ [a]) ∧ IsCyc g (r ++ [b]) := by
  obtain ⟨_, nd, hn⟩ := h
  have hl : (p ++ a :: (r ++ [b])).length = p.length + r.length + 2 := by simp; omega
  rw [hl] at hn
  have nd0 := nd
  rw [List.nodup_append, List.nodup_cons, List.nodup_append] at nd
  obtain ⟨ndp, ⟨na, ndr, _, nrb⟩, npr⟩ := nd
  have hga : g a = f b := by rw [hg]; unfold swp; rw [if_pos rfl]
  have hgb : g b = f a := by rw [hg]; unfold swp; rw [if_neg (Ne.symm hab), if_pos rfl]
  have hgo : ∀ x, x ≠ a → x ≠ b → g x = f x := fun x h1 h2 => by rw [hg]; unfold swp; rw [if_neg h1, if_neg h2]
  have pa : ∀ x ∈ p, x ≠ a := fun x hx => npr x hx a (List.mem_cons_self ..)
  have pb : ∀ x ∈ p, x ≠ b := fun x hx => npr x hx b (by simp)
  have ra : ∀ x ∈ r, x ≠ a := fun x hx e => na (by rw [← e]; simp [hx])
  have rb : ∀ x ∈ r, x ≠ b := fun x hx => nrb x hx b (by simp)
  have A : ∀ i, i < p.length → (p ++ a :: (r ++ [b]))[i]? = p[i]? := fun i hi => List.getElem?_append_left hi
  have Bp : (p ++ a :: (r ++ [b]))[p.length]? = some a := by rw [List.getElem?_append_right (Nat.le_refl _)]; simp
  have C : ∀ i, i < r.length → (p ++ a :: (r ++ [b]))[p.length + 1 + i]? = r[i]? := fun i hi => by
    rw [List.getElem?_append_right (by omega), show p.length + 1 + i - p.length = i + 1 by omega, List.getElem?_cons_succ, List.getElem?_append_left hi]
  have Dd : (p ++ a :: (r ++ [b]))[p.length + 1 + r.length]? = some b := by
    rw [List.getElem?_append_right (by omega), show p.length + 1 + r.length - p.length = r.length + 1 by omega, List.getElem?_cons_succ, List.getElem?_append_right (Nat.le_refl _)]; simp
  have P : ∀ i, i ≤ p.length → (p ++ [a])[i]? = (p ++ a :: (r ++ [b]))[i]? := fun i hi => by
    by_cases z : i < p.length
    · rw [A i z, List.getElem?_append_left z]
    · have : i = p.length := by omega
      rw [this, Bp, List.getElem?_append_right (Nat.le_refl _)]; simp
  have Q : ∀ i, i ≤ r.length → (r ++ [b])[i]? = (p ++ a :: (r ++ [b]))[p.length + 1 + i]? := fun i hi => by
    by_cases z : i < r.length
    · rw [C i z, List.getElem?_append_left z]
    · have : i = r.length := by omega
      rw [this, Dd, List.getElem?_append_right (Nat.le_refl _)]; simp
  have hsub : (p ++ a :: (r ++ [b])) = (p ++ [a]) ++ (r ++ [b]) := by simp
  rw [hsub, List.nodup_append] at nd0
  refine ⟨⟨by simp, nd0.1, fun i x hx => ?_⟩, ⟨by simp, nd0.2.1, fun i x hx => ?_⟩⟩
  · have hi : i < p.length + 1 := by have := (List.getElem?_eq_some_iff.mp hx).1; simpa using this
    have hlp : (p ++ [a]).length = p.length + 1 := by simp
    rw [hlp]
    rw [P i (by omega)] at hx
    by_cases z : i = p.length
    · rw [z, Bp] at hx
      cases hx
      rw [z, Nat.mod_self, P 0 (by omega), hga]
      have := hn _ _ Dd
      rw [show p.length + 1 + r.length + 1 = p.length + r.length + 2 by omega, Nat.mod_self] at this
      exact this
    · rw [Nat.mod_eq_of_lt (by omega), P (i + 1) (by omega)]
      have hxp : x ∈ p := by rw [A i (by omega)] at hx; exact List.mem_of_getElem? hx
      rw [hgo x (pa x hxp) (pb x hxp)]
      have := hn _ _ hx
      rw [Nat.mod_eq_of_lt (by omega)] at this
      exact this
  · have hi : i < r.length + 1 := by have := (List.getElem?_eq_some_iff.mp hx).1; simpa using this
    have hlp : (r ++ [b]).length = r.length + 1 := by simp
    rw [hlp]
    rw [Q i (by omega)] at hx
    by_cases z : i = r.length
    · rw [z, Dd] at hx
      cases hx
      rw [z, Nat.mod_self, Q 0 (by omega), hgb]
      have := hn _ _ Bp
      rw [Nat.mod_eq_of_lt (by omega)] at this
      exact this
    · rw [Nat.mod_eq_of_lt (by omega), Q (i + 1) (by omega)]
      have hxr : x ∈ r := by rw [C i (by omega)] at hx; exact List.mem_of_getElem? hx
      rw [hgo x (ra x hxr) (rb x hxr)]
      have := hn _ _ hx
      rw [Nat.mod_eq_of_lt (by omega)] at this
      exact this
theorem cyc_merge {f g : Int → Int} {p r : List Int} {a b : Int} (hab : a ≠ b) (h1 : IsCyc f (p ++ [a])) (h2 : IsCyc f (r ++ [b])) (nd : (p ++ a :: (r ++ [b])).Nodup) (hg : ∀ x, g x = f (swp a b x)) : IsCyc g (p ++ a :: (r ++ [b])) := by
  have hl : (p ++ a :: (r ++ [b])).length = p.length + r.length + 2 := by simp; omega
  have hn1 := h1.2.2
  have hn2 := h2.2.2
  have hlp : (p ++ [a]).length = p.length + 1 := by simp
  have hlr : (r ++ [b]).length = r.length + 1 := by simp
  rw [hlp] at hn1
  rw [hlr] at hn2
  have nd0 := nd
  rw [List.nodup_append, List.nodup_cons, List.nodup_append] at nd
  obtain ⟨ndp, ⟨na, ndr, _, nrb⟩, npr⟩ := nd
  have hga : g a = f b := by rw [hg]; unfold swp; rw [if_pos rfl]
  have hgb : g b = f a := by rw [hg]; unfold swp; rw [if_neg (Ne.symm hab), if_pos rfl]
  have hgo : ∀ x, x ≠ a → x ≠ b → g x = f x := fun x h1 h2 => by rw [hg]; unfold swp; rw [if_neg h1, if_neg h2]
  have pa : ∀ x ∈ p, x ≠ a := fun x hx => npr x hx a (List.mem_cons_self ..)
  have pb : ∀ x ∈ p, x ≠ b := fun x hx => npr x hx b (by simp)
  have ra : ∀ x ∈ r, x ≠ a := fun x hx e => na (by rw [← e]; simp [hx])
  have rb : ∀ x ∈ r, x ≠ b := fun x hx => nrb x hx b (by simp)
  have A : ∀ i, i < p.length → (p ++ a :: (r ++ [b]))[i]? = p[i]? := fun i hi => List.getElem?_append_left hi
  have Bp : (p ++ a :: (r ++ [b]))[p.length]? = some a := by rw [List.getElem?_append_right (Nat.le_refl _)]; simp
  have C : ∀ i, i < r.length → (p ++ a :: (r ++ [b]))[p.length + 1 + i]? = r[i]? := fun i hi => by
    rw [List.getElem?_append_right (by omega), show p.length + 1 + i - p.length = i + 1 by omega, List.getElem?_cons_succ, List.getElem?_append_left hi]
  have Dd : (p ++ a :: (r ++ [b]))[p.length + 1 + r.length]? = some b := by
    rw [List.getElem?_append_right (by omega), show p.length + 1 + r.length - p.length = r.length + 1 by omega, List.getElem?_cons_succ, List.getElem?_append_right (Nat.le_refl _)]; simp
  have P : ∀ i, i ≤ p.length → (p ++ [a])[i]? = (p ++ a :: (r ++ [b]))[i]? := fun i hi => by
    by_cases z : i < p.length
    · rw [A i z, List.getElem?_append_left z]
    · have : i = p.length := by omega
      rw [this, Bp, List.getElem?_append_right (Nat.le_refl _)]; simp
  have Q : ∀ i, i ≤ r.length → (r ++ [b])[i]? = (p ++ a :: (r ++ [b]))[p.length + 1 + i]? := fun i hi => by
    by_cases z : i < r.length
    · rw [C i z, List.getElem?_append_left z]
    · have : i = r.length := by omega
      rw [this, Dd, List.getElem?_append_right (Nat.le_refl _)]; simp
  refine ⟨by simp, nd0, fun i x hx => ?_⟩
  have hi : i < p.length + r.length + 2 := by have := (List.getElem?_eq_some_iff.mp hx).1; rwa [hl] at this
  rw [hl]
  rcases (show i < p.length ∨ i = p.length ∨ (∃ k, i = p.length + 1 + k ∧ k < r.length) ∨ i = p.length + 1 + r.length from by
    rcases Nat.lt_or_ge i p.length with z | z
    · exact .inl z
    · rcases Nat.eq_or_lt_of_le z with z | z
      · exact .inr (.inl z.symm)
      · by_cases w : i = p.length + 1 + r.length
        · exact .inr (.inr (.inr w))
        · exact .inr (.inr (.inl ⟨i - p.length - 1, by omega, by omega⟩))) with z | z | ⟨k, z, hk⟩ | z
  · have hxp : x ∈ p := by rw [A i z] at hx; exact List.mem_of_getElem? hx
    rw [hgo x (pa x hxp) (pb x hxp), Nat.mod_eq_of_lt (by omega), ← P (i + 1) (by omega)]
    rw [← P i (by omega)] at hx
    have := hn1 _ _ hx
    rwa [Nat.mod_eq_of_lt (by omega)] at this
  · rw [z, Bp] at hx
    cases hx
    have h0 : (p ++ [a])[p.length]? = some a := by rw [P _ (Nat.le_refl _)]; exact Bp
    have hb : (r ++ [b])[r.length]? = some b := by rw [Q _ (Nat.le_refl _)]; exact Dd
    have := hn2 _ _ hb
    rw [Nat.mod_self, Q 0 (by omega)] at this
    rw [z, hga, Nat.mod_eq_of_lt (by omega)]
    exact this
  · subst z
    have hxr : x ∈ r := by rw [C k hk] at hx; exact List.mem_of_getElem? hx
    rw [hgo x (ra x hxr) (rb x hxr), Nat.mod_eq_of_lt (by omega)]
    rw [← Q k (by omega)] at hx
    have := hn2 _ _ hx
    rw [Nat.mod_eq_of_lt (by omega), Q (k + 1) (by omega)] at this
    exact this
  · rw [z, Dd] at hx
    cases hx
    have h0 : (p ++ [a])[p.length]? = some a := by rw [P _ (Nat.le_refl _)]; exact Bp
    have := hn1 _ _ h0
    rw [Nat.mod_self, P 0 (by omega)] at this
    rw [z, hgb, show p.length + 1 + r.length + 1 = p.length + r.length + 2 by omega, Nat.mod_self]
    exact this
/-- two exchanged: one cycle more, or one less -/
theorem Cy.swap {f g : Int → Int} {xs : List Int} {cs : List (List Int)} (h : Cy f xs cs) (nd : xs.Nodup) {a b : Int} (hab : a ≠ b) (ha : a ∈ xs) (hb : b ∈ xs) (hg : ∀ x, g x = f (swp a b x)) : ∃ ds, Cy g xs ds ∧ (ds.length = cs.length + 1 ∨ ds.length + 1 = cs.length) := by
  have hgo : ∀ x, x ≠ a → x ≠ b → f x = g x := fun x h1 h2 => by rw [hg]; unfold swp; rw [if_neg h1, if_neg h2]
  have fnd : cs.flatten.Nodup := h.perm.nodup_iff.mpr nd
  obtain ⟨c, hc, hac⟩ := List.mem_flatten.mp (h.perm.mem_iff.mpr ha)
  have pc : cs.Perm (c :: cs.erase c) := List.perm_cons_erase hc
  have h1 := h.shift pc
  have n1 : (c ++ (cs.erase c).flatten).Nodup := h1.perm.nodup_iff.mpr nd
  have l1 := pc.length_eq
  generalize cs.erase c = rs at pc h1 n1 l1
  rw [List.nodup_append] at n1
  obtain ⟨nc, nr, ncr⟩ := n1
  have ka : a ∉ rs.flatten := fun z => ncr a hac a z rfl
  by_cases hbc : b ∈ c
  · -- both in one cycle
    obtain ⟨q, hq, pq⟩ := end_at (h1.cyc c (List.mem_cons_self ..)) hbc
    have haq : a ∈ q := by
      rcases List.mem_append.mp (pq.mem_iff.mpr hac) with z | z
      · exact z
      · exact absurd (List.mem_singleton.mp z) hab
    obtain ⟨p, r, rfl⟩ := List.append_of_mem haq
    have e : (p ++ a :: r) ++ [b] = p ++ a :: (r ++ [b]) := by simp
    rw [e] at hq pq
    obtain ⟨s1, s2⟩ := cyc_split hab hq hg
    have kb : b ∉ rs.flatten := fun z => ncr b hbc b z rfl
    refine ⟨(p ++ [a]) :: (r ++ [b]) :: rs, ⟨fun d hd₀ => ?_, ?_⟩, .inl (by simp at l1 ⊢; omega)⟩
    · rcases List.mem_cons.mp hd₀ with rfl | hd₀
      · exact s1
      · rcases List.mem_cons.mp hd₀ with rfl | hd₀
        · exact s2
        · exact (h1.cyc d (List.mem_cons_of_mem _ hd₀)).congr fun x hx => hgo x (fun z => ka (List.mem_flatten.mpr ⟨d, hd₀, z ▸ hx⟩)) (fun z => kb (List.mem_flatten.mpr ⟨d, hd₀, z ▸ hx⟩))
    · refine List.Perm.trans ?_ h1.perm
      rw [List.flatten_cons, List.flatten_cons, List.flatten_cons, ← List.append_assoc]
      refine List.Perm.append_right _ ?_
      refine List.Perm.trans ?_ pq
      rw [show (p ++ [a]) ++ (r ++ [b]) = p ++ a :: (r ++ [b]) by simp]
  · -- in two
    have hbr : b ∈ rs.flatten := by
      have := h1.perm.mem_iff.mpr hb
      rw [List.flatten_cons] at this
      exact (List.mem_append.mp this).resolve_left hbc
    obtain ⟨d, hd₀, hbd⟩ := List.mem_flatten.mp hbr
    have pd : rs.Perm (d :: rs.erase d) := List.perm_cons_erase hd₀
    have h2 := h1.shift (pd.cons c)
    have l2 := pd.length_eq
    have fn2 : (c ++ (d ++ (rs.erase d).flatten)).Nodup := h2.perm.nodup_iff.mpr nd
    generalize rs.erase d = ts at pd h2 l2 fn2
    obtain ⟨p, hp, pp⟩ := end_at (h2.cyc c (List.mem_cons_self ..)) hac
    obtain ⟨r, hr, pr⟩ := end_at (h2.cyc d (List.mem_cons_of_mem _ (List.mem_cons_self ..))) hbd
    have pw : (p ++ a :: (r ++ [b])).Perm (c ++ d) := by
      rw [show p ++ a :: (r ++ [b]) = (p ++ [a]) ++ (r ++ [b]) by simp]
      exact pp.append pr
    rw [← List.append_assoc, List.nodup_append] at fn2
    obtain ⟨ncd, _, nct⟩ := fn2
    have hm := cyc_merge hab hp hr (pw.nodup_iff.mpr ncd) hg
    refine ⟨(p ++ a :: (r ++ [b])) :: ts, ⟨fun e he₀ => ?_, ?_⟩, .inr (by simp at l1 l2 ⊢; omega)⟩
    · rcases List.mem_cons.mp he₀ with rfl | he₀
      · exact hm
      · refine (h2.cyc e (List.mem_cons_of_mem _ (List.mem_cons_of_mem _ he₀))).congr fun x hx => hgo x (fun z => ?_) fun z => ?_
        · exact nct a (List.mem_append_left _ hac) a (List.mem_flatten.mpr ⟨e, he₀, z ▸ hx⟩) rfl
        · exact nct b (List.mem_append_right _ hbd) b (List.mem_flatten.mpr ⟨e, he₀, z ▸ hx⟩) rfl
    · refine List.Perm.trans ?_ h2.perm
      rw [List.flatten_cons, List.flatten_cons, List.flatten_cons, ← List.append_assoc]
      exact pw.append_right _
/-- mate, for the first k bands -/
def mateK (k : Nat) (x : Int) : Int := if 0 ≤ x ∧ x < 2 * (k : Int) then mate x else x
theorem mateK_succ (k : Nat) (x : Int) : mateK (k + 1) x = mateK k (swp (2 * (k : Int)) (2 * (k : Int) + 1) x) := by
  unfold mateK swp mate
  have e₀ : ((k + 1 : Nat) : Int) = (k : Int) + 1 := by omega
  rw [e₀]
  by_cases h1 : x = 2 * (k : Int)
  · rw [if_pos h1]
    repeat' split
    all_goals omega
  · rw [if_neg h1]
    by_cases h2 : x = 2 * (k : Int) + 1
    · rw [if_pos h2]
      repeat' split
      all_goals omega
    · rw [if_neg h2]
      repeat' split
      all_goals omega
theorem rims_par {n : Nat} {w : List Int} (h : Row n w) {cs : List (List Int)} (hc : Cycs (fB w) w cs) : cs.length % 2 = (n + 1) % 2 := by
  have nd := h.nd
  have key : ∀ k, k ≤ n → ∃ ds, Cy (fun x => nxt w (mateK k x)) w ds ∧ ds.length % 2 = (k + 1) % 2 := by
    intro k
    induction k with
    | zero =>
      intro _
      refine ⟨[w], ⟨fun c hc => ?_, by simp⟩, rfl⟩
      rw [List.mem_singleton.mp hc]
      refine ⟨fun z => ?_, nd, fun i a ha => ?_⟩
      · have h1 := h.len
        have h2 := h.lo
        rw [z] at h1
        simp at h1
        omega
      · have : mateK 0 a = a := by unfold mateK; rw [if_neg (by omega)]
        show _ = some (nxt w (mateK 0 a))
        rw [this]
        exact nxt_at nd ha
    | succ k ih =>
      intro hk
      obtain ⟨ds, h1, h2⟩ := ih (by omega)
      obtain ⟨es, h3, h4⟩ := h1.swap nd (a := 2 * (k : Int)) (b := 2 * (k : Int) + 1) (by omega) (h.mem.mpr (by omega)) (h.mem.mpr (by omega)) (g := fun x => nxt w (mateK (k + 1) x)) fun x => by
        show nxt w (mateK (k + 1) x) = nxt w (mateK k _)
        rw [mateK_succ]
      exact ⟨es, h3, by omega⟩
  obtain ⟨ds, h1, h2⟩ := key n (Nat.le_refl _)
  have h3 : Cy (fB w) w ds := h1.congr fun x hx => by
    have := h.mem.mp hx
    unfold fB mateK
    rw [if_pos (by omega)]
  rw [(hc.cy nd).len h3 nd]
  exact h2
end TP
set_option Elab.async false
set_option linter.all false
set_option maxRecDepth 100000
/-! Corners that hang together, by names given anew. -/
namespace TP
open PySem L2 PyProof.Rows PySem.Spec LamX
abbrev Cn2 := Int × Int
def keyC (c : Cn2) : List Key := [.inl c.1, .inl c.2]
theorem keyC_inj {c d : Cn2} (h : keyC c = keyC d) : c = d := by
  unfold keyC at h
  simp only [List.cons.injEq, Sum.inl.injEq, and_true] at h
  exact Prod.ext h.1 h.2
def mkN (N : Cn2 → Int) (cs : List Cn2) : List (List Key × D) := cs.map fun c => (keyC c, .int (N c))
theorem mkN_len {N : Cn2 → Int} {cs : List Cn2} : (mkN N cs).length = cs.length := List.length_map _
theorem mkN_keys {N : Cn2 → Int} {cs : List Cn2} : (mkN N cs).map (·.1) = cs.map keyC := by unfold mkN; rw [List.map_map]; rfl
theorem mkN_congr {N M : Cn2 → Int} {cs : List Cn2} (h : ∀ c ∈ cs, N c = M c) : mkN N cs = mkN M cs := List.map_congr_left fun c hc => by rw [h c hc]
theorem get_mk {N : Cn2 → Int} {c : Cn2} : ∀ {cs : List Cn2}, c ∈ cs → getKD (mkN N cs) (keyC c) = some (.int (N c))
  | d :: cs, h => by
    unfold mkN getKD
    rw [List.map_cons]
    by_cases z : keyC d = keyC c
    · rw [List.find?_cons_of_pos (by simpa using z), keyC_inj z]; rfl
    · rw [List.find?_cons_of_neg (by simpa using z)]
      exact get_mk (cs := cs) ((List.mem_cons.mp h).resolve_left fun w => z (by rw [w]))
theorem any_mk {N : Cn2 → Int} {c : Cn2} {cs : List Cn2} : ((mkN N cs).any fun kv => decide (kv.1 = keyC c)) = decide (c ∈ cs) := by
  rw [Bool.eq_iff_iff,
          List.any_eq_true, decide_eq_true_eq]
  constructor
  · rintro ⟨kv, hk, e⟩
    obtain ⟨d, hd, rfl⟩ := List.mem_map.mp hk
    rw [← keyC_inj (of_decide_eq_true e)]; exact hd
  · intro h
    exact ⟨_, List.mem_map.mpr ⟨c, h, rfl⟩, decide_eq_true rfl⟩
theorem put_mk {N : Cn2 → Int} {c : Cn2} {v : Int} {cs : List Cn2} (h : c ∈ cs) : putKD (mkN N cs) (keyC c) (.int v) = mkN (fun x => if x = c then v else N x) cs := by
  unfold putKD
  rw [any_mk, if_pos (decide_eq_true h)]
  unfold mkN
  rw [List.map_map]
  apply List.map_congr_left
  intro d _
  show (if keyC d = keyC c then (keyC d, D.int v) else (keyC d, D.int (N d))) = (keyC d, D.int (if d = c then v else N d))
  by_cases z : d = c
  · rw [if_pos (by rw [z]), if_pos z]
  · rw [if_neg (fun w => z (keyC_inj w)), if_neg z]
theorem put_mk_new {N : Cn2 → Int} {c : Cn2} {cs : List Cn2} (h : c ∉ cs) : putKD (mkN N cs) (keyC c) (.int (N c)) = mkN N (cs ++ [c]) := by
  unfold putKD
  rw [any_mk, if_neg (by simpa using h)]
  unfold mkN
  rw [List.map_append]; rfl
def relF (o f : Int) : List Cn2 → (Cn2 → Int) → Cn2 → Int
  | [], N => N
  | c :: r, N => relF o f r (if N c = o then fun x => if x = c then f else N x else N)
theorem relF_eq (o f : Int) : ∀ (r : List Cn2) (N : Cn2 → Int) (x : Cn2), relF o f r N x = if x ∈ r ∧ N x = o then f else N x
  | [], N, x => by simp [relF]
  | c :: r, N, x => by
    show relF o f r (if N c = o then fun x => if x = c then f else N x else N) x = _
    rw [relF_eq o f r]
    by_cases hx : x = c
    · subst hx
      by_cases hn : N x = o
      · simp [hn]
      · simp [hn]
    · by_cases hn : N c = o
      · simp [hn, hx]
      · simp [hn, hx]
theorem relab_mk {o f : Int} {cs : List Cn2} (hz : cs.length < sizeLine) : ∀ (r : List Cn2) (N : Cn2 → Int), (∀ c ∈ r, c ∈ cs) → relabK o f (r.map keyC) (mkN N cs) = some (mkN (relF o f r N) cs)
  | [], N, _ => rfl
  | c :: r, N, h => by
    rw [List.map_cons]
    unfold relabK
    rw [get_mk (h c (List.mem_cons_self ..))]
    simp only [mkN_len]
    rw [if_pos hz]
    have ih := relab_mk (o := o) (f := f) hz r
    show relabK o f (r.map keyC) (if N c = o then putKD (mkN N cs) (keyC c) (.int f) else mkN N cs) = _
    by_cases z : N c = o
    · have e : relF o f (c :: r) N = relF o f r (fun x => if x = c then f else N x) := by
        show relF o f r (if N c = o then fun x => if x = c then f else N x else N) = _
        rw [if_pos z]
      rw [if_pos z, put_mk (h c (List.mem_cons_self ..)), ih _ fun d hd => h d (List.mem_cons_of_mem _ hd), e]
    · have e : relF o f (c :: r) N = relF o f r N := by
        show relF o f r (if N c = o then fun x => if x = c then f else N x else N) = _
        rw [if_neg z]
      rw [if_neg z, ih _ fun d hd => h d (List.mem_cons_of_mem _ hd), e]
/-- both called alike -/
def stepN (N : Cn2 → Int) (p : Cn2 × Cn2) : Cn2 → Int := fun z => if N z = N p.1 then N p.2 else N z
theorem relab_all {N : Cn2 → Int} {cs : List Cn2} (hz : cs.length < sizeLine) (p : Cn2 × Cn2) : relabK (N p.1) (N p.2) ((mkN N cs).map (·.1)) (mkN N cs) = some (mkN (stepN N p) cs) := by
  rw [mkN_keys, relab_mk hz cs N fun _ h => h]
  refine congrArg some (mkN_congr fun c hc => ?_)
  rw [relF_eq]
  unfold stepN
  by_cases z : N c = N p.1
  · rw [if_pos ⟨hc, z⟩, if_pos z]
  · rw [if_neg (fun w => z w.2), if_neg z]
theorem vals_mk {N : Cn2 → Int} {cs : List Cn2} : valsK (mkN N cs) ((mkN N cs).map (·.1)) = some (cs.map N) := by
  have key : ∀ r : List Cn2, (∀ c ∈ r, c ∈ cs) → valsK (mkN N cs) (r.map keyC) = some (r.map N) := by
    intro r
    induction r with
    | nil => intro _; rfl
    | cons c r ih =>
      intro h
      rw [List.map_cons]
      unfold valsK
      rw [get_mk (h c (List.mem_cons_self ..))]
      simp only [ih fun d hd => h d (List.mem_cons_of_mem _ hd)]
      rfl
  rw [mkN_keys, key cs fun _ h => h]
theorem gath_spec : ∀ (vs ns : List Int), ns.Nodup → (gath ns vs).Nodup ∧ ∀ x, x ∈ gath ns vs ↔ x ∈ ns ∨ x ∈ vs
  | [], ns, h => ⟨h, fun x => by simp [gath]⟩
  | v :: r, ns, h => by
    show (gath (if v ∈ ns then ns else ns ++ [v]) r).Nodup ∧ _
    by_cases z : v ∈ ns
    · obtain ⟨a, b⟩ := gath_spec r ns h
      refine ⟨by rw [if_pos z]; exact a, fun x => ?_⟩
      show x ∈ gath (if v ∈ ns then ns else ns ++ [v]) r ↔ _
      rw [if_pos z, b x, List.mem_cons]
      constructor
      · rintro (q | q)
        · exact .inl q
        · exact .inr (.inr q)
      · rintro (q | q | q)
        · exact .inl q
        · exact .inl (q ▸ z)
        · exact .inr q
    · have nd : (ns ++ [v]).Nodup := by
        rw [List.nodup_append]
        exact ⟨h, by simp, fun a ha b hb e => z (by rw [List.mem_singleton.mp hb] at e; exact e ▸ ha)⟩
      obtain ⟨a, b⟩ := gath_spec r (ns ++ [v]) nd
      refine ⟨by rw [if_neg z]; exact a, fun x => ?_⟩
      show x ∈ gath (if v ∈ ns then ns else ns ++ [v]) r ↔ _
      rw [if_neg z, b x, List.mem_append, List.mem_singleton, List.mem_cons, or_assoc]
theorem fold_eq : ∀ (P : List (Cn2 × Cn2)) (N : Cn2 → Int) (x y : Cn2), N x = N y → P.foldl stepN N x = P.foldl stepN N y
  | [], N, x, y, h => h
  | p :: P, N, x, y, h => fold_eq P _ x y (by unfold stepN; rw [h])
theorem fold_pair : ∀ (P : List (Cn2 × Cn2)) (N : Cn2 → Int) (p : Cn2 × Cn2), p ∈ P → P.foldl stepN N p.1 = P.foldl stepN N p.2
  | q :: P, N, p, h => by
    rcases List.mem_cons.mp h with h | h
    · subst h
      refine fold_eq P _ _ _ ?_
      unfold stepN
      rw [if_pos rfl]
      split
      · rfl
      · rfl
    · exact fold_pair P _ p h
theorem fold_inj {α : Type} (κ : Cn2 → α) (Q : Cn2 → Prop) : ∀ (P : List (Cn2 × Cn2)) (N : Cn2 → Int), (∀ p ∈ P, Q p.1 ∧ Q p.2 ∧ κ p.1 = κ p.2) → (∀ x y, Q x → Q y → N x = N y → κ x = κ y) → ∀ x y, Q x → Q y → P.foldl stepN N x = P.foldl stepN N y → κ x = κ y
  | [], N, _, h => h
  | p :: P, N, hp, h => fold_inj κ Q P _ (fun q hq => hp q (List.mem_cons_of_mem _ hq)) fun x y hx hy e => by
    obtain ⟨q1, q2, q3⟩ := hp p (List.mem_cons_self ..)
    unfold stepN at e
    by_cases a : N x = N p.1
    · rw [if_pos a] at e
      by_cases b : N y = N p.1
      · exact h x y hx hy (a.trans b.symm)
      · rw [if_neg b] at e
        exact (h x p.1 hx q1 a).trans (q3.trans (h p.2 y q2 hy e))
    · rw [if_neg a] at e
      by_cases b : N y = N p.1
      · rw [if_pos b] at e
        exact (h x p.2 hx q2 e).trans (q3.symm.trans (h p.1 y q1 hy b.symm))
      · rw [if_neg b] at e
        exact h x y hx hy e
def corners (w : List Int) : List Cn2 := w.flatMap fun e => [(e, 0), (e, 1)]
def N0 (c : Cn2) : Int := 2 * c.1 + c.2
theorem mem_corners {w : List Int} {c : Cn2} : c ∈ corners w ↔ c.1 ∈ w ∧ (c.2 = 0 ∨ c.2 = 1) := by
  unfold corners
  rw [List.mem_flatMap]
  constructor
  · rintro ⟨e, he, hc⟩
    simp only [List.mem_cons, List.not_mem_nil, or_false] at hc
    rcases hc with rfl | rfl
    · exact ⟨he, .inl rfl⟩
    · exact ⟨he, .inr rfl⟩
  · rintro ⟨h1, h2⟩
    refine ⟨c.1, h1, ?_⟩
    simp only [List.mem_cons, List.not_mem_nil, or_false]
    rcases h2 with h2 | h2
    · exact .inl (Prod.ext rfl h2)
    · exact .inr (Prod.ext rfl h2)
theorem cycs_eq {f : Int → Int} {xs : List Int} {cs : List (List Int)} (h : Cycs f xs cs) {c d : List Int} (hc : c ∈ cs) (hd : d ∈ cs) {x : Int} (hx : x ∈ c) (hy : x ∈ d) : c = d := by
  obtain ⟨i₀, hi, rfl⟩ := List.getElem_of_mem hc
  obtain ⟨j, hj, rfl⟩ := List.getElem_of_mem hd
  rcases Nat.lt_trichotomy i₀ j with z | z | z
  · exact absurd hy ((List.pairwise_iff_getElem.mp h.dj) i₀ j hi hj z x hx)
  · subst z; rfl
  · exact absurd hx ((List.pairwise_iff_getElem.mp h.dj) j i₀ hj hi z x hy)
def kap (cs : List (List Int)) (x : Int) : List Int := (cs.find? fun d => decide (x ∈ d)).getD []
theorem kap_of {f : Int → Int} {xs : List Int} {cs : List (List Int)} (h : Cycs f xs cs) {d : List Int} (hd : d ∈ cs) {x : Int} (hx : x ∈ d) : kap cs x = d := by
  unfold kap
  cases q : cs.find? fun d => decide (x ∈ d) with
  | none =>
    have := List.find?_eq_none.mp q d hd
    simp [hx] at this
  | some c =>
    have h1 := List.mem_of_find?_eq_some q
    have h2 := List.find?_some q
    exact cycs_eq h h1 hd (of_decide_eq_true h2) hx
def repC (c : Cn2) : Int := if c.2 = 0 then c.1 else mate c.1
theorem lots_count {n : Nat} {w : List Int} (h : Row n w) {cs : List (List Int)} (hc : Cycs (fB w) w cs) (P : List (Cn2 × Cn2)) (hP1 : ∀ e ∈ w, ((e, 1), (nxt w e, 0)) ∈ P ∧ ((e, 0), (mate e, 1)) ∈ P)
    (hP2 : ∀ p ∈ P, ∃ e ∈ w, p = ((e, 1), (nxt w e, 0)) ∨ p = ((e, 0), (mate e, 1))) : (gath [] ((corners w).map (P.foldl stepN N0))).length = cs.length := by
  have hfb : ∀ e ∈ w, ∀ d ∈ cs, e ∈ d → fB w e ∈ d := fun e he d hd hed => by
    obtain ⟨i, hi⟩ := List.getElem?_of_mem hed
    exact List.mem_of_getElem? ((hc.cyc d hd).2.2 i e hi)
  have hinj := fold_inj (fun c => kap cs (repC c)) (fun c => c.1 ∈ w ∧ (c.2 = 0 ∨ c.2 = 1)) P N0 (fun p hp => by
    obtain ⟨e, he, rfl | rfl⟩ := hP2 p hp
    · refine ⟨⟨he, .inr rfl⟩, ⟨nxt_mem h.nd he, .inl rfl⟩, ?_⟩
      have hm := h.mate he
      obtain ⟨d, hd, hx⟩ := hc.all _ hm
      have hf := hfb _ hm d hd hx
      unfold fB at hf
      rw [mate_mate] at hf
      show kap cs (mate e) = kap cs (nxt w e)
      rw [kap_of hc hd hx, kap_of hc hd hf]
    · refine ⟨⟨he, .inl rfl⟩, ⟨h.mate he, .inr rfl⟩, ?_⟩
      show kap cs e = kap cs (mate (mate e))
      rw [mate_mate]) fun x₀ y hx hy e => by
    unfold N0 at e
    have : x₀ = y := by
      rcases hx.2 with a | a <;> rcases hy.2 with b | b <;> exact Prod.ext (by omega) (by omega)
    rw [this]
  obtain ⟨Nf, hNf⟩ : ∃ Nf, P.foldl stepN N0 = Nf := ⟨_, rfl⟩
  have p1 : ∀ e ∈ w, Nf (e, 1) = Nf (nxt w e, 0) := fun e he => hNf ▸ fold_pair P N0 _ (hP1 e he).1
  have p2 : ∀ e ∈ w, Nf (e, 0) = Nf (mate e, 1) := fun e he => hNf ▸ fold_pair P N0 _ (hP1 e he).2
  rw [hNf] at hinj ⊢
  have conn : ∀ e ∈ w, Nf (e, 0) = Nf (fB w e, 0) := fun e he => (p2 e he).trans (p1 _ (h.mate he))
  have hd0 : ∀ d ∈ cs, ∃ x₀ r, d = x₀ :: r := fun d hd => by
    cases d with
    | nil => exact absurd rfl (hc.cyc [] hd).1
    | cons x₀ r => exact ⟨x₀, r, rfl⟩
  have along : ∀ d ∈ cs, ∀ (i : Nat) (x₀ : Int), d[i]? = some x₀ → Nf (x₀, 0) = Nf (d.headD 0, 0) := by
    intro d hd i
    induction i with
    | zero =>
      intro x₀ hx
      obtain ⟨y, r, rfl⟩ := hd0 d hd
      cases hx; rfl
    | succ i ih =>
      intro x₀ hx
      have lt := (List.getElem?_eq_some_iff.mp hx).1
      have hy : d[i]? = some d[i] := List.getElem?_eq_getElem (by omega)
      have e := (hc.cyc d hd).2.2 i _ hy
      rw [Nat.mod_eq_of_lt lt, hx] at e
      rw [Option.some.inj e, ← conn _ (hc.sub d hd _ (List.mem_of_getElem? hy))]
      exact ih _ hy
  have mem0 : ∀ d ∈ cs, d.headD 0 ∈ d := fun d hd => by
    obtain ⟨x₀, r, rfl⟩ := hd0 d hd
    exact List.mem_cons_self ..
  have ndL : (cs.map fun d => Nf (d.headD 0, 0)).Nodup := by
    rw [List.Nodup, List.pairwise_map]
    refine List.Pairwise.imp_of_mem (fun {c d} hcm hdm dj e => ?_) hc.dj
    have hx := mem0 c hcm
    have hy := mem0 d hdm
    have := hinj (c.headD 0, 0) (d.headD 0, 0) ⟨hc.sub c hcm _ hx, .inl rfl⟩ ⟨hc.sub d hdm _ hy, .inl rfl⟩ e
    have a : kap cs (c.headD 0) = c := kap_of hc hcm hx
    have b : kap cs (d.headD 0) = d := kap_of hc hdm hy
    have this : kap cs (c.headD 0) = kap cs (d.headD 0) := this
    rw [a, b] at this
    exact dj _ hx (this ▸ hx)
  obtain ⟨g1, g2⟩ := gath_spec ((corners w).map Nf) [] List.nodup_nil
  have hp : (gath [] ((corners w).map Nf)).Perm (cs.map fun d => Nf (d.headD 0, 0)) := (List.perm_ext_iff_of_nodup g1 ndL).mpr fun v => by
    rw [g2 v]
    constructor
    · rintro (q | q)
      · cases q
      · obtain ⟨c, hcc, rfl⟩ := List.mem_map.mp q
        obtain ⟨m1, m2⟩ := mem_corners.mp hcc
        have fin : ∀ e ∈ w, ∃ d ∈ cs, Nf (d.headD 0, 0) = Nf (e, 0) := fun e he => by
          obtain ⟨d, hd, hx⟩ := hc.all e he
          obtain ⟨i, hi⟩ := List.getElem?_of_mem hx
          exact ⟨d, hd, (along d hd i e hi).symm⟩
        rcases m2 with z | z
        · obtain ⟨d, hd, e⟩ := fin c.1 m1
          exact List.mem_map.mpr ⟨d, hd, by rw [e]; exact congrArg Nf (Prod.ext rfl z.symm)⟩
        · obtain ⟨d, hd, e⟩ := fin (mate c.1) (h.mate m1)
          refine List.mem_map.mpr ⟨d, hd, ?_⟩
          rw [e, p2 _ (h.mate m1), mate_mate]
          exact congrArg Nf (Prod.ext rfl z.symm)
    · intro q
      obtain ⟨d, hd, rfl⟩ := List.mem_map.mp q
      exact .inr (List.mem_map.mpr ⟨(d.headD 0, 0), mem_corners.mpr ⟨hc.sub d hd _ (mem0 d hd), .inl rfl⟩, rfl⟩)
  rw [hp.length_eq, List.length_map]
end TP
set_option Elab.async false
set_option linter.all false
set_option maxRecDepth 100000
set_option maxHeartbeats 401234
/-! The defs of tautrounds_k02_whole_rims_and_genus as tree programs. -/
namespace TP.K02
open PySem L2 PyProof.Rows PySem.Spec LamX TP
def top (i : Nat) : Stmt := PySem.Challenge.pw_tautrounds_k02_whole_rims_and_genus.main.body.getD i (.Pass ⟨0, 0, 0, 0⟩)
def sub (i j : Nat) : Stmt := match top i with
  | .ClassDef (body := b) .. => b.getD j (.Pass ⟨0, 0, 0, 0⟩)
  | _ => .Pass ⟨0, 0, 0, 0⟩
def cellsE (s : Stmt) : Expr := match (defBody s).getD 1 (.Pass ⟨0, 0, 0, 0⟩) with
  | .Return (some (.Dict _ vs _)) _ => vs.getD 2 (.Constant .none 0 ⟨0, 0, 0, 0⟩)
  | _ => .Constant .none 0 ⟨0, 0, 0, 0⟩
abbrev ks : List Cn := [.ty "NoneType", .ty "bool", .ty "int", .ty "str", .ty "tuple", .ty "list", .ty "dict", .own "Skin", .own "BadSkin"]
abbrev os : List Str := ["Skin"]
abbrev xs : List Str := ["BadSkin"]
abbrev errs : List Str := ["BadSkin"]
def sub_BadSkin (k : Cn) : Bool := k == .own "BadSkin"
def sub_Skin (k : Cn) : Bool := k == .own "Skin"
def sub_bool (k : Cn) : Bool := k == .ty "bool"
def sub_int (k : Cn) : Bool := k == .ty "int" || k == .ty "bool"
def sub_list (k : Cn) : Bool := k == .ty "list"
def sub_tuple (k : Cn) : Bool := k == .ty "tuple"
abbrev CS (K : PySem.W.Frag) : List (Addr × Addr) := [He.cT K ("law", none)]
abbrev TT (K : PySem.W.Frag) : List (Addr × Str) := [((He.cT K ("law", none)).2, ("law" ++ ".<locals>.") ++ "<lambda>")]
structure Hd (K : PySem.W.Frag) (mg : Str → Option Value) (P : Program) : Prop where
  own : OwnF K mg os xs
  sys : SysIn K
  cd_law : (fdA K (He.ga K "law")).code = .ref (He.cT K ("law", none)).1
  F_Skin___init__ : L2.Fun K "__init__" "Skin.__init__" (sub 12 0) (He.ma K (He.ga K "Skin") "__init__") (fdA K (He.ma K (He.ga K "Skin") "__init__"))
  F_law_begun : L2.Fun K "_law_begun" "_law_begun" (top 21) (He.ga K "_law_begun") (fdA K (He.ga K "_law_begun"))
  g_law_begun : mg "_law_begun" = some (.ref (He.ga K "_law_begun"))
  F_law_least_turn : L2.Fun K "_law_least_turn" "_law_least_turn" (top 29) (He.ga K "_law_least_turn") (fdA K (He.ga K "_law_least_turn"))
  g_law_least_turn : mg "_law_least_turn" = some (.ref (He.ga K "_law_least_turn"))
  F_law_lots : L2.Fun K "_law_lots" "_law_lots" (top 32) (He.ga K "_law_lots") (fdA K (He.ga K "_law_lots"))
  g_law_lots : mg "_law_lots" = some (.ref (He.ga K "_law_lots"))
  F_law_mate : L2.Fun K "_law_mate" "_law_mate" (top 28) (He.ga K "_law_mate") (fdA K (He.ga K "_law_mate"))
  g_law_mate : mg "_law_mate" = some (.ref (He.ga K "_law_mate"))
  F_law_mixed : L2.Fun K "_law_mixed" "_law_mixed" (top 22) (He.ga K "_law_mixed") (fdA K (He.ga K "_law_mixed"))
  g_law_mixed : mg "_law_mixed" = some (.ref (He.ga K "_law_mixed"))
  F_law_pick : L2.Fun K "_law_pick" "_law_pick" (top 24) (He.ga K "_law_pick") (fdA K (He.ga K "_law_pick"))
  g_law_pick : mg "_law_pick" = some (.ref (He.ga K "_law_pick"))
  F_law_rims : L2.Fun K "_law_rims" "_law_rims" (top 31) (He.ga K "_law_rims") (fdA K (He.ga K "_law_rims"))
  g_law_rims : mg "_law_rims" = some (.ref (He.ga K "_law_rims"))
  F_law_row : L2.Fun K "_law_row" "_law_row" (top 30) (He.ga K "_law_row") (fdA K (He.ga K "_law_row"))
  g_law_row : mg "_law_row" = some (.ref (He.ga K "_law_row"))
  F_law_shuffled : L2.Fun K "_law_shuffled" "_law_shuffled" (top 25) (He.ga K "_law_shuffled") (fdA K (He.ga K "_law_shuffled"))
  g_law_shuffled : mg "_law_shuffled" = some (.ref (He.ga K "_law_shuffled"))
  F_law_skin_error : L2.Fun K "_law_skin_error" "_law_skin_error" (top 27) (He.ga K "_law_skin_error") (fdA K (He.ga K "_law_skin_error"))
  g_law_skin_error : mg "_law_skin_error" = some (.ref (He.ga K "_law_skin_error"))
  F_law_take : L2.Fun K "_law_take" "_law_take" (top 23) (He.ga K "_law_take") (fdA K (He.ga K "_law_take"))
  g_law_take : mg "_law_take" = some (.ref (He.ga K "_law_take"))
  F_end_behind : L2.Fun K "end_behind" "end_behind" (top 14) (He.ga K "end_behind") (fdA K (He.ga K "end_behind"))
  g_end_behind : mg "end_behind" = some (.ref (He.ga K "end_behind"))
  F_genus : L2.Fun K "genus" "genus" (top 19) (He.ga K "genus") (fdA K (He.ga K "genus"))
  g_genus : mg "genus" = some (.ref (He.ga K "genus"))
  F_genus_of : L2.Fun K "genus_of" "genus_of" (top 18) (He.ga K "genus_of") (fdA K (He.ga K "genus_of"))
  g_genus_of : mg "genus_of" = some (.ref (He.ga K "genus_of"))
  F_is_between : L2.Fun K "is_between" "is_between" (top 5) (He.ga K "is_between") (fdA K (He.ga K "is_between"))
  g_is_between : mg "is_between" = some (.ref (He.ga K "is_between"))
  F_is_list : L2.Fun K "is_list" "is_list" (top 6) (He.ga K "is_list") (fdA K (He.ga K "is_list"))
  g_is_list : mg "is_list" = some (.ref (He.ga K "is_list"))
  F_is_number : L2.Fun K "is_number" "is_number" (top 4) (He.ga K "is_number") (fdA K (He.ga K "is_number"))
  g_is_number : mg "is_number" = some (.ref (He.ga K "is_number"))
  F_is_row : L2.Fun K "is_row" "is_row" (top 11) (He.ga K "is_row") (fdA K (He.ga K "is_row"))
  g_is_row : mg "is_row" = some (.ref (He.ga K "is_row"))
  F_is_sequence : L2.Fun K "is_sequence" "is_sequence" (top 10) (He.ga K "is_sequence") (fdA K (He.ga K "is_sequence"))
  g_is_sequence : mg "is_sequence" = some (.ref (He.ga K "is_sequence"))
  F_law : L2.Fun K "law" "law" (top 33) (He.ga K "law") (fdA K (He.ga K "law"))
  g_law : mg "law" = some (.ref (He.ga K "law"))
  F_least_turn : L2.Fun K "least_turn" "least_turn" (top 15) (He.ga K "least_turn") (fdA K (He.ga K "least_turn"))
  g_least_turn : mg "least_turn" = some (.ref (He.ga K "least_turn"))
  F_need_skin : L2.Fun K "need_skin" "need_skin" (top 13) (He.ga K "need_skin") (fdA K (He.ga K "need_skin"))
  g_need_skin : mg "need_skin" = some (.ref (He.ga K "need_skin"))
  F_rims : L2.Fun K "rims" "rims" (top 17) (He.ga K "rims") (fdA K (He.ga K "rims"))
  g_rims : mg "rims" = some (.ref (He.ga K "rims"))
  F_rims_of : L2.Fun K "rims_of" "rims_of" (top 16) (He.ga K "rims_of") (fdA K (He.ga K "rims_of"))
  g_rims_of : mg "rims_of" = some (.ref (He.ga K "rims_of"))
  cf_Skin_bands : ClsF K mg "Skin" "bands"
  cf_Skin_row : ClsF K mg "Skin" "row"
  i_LEAST_ENDS : ∃ t, mg "LEAST_ENDS" = some (.int 2 t)
  i_MOST_ENDS : ∃ t, mg "MOST_ENDS" = some (.int 12 t)
  n_abs : mg "abs" = none
  n_all : mg "all" = none
  n_bool : mg "bool" = none
  n_enumerate : mg "enumerate" = none
  n_int : mg "int" = none
  n_isinstance : mg "isinstance" = none
  n_len : mg "len" = none
  n_list : mg "list" = none
  n_max : mg "max" = none
  n_min : mg "min" = none
  n_range : mg "range" = none
  n_repr : mg "repr" = none
  n_sorted : mg "sorted" = none
  n_sum : mg "sum" = none
  n_tuple : mg "tuple" = none
  k_BadSkin : KoF K mg ks (.own "BadSkin") sub_BadSkin
  k_Skin : KoF K mg ks (.own "Skin") sub_Skin
  k_bool : KoF K mg ks (.ty "bool") sub_bool
  k_int : KoF K mg ks (.ty "int") sub_int
  k_list : KoF K mg ks (.ty "list") sub_list
  k_tuple : KoF K mg ks (.ty "tuple") sub_tuple
  xf_part : ∀ c ∈ xs, XfF K mg c "part"
  er_BadSkin : ErrK P K (He.ga K "BadSkin") (He.ma K (He.ga K "BadSkin") "__init__") "part" "part"
  g_BadSkin : mg "BadSkin" = some (.ref (He.ga K "BadSkin"))
  g_Skin : mg "Skin" = some (.ref (He.ga K "Skin"))
  mk_Skin : Mk K (He.ga K "Skin") (He.ma K (He.ga K "Skin") "__init__")
  eq_Skin : EqF K (He.ga K "Skin") (He.ma K (He.ga K "Skin") "__eq__")
  nf_Skin : NfF K mg "Skin" ks
  F_law_caught : L2.Fun K "_law_caught" "_law_caught" (top 26) (He.ga K "_law_caught") (fdA K (He.ga K "_law_caught"))
  g_law_caught : mg "_law_caught" = some (.ref (He.ga K "_law_caught"))
  g_RoundError : mg "RoundError" = some (.ref (He.ga K "RoundError"))
  xm : ∀ c ∈ errs, ∀ C, mg c = some (.ref C) → PySem.W.exmOne K (.ref C) (.ref (He.ga K "RoundError")) = some true
  tnd : ((TT K).map (·.1)).Nodup
section
variable {P : Program} {w : World} {K :
        PySem.W.Frag} {mg : Str → Option Value} {base : Heap}
theorem caught (h : Hd K mg P) (tb : ∀ p ∈ CS K, TabB base mg p.1 p.2) {X : Cx} {E : XK} {k : Nat} (i : Is X P w K mg base) {c Pt : Addr} (hm : (c, Pt) ∈ CS K) (hcode : X.env.code = .ref c) (hT : (Pt, X.env.qual ++ "<lambda>") ∈ TT K)
    (hg : Gl X "_law_caught") (hr : Room (k + 2) X.A) {params : Arguments} {body : Expr} {scope : Scope} {lpos p pos : Pos} {fm : S → M D} (L : LamS X.env.scope scope)
    (hdef : defaultsOf params X.env = ([], [])) (hbind : ∀ (q : Str) (cl : List (Str × Addr)) (pm cv ctv : Value), bindArgs (PySem.W.kla_fn "<lambda>" q params body scope cl pm cv ctv) ⟨[], []⟩ = pure [])
    (hbody : ∀ (A : Around) (outer : List Env) (s : Shared) (H : Hp) (E : XK) (f c' : Addr), Room k (A.deeper (lamEnv X scope s.heap.objs.size f c')) → ∃ t, DM K mg E (TT K) (lamCx X A outer s H E scope f c') body t fm)
    (s0 : Shared) : DM K mg E (TT K) X (.Call (.Name "_law_caught" p) [.Lambda params body scope lpos] [] pos) (tLam3 (TT K) Pt (TTc K (He.ga K "RoundError")) fun E => tCan K mg E (TT K) fm) (mCaught errs fm) := by
  obtain ⟨rfl, rfl, rfl, rfl, rfl⟩ := i
  obtain ⟨oc, od, kV, doc, pm, an, cdv, ct, osl, e, lk, hc⟩ := h.F_law_caught.ex
  rw [e] at lk
  have hb := h.F_law_caught.binds (ps := ["work"]) fun _ _ _ _ _ _ us hl => match us, hl with | [_], _ => rfl
  rw [e] at hb
  exact dm_caught (k := k) rfl rfl h.xm hg h.g_law_caught h.F_law_caught.kp lk hc hb ⟨rfl, rfl, rfl, by decide +kernel, rfl, by decide +kernel, by decide +kernel⟩ (.inl rfl) rfl rfl rfl h.g_RoundError (by decide) (tb _ hm) hcode hT (tab_uniq h.tnd hT) hr L hdef hbind (fun A outer s H E f c' hr => (hbody A outer s H E f c' hr).elim fun _ d => d.canon) s0 (by decide)
/-! is_number -/
theorem sc_is_number : FnScope ["thing"] ["thing"] (defScope (top 4)) := ⟨rfl, rfl, rfl, by decide +kernel, rfl, by decide +kernel, by decide +kernel⟩
def b_is_number : S → M Fl := (sRet (mE (dAndV (d1 (isiD os xs ks sub_int) (dVar 0)) (dNotV (d1 (isiD os xs ks sub_bool) (dVar 0))))))
abbrev F_is_number : List D → R D := run 1 1 b_is_number
theorem bi_is_number (h : Hd K mg P) : Binds K (fdA K (He.ga K "is_number")) ["thing"] [] := h.F_is_number.binds fun _ _ _ _ _ _ us hl => match us, hl with | [_], _ => rfl
theorem ok_is_number (h : Hd K mg P) : FnG false P w K mg base 1 (He.ga K "is_number") (fdA K (He.ga K "is_number")) ["thing"] (spF K mg F_is_number) := fn_ok h.F_is_number sc_is_number rfl fun cdv A outer s H E hr hg hc => ⟨_, (dss_one (ds_ret (DE.toM (de_and (de_isi h.own h.n_isinstance (by rfl) (by rfl) (by rfl) (by rfl) h.k_int (DE.toB (de_var 0)) (dc_ty h.n_int (by decide +kernel) (by rfl))) (de_one (de_not (de_isi h.own h.n_isinstance (by rfl) (by rfl) (by rfl) (by rfl) h.k_bool (DE.toB (de_var 0)) (dc_ty h.n_bool (by decide +kernel) (by rfl)))))))))⟩
theorem c_is_number (h : Hd K mg P) {X : Cx} (i : Is X P w K mg base) (hr : Room 1 X.A) : Callee X "is_number" (He.ga K "is_number") (fdA K (He.ga K "is_number")) ["thing"] (spF K mg F_is_number) := by
  obtain ⟨rfl, rfl, rfl, rfl, rfl⟩ := i
  exact ⟨(ok_is_number h).at_ hr Gd.no, h.g_is_number, h.F_is_number.kp, bi_is_number h⟩
/-! is_between -/
theorem sc_is_between : FnScope ["thing", "low", "high"] ["thing", "low", "high"] (defScope (top 5)) := ⟨rfl, rfl, rfl, by decide +kernel, rfl, by decide +kernel, by decide +kernel⟩
def b_is_between : S → M Fl := (sRet (mE (dAndV (dCall F_is_number (dCons (dVar 0) dNil)) (dChain opLe opLe (dVar 1) (dVar 0) (dVar 2)))))
abbrev F_is_between : List D → R D := run 3 3 b_is_between
theorem bi_is_between (h : Hd K mg P) : Binds K (fdA K (He.ga K "is_between")) ["thing", "low", "high"] [] := h.F_is_between.binds fun _ _ _ _ _ _ us hl => match us, hl with | [_, _, _], _ => rfl
theorem ok_is_between (h : Hd K mg P) : FnG false P w K mg base 2 (He.ga K "is_between") (fdA K (He.ga K "is_between")) ["thing", "low", "high"] (spF K mg F_is_between) := fn_ok h.F_is_between sc_is_between rfl fun cdv A outer s H E hr hg hc => ⟨_, (dss_one (ds_ret (DE.toM (de_and (de_call (c_is_number h ⟨rfl, rfl, rfl, rfl, rfl⟩ (hr.mono (by decide))) cx_pass (da_cons (de_var 0) da_nil)) (de_one (de_chain op_le op_le sem_B0 opI_noX sem_B0 opI_noX (DE.toB (de_var 1)) (DE.toB (de_var 0)) (DE.toB (de_var 2))))))))⟩
theorem c_is_between (h : Hd K mg P) {X : Cx} (i : Is X P w K mg base) (hr : Room 2 X.A) : Callee X "is_between" (He.ga K "is_between") (fdA K (He.ga K "is_between")) ["thing", "low", "high"] (spF K mg F_is_between) := by
  obtain ⟨rfl, rfl, rfl, rfl, rfl⟩ := i
  exact ⟨(ok_is_between h).at_ hr Gd.no, h.g_is_between, h.F_is_between.kp, bi_is_between h⟩
/-! is_list -/
theorem sc_is_list : FnScope ["thing"] ["thing"] (defScope (top 6)) := ⟨rfl, rfl, rfl, by decide +kernel, rfl, by decide +kernel, by decide +kernel⟩
def b_is_list : S → M Fl := (sRet (mE (d1 (isiD os xs ks fun k => sub_list k || sub_tuple k) (dVar 0))))
abbrev F_is_list : List D → R D := run 1 1 b_is_list
theorem bi_is_list (h : Hd K mg P) : Binds K (fdA K (He.ga K "is_list")) ["thing"] [] := h.F_is_list.binds fun _ _ _ _ _ _ us hl => match us, hl with | [_], _ => rfl
theorem ok_is_list (h : Hd K mg P) : FnG false P w K mg base 1 (He.ga K "is_list") (fdA K (He.ga K "is_list")) ["thing"] (spF K mg F_is_list) := fn_ok h.F_is_list sc_is_list rfl fun cdv A outer s H E hr hg hc => ⟨_, (dss_one (ds_ret (DE.toM (de_isi2 h.own h.n_isinstance (by rfl) (by rfl) (by rfl) (by rfl) (by rfl) (by rfl) h.k_list h.k_tuple (DE.toB (de_var 0)) (dc_ty h.n_list (by decide +kernel) (by rfl)) (dc_ty h.n_tuple (by decide +kernel) (by rfl))))))⟩
theorem c_is_list (h : Hd K mg P) {X : Cx} (i : Is X P w K mg base) (hr : Room 1 X.A) : Callee X "is_list" (He.ga K "is_list") (fdA K (He.ga K "is_list")) ["thing"] (spF K mg F_is_list) := by
  obtain ⟨rfl, rfl, rfl, rfl, rfl⟩ := i
  exact ⟨(ok_is_list h).at_ hr Gd.no, h.g_is_list, h.F_is_list.kp, bi_is_list h⟩
/-! is_sequence -/
theorem sc_is_sequence : FnScope ["thing", "size", "item"] ["thing", "size"] (defScope (top 10)) := ⟨rfl, rfl, rfl, by decide +kernel, rfl, by decide +kernel, by decide +kernel⟩
def b_is_sequence : S → M Fl := (sSeq (sIf (mOr (mT (dNot (dT (dCall F_is_list (dCons (dVar 0) dNil))))) (mOr (mT (dT (d2 opNe (d1 bLen (dVar 0)) (dVar 1)))) (mNot (mTest (mA (one bAll) (mCons (lM (fComp [2] (fItems (mE (dVar 0))) (asgN 2) (fun ρ => .ok true ρ) (mE (dCall F_is_between (dCons (dVar 2) (dCons (dC (.int 0)) (dCons (d2 opSub (dVar 1) (dC (.int 1))) dNil))))))) mNil)))))) (sRet (mE (dC (.bl false)))) sNext) (sRet (mE (d2 opEq (fun ρ => ((d1N bSort (dVar 0)) ρ).map D.lst) (fun ρ => ((d1N rgR (dVar 1)) ρ).map D.lst)))))
abbrev F_is_sequence : List D → R D := run 3 2 b_is_sequence
theorem bi_is_sequence (h : Hd K mg P) : Binds K (fdA K (He.ga K "is_sequence")) ["thing", "size"] [] := h.F_is_sequence.binds fun _ _ _ _ _ _ us hl => match us, hl with | [_, _], _ => rfl
theorem ok_is_sequence (h : Hd K mg P) : FnG false P w K mg base 3 (He.ga K "is_sequence") (fdA K (He.ga K "is_sequence")) ["thing", "size"] (spF K mg F_is_sequence) := fn_ok h.F_is_sequence sc_is_sequence rfl fun cdv A outer s H E hr hg hc => ⟨_, (dss_cons (ds_if (DMW.t (dmw_or (DT.toM (dt_not (dt_val (de_call (c_is_list h ⟨rfl, rfl, rfl, rfl, rfl⟩ (hr.mono (by decide))) cx_pass (da_cons (de_var 0) da_nil))))) (dmw_or (DT.toM (dt_cmp (op_neP hr.units) sem_eqP eq_noX (DE.toB (de_bi cr_len2 sem_len len_nx h.n_len (by decide +kernel) (DE.toB (de_var 0)))) (DE.toB (de_var 1)) (by rfl))) (dmw_or1 (dmt_not (dmt_val (dm_bi (cr_all (by rfl)) sem_all.toA (one_nx all_nx) h.n_all (by decide +kernel) (dma_cons (DMN.toM (dmn_lc (own := [("item", 2)]) (by rfl) sc_is_sequence.nd (di_seq (DE.toM (de_var 0))) (blkOk_by (by kernel_rfl)) (fun _ _ _ _ _ => (dg_name 2 sc_is_sequence.nd)) (by decide) (fun _ _ _ _ _ => dts_nil) (fun _ _ _ _ _ => (DE.toM (de_call (c_is_between h ⟨rfl, rfl, rfl, rfl, rfl⟩ (hr.mono (by decide))) passL (da_cons (de_var 2) (da_cons de_int (da_cons (de_op op_sub sem_sub opI_noX (DE.toB (de_var 1)) (DE.toB de_int)) da_nil)))))) (by intro _; rfl) s)) dma_nil)))))))) (dss_one (ds_ret (DE.toM de_bl))) dss_nil) (dss_one (ds_ret (DE.toM (de_cmp (op_eqP hr.units) sem_eqP eq_noX (DE.toB (DN.toE (dn_bi cr_sortLT sem_sort sort_nx h.n_sorted (by decide +kernel) (DE.toB (de_var 0))))) (DE.toB (DN.toE (dn_listRg (by rfl) (by rfl) h.n_list (by rfl) h.n_range (de_var 1) (by rfl) (by rfl)))) (by rfl))))))⟩
theorem c_is_sequence (h : Hd K mg P) {X : Cx} (i : Is X P w K mg base) (hr : Room 3 X.A) : Callee X "is_sequence" (He.ga K "is_sequence") (fdA K (He.ga K "is_sequence")) ["thing", "size"] (spF K mg F_is_sequence) := by
  obtain ⟨rfl, rfl, rfl, rfl, rfl⟩ := i
  exact ⟨(ok_is_sequence h).at_ hr Gd.no, h.g_is_sequence, h.F_is_sequence.kp, bi_is_sequence h⟩
/-! is_row -/
theorem sc_is_row : FnScope ["thing"] ["thing"] (defScope (top 11)) := ⟨rfl, rfl, rfl, by decide +kernel, rfl, by decide +kernel, by decide +kernel⟩
def b_is_row : S → M Fl := (sSeq (sIf (mT (dOr (dNot (dT (dCall F_is_list (dCons (dVar 0) dNil)))) (dOr (dNot (dT (dChain opLe opLe (dC (.int 2)) (d1 bLen (dVar 0)) (dC (.int 12))))) (dT (d2 opEq (d2 opMod (d1 bLen (dVar 0)) (dC (.int 2))) (dC (.int 1))))))) (sRet (mE (dC (.bl false)))) sNext) (sRet (mE (dCall F_is_sequence (dCons (dVar 0) (dCons (d1 bLen (dVar 0)) dNil))))))
abbrev F_is_row : List D → R D := run 1 1 b_is_row
theorem bi_is_row (h : Hd K mg P) : Binds K (fdA K (He.ga K "is_row")) ["thing"] [] := h.F_is_row.binds fun _ _ _ _ _ _ us hl => match us, hl with | [_], _ => rfl
theorem ok_is_row (h : Hd K mg P) : FnG false P w K mg base 4 (He.ga K "is_row") (fdA K (He.ga K "is_row")) ["thing"] (spF K mg F_is_row) := fn_ok h.F_is_row sc_is_row rfl fun cdv A outer s H E hr hg hc => ⟨_, (dss_cons (ds_if (DT.toM (DW.t (dw_or (dt_not (dt_val (de_call (c_is_list h ⟨rfl, rfl, rfl, rfl, rfl⟩ (hr.mono (by decide))) cx_pass (da_cons (de_var 0) da_nil)))) (dw_or (dt_not (dt_chain op_le op_le sem_B0 opI_noX sem_B0 opI_noX (DE.toB (de_globI h.i_LEAST_ENDS)) (DE.toB (de_bi cr_len2 sem_len len_nx h.n_len (by decide +kernel) (DE.toB (de_var 0)))) (DE.toB (de_globI h.i_MOST_ENDS)))) (dw_or1 (dt_cmp (op_eqP hr.units) sem_eqP eq_noX (DE.toB (de_op op_mod sem_mod opI_noX (DE.toB (de_bi cr_len2 sem_len len_nx h.n_len (by decide +kernel) (DE.toB (de_var 0)))) (DE.toB de_int))) (DE.toB de_int) (by rfl))))))) (dss_one (ds_ret (DE.toM de_bl))) dss_nil) (dss_one (ds_ret (DE.toM (de_call (c_is_sequence h ⟨rfl, rfl, rfl, rfl, rfl⟩ (hr.mono (by decide))) cx_pass (da_cons (de_var 0) (da_cons (de_bi cr_len2 sem_len len_nx h.n_len (by decide +kernel) (DE.toB (de_var 0))) da_nil)))))))⟩
theorem c_is_row (h : Hd K mg P) {X : Cx} (i : Is X P w K mg base) (hr : Room 4 X.A) : Callee X "is_row" (He.ga K "is_row") (fdA K (He.ga K "is_row")) ["thing"] (spF K mg F_is_row) := by
  obtain ⟨rfl, rfl, rfl, rfl, rfl⟩ := i
  exact ⟨(ok_is_row h).at_ hr Gd.no, h.g_is_row, h.F_is_row.kp, bi_is_row h⟩
/-! Skin.__init__ -/
theorem sc_Skin___init__ : FnScope ["self", "row", "begin"] ["self", "row"] (defScope (sub 12 0)) := ⟨rfl, rfl, rfl, by decide +kernel, rfl, by decide +kernel, by decide +kernel⟩
def b_Skin___init__ : S → M Fl := (sSeq (sIf (mT (dNot (dT (dCall F_is_row (dCons (dVar 1) dNil))))) (sRaise "BadSkin" "part" (mE (dC (.str "row")))) sNext) (sSeq (sSet 2 (vE (dIdx (fun ρ => ((d1N bList (dVar 1)) ρ).map D.lst) (dC (.int 0))))) (sSeq (sFldD 0 "Skin" "row" (mE (d2 opAdd (d1 bTuple (dSl (dVar 1) (oSome (dVar 2)) oNone)) (d1 bTuple (dSl (dVar 1) oNone (oSome (dVar 2))))))) (sFldD 0 "Skin" "bands" (mE (d2 opDiv (d1 bLen (dVar 1)) (dC (.int 2))))))))
abbrev F_Skin___init__ : List D → R (List (Str × D)) := runI 3 2 "Skin" b_Skin___init__
theorem bi_Skin___init__ (h : Hd K mg P) : Binds K (fdA K (He.ma K (He.ga K "Skin") "__init__")) ["self", "row"] [] := h.F_Skin___init__.binds fun _ _ _ _ _ _ us hl => match us, hl with | [_, _], _ => rfl
theorem ok_Skin___init__ (h : Hd K mg P) : FnG false P w K mg base 5 (He.ma K (He.ga K "Skin") "__init__") (fdA K (He.ma K (He.ga K "Skin") "__init__")) ["self", "row"] (spI K mg "Skin" F_Skin___init__) := fn_okI h.F_Skin___init__ sc_Skin___init__ rfl fun cdv A outer s H E hr hg hc => ⟨_, (dss_cons (ds_if (DT.toM (dt_not (dt_val (de_call (c_is_row h ⟨rfl, rfl, rfl, rfl, rfl⟩ (hr.mono (by decide))) cx_pass (da_cons (de_var 1) da_nil))))) (dss_one (ds_raise (k := 0) (h.er_BadSkin) (hr.mono (by decide)) (by rfl) cx_takes h.g_BadSkin (DE.toM de_str))) dss_nil) (dss_cons (ds_set 2 sc_Skin___init__.nd (DE.toV (de_idx (DE.toB (DN.toE (dn_ty cr_list sem_list list_nx h.n_list (by decide +kernel) (DE.toB (de_var 1))))) de_int (by rfl) (by rfl) (by rfl) (by rfl) (by rfl)))) (dss_cons (ds_fld 0 h.cf_Skin_row (DE.toM (de_op or_add sem_add add_noX (DE.toB (de_ty cr_tupF sem_tuple tuple_nx h.n_tuple (by decide +kernel) (DE.toB (de_slice (DE.toB (de_var 1)) (do_some (de_var 2)) do_none)))) (DE.toB (de_ty cr_tupF sem_tuple tuple_nx h.n_tuple (by decide +kernel) (DE.toB (de_slice (DE.toB (de_var 1)) do_none (do_some (de_var 2)))))))) (by rfl) (by first | exact Or.inl rfl | exact Or.inr (Or.inl rfl) | exact Or.inr (Or.inr rfl)) (by decide) (by decide) (by rfl)) (dss_one (ds_fld 0 h.cf_Skin_bands (DE.toM (de_op op_fdivW sem_div opI_noX (DE.toB (de_bi cr_len2 sem_len len_nx h.n_len (by decide +kernel) (DE.toB (de_var 1)))) (DE.toB de_int))) (by rfl) (by first | exact Or.inl rfl | exact Or.inr (Or.inl rfl) | exact Or.inr (Or.inr rfl)) (by decide) (by decide) (by rfl))))))⟩
theorem mk_Skin (h : Hd K mg P) {X : Cx} (i : Is X P w K mg base) : MakerOf X 5 "Skin" (He.ga K "Skin") (He.ma K (He.ga K "Skin") "__init__") (fdA K (He.ma K (He.ga K "Skin") "__init__")) ["self", "row"] (spI K mg "Skin" F_Skin___init__) := by
  obtain ⟨rfl, rfl, rfl, rfl, rfl⟩ := i
  exact ⟨(ok_Skin___init__ h).ok, h.mk_Skin, h.g_Skin, bi_Skin___init__ h⟩
/-! need_skin -/
theorem sc_need_skin : FnScope ["thing"] ["thing"] (defScope (top 13)) := ⟨rfl, rfl, rfl, by decide +kernel, rfl, by decide +kernel, by decide +kernel⟩
def b_need_skin : S → M Fl := (sIf (mT (dNot (dT (d1 (isiD os xs ks sub_Skin) (dVar 0))))) (sRaise "BadSkin" "part" (mE (dC .non))) sNext)
abbrev F_need_skin : List D → R D := run 1 1 b_need_skin
theorem bi_need_skin (h : Hd K mg P) : Binds K (fdA K (He.ga K "need_skin")) ["thing"] [] := h.F_need_skin.binds fun _ _ _ _ _ _ us hl => match us, hl with | [_], _ => rfl
theorem ok_need_skin (h : Hd K mg P) : FnG false P w K mg base 3 (He.ga K "need_skin") (fdA K (He.ga K "need_skin")) ["thing"] (spF K mg F_need_skin) := fn_ok h.F_need_skin sc_need_skin rfl fun cdv A outer s H E hr hg hc => ⟨_, (dss_one (ds_if (DT.toM (dt_not (dt_val (de_isi h.own h.n_isinstance (by rfl) (by rfl) (by rfl) (by rfl) h.k_Skin (DE.toB (de_var 0)) (dc_own h.g_Skin (by rfl)))))) (dss_one (ds_raise (k := 0) (h.er_BadSkin) (hr.mono (by decide)) (by rfl) cx_takes h.g_BadSkin (DE.toM de_non))) dss_nil))⟩
theorem c_need_skin (h : Hd K mg P) {X : Cx} (i : Is X P w K mg base) (hr : Room 3 X.A) : Callee X "need_skin" (He.ga K "need_skin") (fdA K (He.ga K "need_skin")) ["thing"] (spF K mg F_need_skin) := by
  obtain ⟨rfl, rfl, rfl, rfl, rfl⟩ := i
  exact ⟨(ok_need_skin h).at_ hr Gd.no, h.g_need_skin, h.F_need_skin.kp, bi_need_skin h⟩
/-! end_behind -/
theorem sc_end_behind : FnScope ["row", "end"] ["row", "end"] (defScope (top 14)) := ⟨rfl, rfl, rfl, by decide +kernel, rfl, by decide +kernel, by decide +kernel⟩
def b_end_behind : S → M Fl := (sRet (mE (d2 opIx (dVar 0) (d2 opMod (d2 opAdd (dIdx (dVar 0) (dVar 1)) (dC (.int 1))) (d1 bLen (dVar 0))))))
abbrev F_end_behind : List D → R D := run 2 2 b_end_behind
theorem bi_end_behind (h : Hd K mg P) : Binds K (fdA K (He.ga K "end_behind")) ["row", "end"] [] := h.F_end_behind.binds fun _ _ _ _ _ _ us hl => match us, hl with | [_, _], _ => rfl
theorem ok_end_behind (h : Hd K mg P) : FnG false P w K mg base 1 (He.ga K "end_behind") (fdA K (He.ga K "end_behind")) ["row", "end"] (spF K mg F_end_behind) := fn_ok h.F_end_behind sc_end_behind rfl fun cdv A outer s H E hr hg hc => ⟨_, (dss_one (ds_ret (DE.toM (de_ix (DE.toB (de_var 0)) (DE.toB (de_op op_mod sem_mod opI_noX (DE.toB (de_op or_add sem_add add_noX (DE.toB (de_idx (DE.toB (de_var 0)) (de_var 1) (by rfl) (by rfl) (by rfl) (by rfl) (by rfl))) (DE.toB de_int))) (DE.toB (de_bi cr_len2 sem_len len_nx h.n_len (by decide +kernel) (DE.toB (de_var 0))))))))))⟩
theorem c_end_behind (h : Hd K mg P) {X : Cx} (i : Is X P w K mg base) (hr : Room 1 X.A) : Callee X "end_behind" (He.ga K "end_behind") (fdA K (He.ga K "end_behind")) ["row", "end"] (spF K mg F_end_behind) := by
  obtain ⟨rfl, rfl, rfl, rfl, rfl⟩ := i
  exact ⟨(ok_end_behind h).at_ hr Gd.no, h.g_end_behind, h.F_end_behind.kp, bi_end_behind h⟩
/-! least_turn -/
theorem sc_least_turn : FnScope ["word", "spot"] ["word"] (defScope (top 15)) := ⟨rfl, rfl, rfl, by decide +kernel, rfl, by decide +kernel, by decide +kernel⟩
def b_least_turn : S → M Fl := (sRet (mA (one bMinT) (mCons (lM (fComp [1] (fMapA toRange1 (mCons (mA bMax2 (mCons (mE (dC (.int 1))) (mCons (mE (d1 bLen (dVar 0))) mNil))) mNil)) (asgN 1) (fun ρ => .ok true ρ) (mE (d2 opAdd (dSl (dVar 0) (oSome (dVar 1)) oNone) (dSl (dVar 0) oNone (oSome (dVar 1))))))) mNil)))
abbrev F_least_turn : List D → R D := run 2 1 b_least_turn
theorem bi_least_turn (h : Hd K mg P) : Binds K (fdA K (He.ga K "least_turn")) ["word"] [] := h.F_least_turn.binds fun _ _ _ _ _ _ us hl => match us, hl with | [_], _ => rfl
theorem ok_least_turn (h : Hd K mg P) : FnG false P w K mg base 1 (He.ga K "least_turn") (fdA K (He.ga K "least_turn")) ["word"] (spF K mg F_least_turn) := fn_ok h.F_least_turn sc_least_turn rfl fun cdv A outer s H E hr hg hc => ⟨_, (dss_one (ds_ret (dm_bi (cr_minT (by rfl) h.sys hr.units) sem_minT.toA (one_nx minT_nx) h.n_min (by decide +kernel) (dma_cons (DMN.toM (dmn_lc (own := [("spot", 1)]) (by rfl) sc_least_turn.nd (di_range1 h.n_range (dma_cons (dm_bi (call_max2 (by rfl)) sem_max2 max2_nx h.n_max (by decide +kernel) (dma_cons (DE.toM de_int) (dma_cons (DE.toM (de_bi cr_len2 sem_len len_nx h.n_len (by decide +kernel) (DE.toB (de_var 0)))) dma_nil))) dma_nil)) (blkOk_by (by kernel_rfl)) (fun _ _ _ _ _ => (dg_name 1 sc_least_turn.nd)) (by decide) (fun _ _ _ _ _ => dts_nil) (fun _ _ _ _ _ => (DE.toM (de_op or_add sem_add add_noX (DE.toB (de_slice (DE.toB (de_var 0)) (do_some (de_var 1)) do_none)) (DE.toB (de_slice (DE.toB (de_var 0)) do_none (do_some (de_var 1))))))) (by intro _; rfl) s)) dma_nil))))⟩
theorem c_least_turn (h : Hd K mg P) {X : Cx} (i : Is X P w K mg base) (hr : Room 1 X.A) : Callee X "least_turn" (He.ga K "least_turn") (fdA K (He.ga K "least_turn")) ["word"] (spF K mg F_least_turn) := by
  obtain ⟨rfl, rfl, rfl, rfl, rfl⟩ := i
  exact ⟨(ok_least_turn h).at_ hr Gd.no, h.g_least_turn, h.F_least_turn.kp, bi_least_turn h⟩
/-! rims_of -/
theorem sc_rims_of : FnScope ["skin", "found", "met", "end", "rim", "letter", ".d0", ".d1"] ["skin"] (defScope (top 16)) := ⟨rfl, rfl, rfl, by decide +kernel, rfl, by decide +kernel, by decide +kernel⟩
def b_rims_of : S → M Fl := (sSeq (sPar [6, 7] [1, 2] ((vN (dLst dNil)) :: ((vN (dLst dNil)) :: []))) (sSeq (sFor (fItems (mE (d1 (fldD "Skin" "row") (dVar 0)))) (asgN 3) (sSeq (sPar [6, 7] [4, 5] ((vN (dLst dNil)) :: ((vE (dVar 3)) :: []))) (sSeq (whileN (mT (dT (d2 (opIn true) (dVar 5) (dVarB 2)))) (sSeq (sDrop (mAppend 2 (mE (dVar 5)))) (sSeq (sDrop (mAppend 4 (mE (dVar 5)))) (sSet 5 (vE (dCall F_end_behind (dCons (d1 (fldD "Skin" "row") (dVar 0)) (dCons (d2 opXor (dVar 5) (dC (.int 1))) dNil))))))) 100) (sIf (mT (dT (d2 opNe (dVarB 4) (fun ρ => ((dLst dNil) ρ).map D.lst)))) (sDrop (mAppend 1 (mE (dCall F_least_turn (dCons (d1 bTuple (dVarB 4)) dNil))))) sNext)))) (sRetN (d1N bSortT (dVarB 1)))))
abbrev F_rims_of : List D → R (List D) := runN 8 1 b_rims_of
theorem bi_rims_of (h : Hd K mg P) : Binds K (fdA K (He.ga K "rims_of")) ["skin"] [] := h.F_rims_of.binds fun _ _ _ _ _ _ us hl => match us, hl with | [_], _ => rfl
theorem ok_rims_of (h : Hd K mg P) : FnG false P w K mg base 2 (He.ga K "rims_of") (fdA K (He.ga K "rims_of")) ["skin"] (spN K mg F_rims_of) := fn_okN h.F_rims_of sc_rims_of rfl fun cdv A outer s H E hr hg hc => ⟨_, (dss_cons (ds_par2 (by rfl) sc_rims_of.nd (by rfl) (by rfl) (by rfl) (by rfl) (dq_cons (dum_of (by rfl) (by rfl)) (DN.toV (dn_lst da_nil)) (dq_cons (dum_of (by rfl) (by rfl)) (DN.toV (dn_lst da_nil)) (dq_nil (by rfl) (by rfl)))) (by decide) (by rfl) (by rfl)) (dss_cons (ds_for cx_own (by rfl) (di_seq (DE.toM (de_fld h.cf_Skin_row (de_var 0)))) (dg_name 3 sc_rims_of.nd) (dss_cons (ds_par2 (by rfl) sc_rims_of.nd (by rfl) (by rfl) (by rfl) (by rfl) (dq_cons (dum_of (by rfl) (by rfl)) (DN.toV (dn_lst da_nil)) (dq_cons (dum_of (by rfl) (by rfl)) (DE.toV (de_var 3)) (dq_nil (by rfl) (by rfl)))) (by decide) (by rfl) (by rfl)) (dss_cons (ds_while 100 cx_own (DT.toM (dt_cmp (op_notInP (u65 hr)) sem_inP in_noX (DE.toB (de_var 5)) (db_var 2) (by rfl))) (dss_cons (ds_expr (dm_append (pl := pure true) 2 (DE.toM (de_var 5)))) (dss_cons (ds_expr (dm_append (pl := pure true) 4 (DE.toM (de_var 5)))) (dss_one (ds_set 5 sc_rims_of.nd (DE.toV (de_call (c_end_behind h ⟨rfl, rfl, rfl, rfl, rfl⟩ (hr.mono (by decide))) cx_pass (da_cons (de_fld h.cf_Skin_row (de_var 0)) (da_cons (de_op op_xor sem_xor opI_noX (DE.toB (de_var 5)) (DE.toB de_int)) da_nil))))))))) (dss_one (ds_if (DT.toM (dt_cmp (op_neP hr.units) sem_eqP eq_noX (db_var 4) (DE.toB (DN.toE (dn_lst da_nil))) (by rfl))) (dss_one (ds_expr (dm_append (pl := pure true) 1 (DE.toM (de_call (c_least_turn h ⟨rfl, rfl, rfl, rfl, rfl⟩ (hr.mono (by decide))) cx_pass (da_cons (de_ty cr_tupF sem_tuple tuple_nx h.n_tuple (by decide +kernel) (db_var 4)) da_nil)))))) dss_nil))))) (dss_one (ds_retNew (dn_bi (cr_sortT2 h.sys hr.units) sem_sortT sortT_nx h.n_sorted (by decide +kernel) (db_var 1))))))⟩
theorem c_rims_of (h : Hd K mg P) {X : Cx} (i : Is X P w K mg base) (hr : Room 2 X.A) : Callee X "rims_of" (He.ga K "rims_of") (fdA K (He.ga K "rims_of")) ["skin"] (spN K mg F_rims_of) := by
  obtain ⟨rfl, rfl, rfl, rfl, rfl⟩ := i
  exact ⟨(ok_rims_of h).at_ hr Gd.no, h.g_rims_of, h.F_rims_of.kp, bi_rims_of h⟩
/-! rims -/
theorem sc_rims : FnScope ["skin"] ["skin"] (defScope (top 17)) := ⟨rfl, rfl, rfl, by decide +kernel, rfl, by decide +kernel, by decide +kernel⟩
def b_rims : S → M Fl := (sSeq (sDrop (mE (dCall F_need_skin (dCons (dVar 0) dNil)))) (sRetN (dCallN F_rims_of (dCons (dVar 0) dNil))))
abbrev F_rims : List D → R (List D) := runN 1 1 b_rims
theorem bi_rims (h : Hd K mg P) : Binds K (fdA K (He.ga K "rims")) ["skin"] [] := h.F_rims.binds fun _ _ _ _ _ _ us hl => match us, hl with | [_], _ => rfl
theorem ok_rims (h : Hd K mg P) : FnG false P w K mg base 4 (He.ga K "rims") (fdA K (He.ga K "rims")) ["skin"] (spN K mg F_rims) := fn_okN h.F_rims sc_rims rfl fun cdv A outer s H E hr hg hc => ⟨_, (dss_cons (ds_expr (DE.toM (de_call (c_need_skin h ⟨rfl, rfl, rfl, rfl, rfl⟩ (hr.mono (by decide))) cx_pass (da_cons (de_var 0) da_nil)))) (dss_one (ds_retNew (dn_call (c_rims_of h ⟨rfl, rfl, rfl, rfl, rfl⟩ (hr.mono (by decide))) cx_pass (da_cons (de_var 0) da_nil)))))⟩
theorem c_rims (h : Hd K mg P) {X : Cx} (i : Is X P w K mg base) (hr : Room 4 X.A) : Callee X "rims" (He.ga K "rims") (fdA K (He.ga K "rims")) ["skin"] (spN K mg F_rims) := by
  obtain ⟨rfl, rfl, rfl, rfl, rfl⟩ := i
  exact ⟨(ok_rims h).at_ hr Gd.no, h.g_rims, h.F_rims.kp, bi_rims h⟩
/-! genus_of -/
theorem sc_genus_of : FnScope ["skin"] ["skin"] (defScope (top 18)) := ⟨rfl, rfl, rfl, by decide +kernel, rfl, by decide +kernel, by decide +kernel⟩
def b_genus_of : S → M Fl := (sRet (mE (d2 opDiv (d2 opSub (d2 opAdd (d1 (fldD "Skin" "bands") (dVar 0)) (dC (.int 1))) (d1 bLen (fun ρ => ((dCallN F_rims_of (dCons (dVar 0) dNil)) ρ).map D.lst))) (dC (.int 2)))))
abbrev F_genus_of : List D → R D := run 1 1 b_genus_of
theorem bi_genus_of (h : Hd K mg P) : Binds K (fdA K (He.ga K "genus_of")) ["skin"] [] := h.F_genus_of.binds fun _ _ _ _ _ _ us hl => match us, hl with | [_], _ => rfl
theorem ok_genus_of (h : Hd K mg P) : FnG false P w K mg base 3 (He.ga K "genus_of") (fdA K (He.ga K "genus_of")) ["skin"] (spF K mg F_genus_of) := fn_ok h.F_genus_of sc_genus_of rfl fun cdv A outer s H E hr hg hc => ⟨_, (dss_one (ds_ret (DE.toM (de_op op_fdivW sem_div opI_noX (DE.toB (de_op op_sub sem_sub opI_noX (DE.toB (de_op or_add sem_add add_noX (DE.toB (de_fld h.cf_Skin_bands (de_var 0))) (DE.toB de_int))) (DE.toB (de_bi cr_len2 sem_len len_nx h.n_len (by decide +kernel) (DE.toB (DN.toE (dn_call (c_rims_of h ⟨rfl, rfl, rfl, rfl, rfl⟩ (hr.mono (by decide))) cx_pass (da_cons (de_var 0) da_nil)))))))) (DE.toB de_int)))))⟩
theorem c_genus_of (h : Hd K mg P) {X : Cx} (i : Is X P w K mg base) (hr : Room 3 X.A) : Callee X "genus_of" (He.ga K "genus_of") (fdA K (He.ga K "genus_of")) ["skin"] (spF K mg F_genus_of) := by
  obtain ⟨rfl, rfl, rfl, rfl, rfl⟩ := i
  exact ⟨(ok_genus_of h).at_ hr Gd.no, h.g_genus_of, h.F_genus_of.kp, bi_genus_of h⟩
/-! genus -/
theorem sc_genus : FnScope ["skin"] ["skin"] (defScope (top 19)) := ⟨rfl, rfl, rfl, by decide +kernel, rfl, by decide +kernel, by decide +kernel⟩
def b_genus : S → M Fl := (sSeq (sDrop (mE (dCall F_need_skin (dCons (dVar 0) dNil)))) (sRet (mE (dCall F_genus_of (dCons (dVar 0) dNil)))))
abbrev F_genus : List D → R D := run 1 1 b_genus
theorem bi_genus (h : Hd K mg P) : Binds K (fdA K (He.ga K "genus")) ["skin"] [] := h.F_genus.binds fun _ _ _ _ _ _ us hl => match us, hl with | [_], _ => rfl
theorem ok_genus (h : Hd K mg P) : FnG false P w K mg base 4 (He.ga K "genus") (fdA K (He.ga K "genus")) ["skin"] (spF K mg F_genus) := fn_ok h.F_genus sc_genus rfl fun cdv A outer s H E hr hg hc => ⟨_, (dss_cons (ds_expr (DE.toM (de_call (c_need_skin h ⟨rfl, rfl, rfl, rfl, rfl⟩ (hr.mono (by decide))) cx_pass (da_cons (de_var 0) da_nil)))) (dss_one (ds_ret (DE.toM (de_call (c_genus_of h ⟨rfl, rfl, rfl, rfl, rfl⟩ (hr.mono (by decide))) cx_pass (da_cons (de_var 0) da_nil))))))⟩
theorem c_genus (h : Hd K mg P) {X : Cx} (i : Is X P w K mg base) (hr : Room 4 X.A) : Callee X "genus" (He.ga K "genus") (fdA K (He.ga K "genus")) ["skin"] (spF K mg F_genus) := by
  obtain ⟨rfl, rfl, rfl, rfl, rfl⟩ := i
  exact ⟨(ok_genus h).at_ hr Gd.no, h.g_genus, h.F_genus.kp, bi_genus h⟩
/-! _law_begun -/
theorem sc_law_begun : FnScope ["script", "large", "grain"] ["script"] (defScope (top 21)) := ⟨rfl, rfl, rfl, by decide +kernel, rfl, by decide +kernel, by decide +kernel⟩
def b_law_begun : S → M Fl := (sSet 1 (vMN (fComp [2] (fItems (mE (dVar 0))) (asgN 2) (mT (dT (d2 opGe (d1 bAbs (dVar 2)) (d2 opPow (dC (.int 10)) (dC (.int 18)))))) (mE (d2 opSub (d1 bAbs (dVar 2)) (d2 opPow (dC (.int 10)) (dC (.int 18))))))))
def cells_law_begun : S → M (List D) := (fComp [2] (fItems (mE (dVar 0))) (asgN 2) (fun ρ => .ok true ρ) (mE (d1 bAbs (dVar 2))))
theorem bi_law_begun (h : Hd K mg P) : Binds K (fdA K (He.ga K "_law_begun")) ["script"] [] := h.F_law_begun.binds fun _ _ _ _ _ _ us hl => match us, hl with | [_], _ => rfl
theorem ok_law_begun (h : Hd K mg P) (e1 : ∀ ns : List Int, ns.length ≤ 1000 → b_law_begun [some (.fz (.scr ns)), none, none] = .ok .nx [some (.fz (.scr ns)), some (.ml ((lawDraws ns).large.map D.int)), none])
    (e2 : ∀ ns : List Int, ns.length ≤ 1000 → cells_law_begun [some (.fz (.scr ns)), none, none] = .ok ((lawDraws ns).cells.map D.int) [some (.fz (.scr ns)), none, none]) : FnG false P w K mg base 1 (He.ga K "_law_begun") (fdA K (He.ga K "_law_begun")) ["script"] (spBegun K) :=
  Fun.okG h.F_law_begun sc_law_begun (fun vs H Q E h => by obtain ⟨_, _, rfl, _⟩ := h; rfl) fun cdv A outer s H vs Q E hr hg hc hsp => by
    have d1 : ∃ t1, DS K mg E [] (cxOf (L2.CX P w) P w K mg base ["script", "large", "grain"] "_law_begun" (defScope (top 21)) (He.ga K "_law_begun") cdv A outer s H E) ((defBody (top 21)).getD 0 (.Pass ⟨0, 0, 0, 0⟩)) t1 b_law_begun := ⟨_, (ds_setLcO 1 (by rfl) (by rfl) (by rfl) (own := [("grain", 2)]) (by rfl) sc_law_begun.nd (di_seq (DE.toM (de_var 0))) (blkOk_by (by kernel_rfl)) (fun _ _ _ _ _ => (dg_name 2 sc_law_begun.nd)) (by decide) (fun _ _ _ _ _ => (dts_one (DT.toM (dt_cmp op_ge sem_B0 opI_noX (DE.toB (de_bi call_abs sem_abs abs_nx h.n_abs (by decide +kernel) (DE.toB (de_var 2)))) (DE.toB (de_op op_pow sem_pow opI_noX (DE.toB de_int) (DE.toB de_int))) (by rfl))))) (fun _ _ _ _ _ => (DE.toM (de_op op_sub sem_sub opI_noX (DE.toB (de_bi call_abs sem_abs abs_nx h.n_abs (by decide +kernel) (DE.toB (de_var 2)))) (DE.toB (de_op op_pow sem_pow opI_noX (DE.toB de_int) (DE.toB de_int)))))) (by intro _; rfl) s)⟩
    have d2 : ∃ t2, DMN K mg E [] (cxOf (L2.CX P w) P w K mg base ["script", "large", "grain"] "_law_begun" (defScope (top 21)) (He.ga K "_law_begun") cdv A outer s H E) (cellsE (top 21)) t2 cells_law_begun := ⟨_, (dmn_lc (own := [("grain", 2)]) (by rfl) sc_law_begun.nd (di_seq (DE.toM (de_var 0))) (blkOk_by (by kernel_rfl)) (fun _ _ _ _ _ => (dg_name 2 sc_law_begun.nd)) (by decide) (fun _ _ _ _ _ => dts_nil) (fun _ _ _ _ _ => (DE.toM (de_bi call_abs sem_abs abs_nx h.n_abs (by decide +kernel) (DE.toB (de_var 2))))) (by intro _; rfl) s)⟩
    obtain ⟨t1, d1⟩ := d1
    obtain ⟨t2, d2⟩ := d2
    exact ⟨_, begun_ps d1 d2 rfl (by first | exact Or.inl rfl | exact Or.inr (Or.inl rfl)), begun_read rfl d1.imp d2.imp e1 e2 hsp⟩
theorem c_law_begun (h : Hd K mg P) (e : FnG false P w K mg base 1 (He.ga K "_law_begun") (fdA K (He.ga K "_law_begun")) ["script"] (spBegun K)) {X : Cx} (i : Is X P w K mg base) (hr : Room 1 X.A) : Callee X "_law_begun" (He.ga K "_law_begun") (fdA K (He.ga K "_law_begun")) ["script"] (spBegun K) := by
  obtain ⟨rfl, rfl, rfl, rfl, rfl⟩ := i
  exact ⟨e.at_ hr Gd.no, h.g_law_begun, h.F_law_begun.kp, bi_law_begun h⟩
/-! _law_mixed -/
theorem sc_law_mixed : FnScope ["draw", "turn", "found", "great", "blend", "grain", ".d0", ".d1"] ["draw"] (defScope (top 22)) := ⟨rfl, rfl, rfl, by decide +kernel, rfl, by decide +kernel, by decide +kernel⟩
def b_law_mixed : S → M Fl := (sSeq (sTurn 0 (mE (d2 opAdd (dTurn 0) (dC (.int 1))))) (sSeq (sPar [6, 7] [1, 2] ((vE (d1 bInt (dTurn 0))) :: ((vE (dC (.int 0))) :: []))) (sSeq (sFor (fItems (mE (fun ρ => ((dLst (dCons (dC (.int 2147483629)) (dCons (dC (.int 2147483587)) (dCons (dC (.int 2147483579)) dNil)))) ρ).map D.lst))) (asgN 3) (sSeq (sSet 4 (vE (d2 opMod (d2 opAdd (d2 opMul (dVar 1) (dC (.int 69621))) (d2 opDiv (dVar 3) (dC (.int 7)))) (dVar 3)))) (sSeq (sFor (fItems (mE (dCells 0))) (asgN 5) (sSet 4 (vE (d2 opMod (d2 opAdd (d2 opMul (dVar 4) (dC (.int 48271))) (d1 bInt (dVar 5))) (dVar 3))))) (sSet 2 (vE (d2 opAdd (d2 opMul (dVar 2) (dC (.int 2147483647))) (d2 opMod (d2 opPow (dVar 4) (dC (.int 5))) (dVar 3)))))))) (sRet (mE (dVar 2))))))
abbrev F_law_mixed : Dr → List D → Option (D × Dr) := runD 8 1 b_law_mixed
theorem bi_law_mixed (h : Hd K mg P) : Binds K (fdA K (He.ga K "_law_mixed")) ["draw"] [] := h.F_law_mixed.binds fun _ _ _ _ _ _ us hl => match us, hl with | [_], _ => rfl
theorem ok_law_mixed (h : Hd K mg P) : FnG false P w K mg base 1 (He.ga K "_law_mixed") (fdA K (He.ga K "_law_mixed")) ["draw"] (spD K mg (TT K) F_law_mixed) := fn_okD h.F_law_mixed sc_law_mixed rfl fun cdv A outer s H E hr hg hc => ⟨_, (dss_cons (dr_setTurn 0 hr.units (by rfl) (by first | exact Or.inl rfl | exact Or.inr (Or.inl rfl) | exact Or.inr (Or.inr rfl)) (by decide) (by decide) (DE.toM (de_op or_add sem_add add_noX (DE.toB (dr_turn 0 hr.units (by rfl) (by first | exact Or.inl rfl | exact Or.inr (Or.inl rfl) | exact Or.inr (Or.inr rfl)) (by rfl) (by rfl) (by decide) (by decide))) (DE.toB de_int))) (by rfl)) (dss_cons (ds_par2 (by rfl) sc_law_mixed.nd (by rfl) (by rfl) (by rfl) (by rfl) (dq_cons (dum_of (by rfl) (by rfl)) (DE.toV (de_ty call_int1 sem_int int_nx h.n_int (by decide +kernel) (DE.toB (dr_turn 0 hr.units (by rfl) (by first | exact Or.inl rfl | exact Or.inr (Or.inl rfl) | exact Or.inr (Or.inr rfl)) (by rfl) (by rfl) (by decide) (by decide))))) (dq_cons (dum_of (by rfl) (by rfl)) (DE.toV de_int) (dq_nil (by rfl) (by rfl)))) (by decide) (by rfl) (by rfl)) (dss_cons (ds_for cx_own (by rfl) (di_seq (DE.toM (DN.toE (dn_lst (da_cons de_int (da_cons de_int (da_cons de_int da_nil))))))) (dg_name 3 sc_law_mixed.nd) (dss_cons (ds_set 4 sc_law_mixed.nd (DE.toV (de_op op_mod sem_mod opI_noX (DE.toB (de_op or_add sem_add add_noX (DE.toB (de_op op_mul3 sem_mul opI_noX (DE.toB (de_var 1)) (DE.toB de_int))) (DE.toB (de_op op_fdivW sem_div opI_noX (DE.toB (de_var 3)) (DE.toB de_int))))) (DE.toB (de_var 3))))) (dss_cons (ds_for cx_own (by rfl) (di_seq (DE.toM (dr_cells 0 hr.units (by rfl) (by first | exact Or.inl rfl | exact Or.inr (Or.inl rfl) | exact Or.inr (Or.inr rfl)) (by rfl) (by rfl) (by decide) (by decide)))) (dg_name 5 sc_law_mixed.nd) (dss_one (ds_set 4 sc_law_mixed.nd (DE.toV (de_op op_mod sem_mod opI_noX (DE.toB (de_op or_add sem_add add_noX (DE.toB (de_op op_mul3 sem_mul opI_noX (DE.toB (de_var 4)) (DE.toB de_int))) (DE.toB (de_ty call_int1 sem_int int_nx h.n_int (by decide +kernel) (DE.toB (de_var 5)))))) (DE.toB (de_var 3))))))) (dss_one (ds_set 2 sc_law_mixed.nd (DE.toV (de_op or_add sem_add add_noX (DE.toB (de_op op_mul3 sem_mul opI_noX (DE.toB (de_var 2)) (DE.toB de_int))) (DE.toB (de_op op_mod sem_mod opI_noX (DE.toB (de_op op_pow sem_pow opI_noX (DE.toB (de_var 4)) (DE.toB de_int))) (DE.toB (de_var 3))))))))))) (dss_one (ds_ret (DE.toM (de_var 2)))))))⟩
theorem c_law_mixed (h : Hd K mg P) {X : Cx} (i : Is X P w K mg base) (hr : Room 1 X.A) : Callee X "_law_mixed" (He.ga K "_law_mixed") (fdA K (He.ga K "_law_mixed")) ["draw"] (spD K mg (TT K) F_law_mixed) := by
  obtain ⟨rfl, rfl, rfl, rfl, rfl⟩ := i
  exact ⟨(ok_law_mixed h).at_ hr Gd.no, h.g_law_mixed, h.F_law_mixed.kp, bi_law_mixed h⟩
/-! _law_take -/
theorem sc_law_take : FnScope ["draw", "amount", "found"] ["draw", "amount"] (defScope (top 23)) := ⟨rfl, rfl, rfl, by decide +kernel, rfl, by decide +kernel, by decide +kernel⟩
def b_law_take : S → M Fl := (sSeq (sIf (mT (dT (d2 opEq (dRest 0) (dC (.int 0))))) (sRest 0 (mIf (mT (dT (d2 opNe (dLarge 0) (fun ρ => ((dLst dNil) ρ).map D.lst)))) (mPopL 0) (mD 0 F_law_mixed mNil))) sNext) (sSeq (sSet 2 (vE (d2 opMod (d1 bInt (dRest 0)) (dVar 1)))) (sSeq (sRest 0 (mE (d2 opDiv (d1 bInt (dRest 0)) (dVar 1)))) (sRet (mE (dVar 2))))))
abbrev F_law_take : Dr → List D → Option (D × Dr) := runD 3 2 b_law_take
theorem bi_law_take (h : Hd K mg P) : Binds K (fdA K (He.ga K "_law_take")) ["draw", "amount"] [] := h.F_law_take.binds fun _ _ _ _ _ _ us hl => match us, hl with | [_, _], _ => rfl
theorem ok_law_take (h : Hd K mg P) : FnG false P w K mg base 2 (He.ga K "_law_take") (fdA K (He.ga K "_law_take")) ["draw", "amount"] (spD K mg (TT K) F_law_take) := fn_okD h.F_law_take sc_law_take rfl fun cdv A outer s H E hr hg hc => ⟨_, (dss_cons (ds_if (DT.toM (dt_cmp (op_eqP hr.units) sem_eqP eq_noX (DE.toB (dr_rest 0 hr.units (by rfl) (by first | exact Or.inl rfl | exact Or.inr (Or.inl rfl) | exact Or.inr (Or.inr rfl)) (by rfl) (by rfl) (by decide) (by decide))) (DE.toB de_int) (by rfl))) (dss_one (dr_setRest 0 hr.units (by rfl) (by first | exact Or.inl rfl | exact Or.inr (Or.inl rfl) | exact Or.inr (Or.inr rfl)) (by decide) (by decide) (dm_if (DT.toM (dt_cmp (op_neP hr.units) sem_eqP eq_noX (dr_large 0 hr.units (by rfl) (by first | exact Or.inl rfl | exact Or.inr (Or.inl rfl) | exact Or.inr (Or.inr rfl)) (by rfl) (by rfl) (by decide) (by decide)) (DE.toB (DN.toE (dn_lst da_nil))) (by rfl))) (dr_pop 0 hr.units (by rfl) (by first | exact Or.inl rfl | exact Or.inr (Or.inl rfl) | exact Or.inr (Or.inr rfl)) (by rfl) (by rfl) (by decide) (by decide) (by rfl) (by rfl) (by rfl) (by rfl) (by rfl)) (dm_dcall 0 (c_law_mixed h ⟨rfl, rfl, rfl, rfl, rfl⟩ (hr.mono (by decide))) cx_pass dma_nil)) (by rfl))) dss_nil) (dss_cons (ds_set 2 sc_law_take.nd (DE.toV (de_op op_mod sem_mod opI_noX (DE.toB (de_ty call_int1 sem_int int_nx h.n_int (by decide +kernel) (DE.toB (dr_rest 0 hr.units (by rfl) (by first | exact Or.inl rfl | exact Or.inr (Or.inl rfl) | exact Or.inr (Or.inr rfl)) (by rfl) (by rfl) (by decide) (by decide))))) (DE.toB (de_var 1))))) (dss_cons (dr_setRest 0 hr.units (by rfl) (by first | exact Or.inl rfl | exact Or.inr (Or.inl rfl) | exact Or.inr (Or.inr rfl)) (by decide) (by decide) (DE.toM (de_op op_fdivW sem_div opI_noX (DE.toB (de_ty call_int1 sem_int int_nx h.n_int (by decide +kernel) (DE.toB (dr_rest 0 hr.units (by rfl) (by first | exact Or.inl rfl | exact Or.inr (Or.inl rfl) | exact Or.inr (Or.inr rfl)) (by rfl) (by rfl) (by decide) (by decide))))) (DE.toB (de_var 1)))) (by rfl)) (dss_one (ds_ret (DE.toM (de_var 2)))))))⟩
theorem c_law_take (h : Hd K mg P) {X : Cx} (i : Is X P w K mg base) (hr : Room 2 X.A) : Callee X "_law_take" (He.ga K "_law_take") (fdA K (He.ga K "_law_take")) ["draw", "amount"] (spD K mg (TT K) F_law_take) := by
  obtain ⟨rfl, rfl, rfl, rfl, rfl⟩ := i
  exact ⟨(ok_law_take h).at_ hr Gd.no, h.g_law_take, h.F_law_take.kp, bi_law_take h⟩
/-! _law_pick -/
theorem sc_law_pick : FnScope ["draw", "some"] ["draw", "some"] (defScope (top 24)) := ⟨rfl, rfl, rfl, by decide +kernel, rfl, by decide +kernel, by decide +kernel⟩
def b_law_pick : S → M Fl := (sRet (m2 opIx (mE (dVar 1)) (mD 0 F_law_take (mCons (mE (d1 bLen (dVar 1))) mNil))))
abbrev F_law_pick : Dr → List D → Option (D × Dr) := runD 2 2 b_law_pick
theorem bi_law_pick (h : Hd K mg P) : Binds K (fdA K (He.ga K "_law_pick")) ["draw", "some"] [] := h.F_law_pick.binds fun _ _ _ _ _ _ us hl => match us, hl with | [_, _], _ => rfl
theorem ok_law_pick (h : Hd K mg P) : FnG false P w K mg base 3 (He.ga K "_law_pick") (fdA K (He.ga K "_law_pick")) ["draw", "some"] (spD K mg (TT K) F_law_pick) := fn_okD h.F_law_pick sc_law_pick rfl fun cdv A outer s H E hr hg hc => ⟨_, (dss_one (ds_ret (dm_ix (DE.toM (de_var 1)) (dm_dcall 0 (c_law_take h ⟨rfl, rfl, rfl, rfl, rfl⟩ (hr.mono (by decide))) cx_pass (dma_cons (DE.toM (de_bi cr_len2 sem_len len_nx h.n_len (by decide +kernel) (DE.toB (de_var 1)))) dma_nil)))))⟩
theorem c_law_pick (h : Hd K mg P) {X : Cx} (i : Is X P w K mg base) (hr : Room 3 X.A) : Callee X "_law_pick" (He.ga K "_law_pick") (fdA K (He.ga K "_law_pick")) ["draw", "some"] (spD K mg (TT K) F_law_pick) := by
  obtain ⟨rfl, rfl, rfl, rfl, rfl⟩ := i
  exact ⟨(ok_law_pick h).at_ hr Gd.no, h.g_law_pick, h.F_law_pick.kp, bi_law_pick h⟩
/-! _law_shuffled -/
theorem sc_law_shuffled : FnScope ["draw", "some", "left", "found", ".d0", ".d1"] ["draw", "some"] (defScope (top 25)) := ⟨rfl, rfl, rfl, by decide +kernel, rfl, by decide +kernel, by decide +kernel⟩
def b_law_shuffled : S → M Fl := (sSeq (sPar [4, 5] [2, 3] ((vN (d1N bList (dVar 1))) :: ((vN (dLst dNil)) :: []))) (sSeq (whileN (mT (dT (d2 opNe (dVarB 2) (fun ρ => ((dLst dNil) ρ).map D.lst)))) (sDrop (mAppend 3 (mPopAt 2 (mD 0 F_law_take (mCons (mE (d1 bLen (dVarB 2))) mNil))))) 100) (sRetO 3)))
abbrev F_law_shuffled : Dr → List D → Option (D × Dr) := runD 6 2 b_law_shuffled
theorem bi_law_shuffled (h : Hd K mg P) : Binds K (fdA K (He.ga K "_law_shuffled")) ["draw", "some"] [] := h.F_law_shuffled.binds fun _ _ _ _ _ _ us hl => match us, hl with | [_, _], _ => rfl
theorem ok_law_shuffled (h : Hd K mg P) : FnG false P w K mg base 3 (He.ga K "_law_shuffled") (fdA K (He.ga K "_law_shuffled")) ["draw", "some"] (spD K mg (TT K) F_law_shuffled) := fn_okD h.F_law_shuffled sc_law_shuffled rfl fun cdv A outer s H E hr hg hc => ⟨_, (dss_cons (ds_par2 (by rfl) sc_law_shuffled.nd (by rfl) (by rfl) (by rfl) (by rfl) (dq_cons (dum_of (by rfl) (by rfl)) (DN.toV (dn_ty cr_list sem_list list_nx h.n_list (by decide +kernel) (DE.toB (de_var 1)))) (dq_cons (dum_of (by rfl) (by rfl)) (DN.toV (dn_lst da_nil)) (dq_nil (by rfl) (by rfl)))) (by decide) (by rfl) (by rfl)) (dss_cons (ds_while 100 cx_own (DT.toM (dt_cmp (op_neP hr.units) sem_eqP eq_noX (db_var 2) (DE.toB (DN.toE (dn_lst da_nil))) (by rfl))) (dss_one (ds_expr (dm_append (pl := pure true) 3 (dm_popAt 2 (dm_dcall 0 (c_law_take h ⟨rfl, rfl, rfl, rfl, rfl⟩ (hr.mono (by decide))) cx_pass (dma_cons (DE.toM (de_bi cr_len2 sem_len len_nx h.n_len (by decide +kernel) (db_var 2))) dma_nil))))))) (dss_one (ds_retO 3))))⟩
theorem c_law_shuffled (h : Hd K mg P) {X : Cx} (i : Is X P w K mg base) (hr : Room 3 X.A) : Callee X "_law_shuffled" (He.ga K "_law_shuffled") (fdA K (He.ga K "_law_shuffled")) ["draw", "some"] (spD K mg (TT K) F_law_shuffled) := by
  obtain ⟨rfl, rfl, rfl, rfl, rfl⟩ := i
  exact ⟨(ok_law_shuffled h).at_ hr Gd.no, h.g_law_shuffled, h.F_law_shuffled.kp, bi_law_shuffled h⟩
/-! _law_skin_error -/
theorem sc_law_skin_error : FnScope ["error"] ["error"] (defScope (top 27)) := ⟨rfl, rfl, rfl, by decide +kernel, rfl, by decide +kernel, by decide +kernel⟩
def b_law_skin_error : S → M Fl := (sRet (mE (dAndV (d1 (isiD os xs ks sub_BadSkin) (dVar 0)) (d2 (opIsN false) (d1 (xfD xs "part") (dVar 0)) (dC .non)))))
abbrev F_law_skin_error : List D → R D := run 1 1 b_law_skin_error
theorem bi_law_skin_error (h : Hd K mg P) : Binds K (fdA K (He.ga K "_law_skin_error")) ["error"] [] := h.F_law_skin_error.binds fun _ _ _ _ _ _ us hl => match us, hl with | [_], _ => rfl
theorem ok_law_skin_error (h : Hd K mg P) : FnG false P w K mg base 1 (He.ga K "_law_skin_error") (fdA K (He.ga K "_law_skin_error")) ["error"] (spF K mg F_law_skin_error) := fn_ok h.F_law_skin_error sc_law_skin_error rfl fun cdv A outer s H E hr hg hc => ⟨_, (dss_one (ds_ret (DE.toM (de_and (de_isi h.own h.n_isinstance (by rfl) (by rfl) (by rfl) (by rfl) h.k_BadSkin (DE.toB (de_var 0)) (dc_own h.g_BadSkin (by rfl))) (de_one (de_cmp op_isN sem_isN isN_noX (DE.toB (de_xa h.xf_part (de_var 0) (by rfl))) (DE.toB de_non) (by rfl)))))))⟩
theorem c_law_skin_error (h : Hd K mg P) {X : Cx} (i : Is X P w K mg base) (hr : Room 1 X.A) : Callee X "_law_skin_error" (He.ga K "_law_skin_error") (fdA K (He.ga K "_law_skin_error")) ["error"] (spF K mg F_law_skin_error) := by
  obtain ⟨rfl, rfl, rfl, rfl, rfl⟩ := i
  exact ⟨(ok_law_skin_error h).at_ hr Gd.no, h.g_law_skin_error, h.F_law_skin_error.kp, bi_law_skin_error h⟩
/-! _law_mate -/
theorem sc_law_mate : FnScope ["end"] ["end"] (defScope (top 28)) := ⟨rfl, rfl, rfl, by decide +kernel, rfl, by decide +kernel, by decide +kernel⟩
def b_law_mate : S → M Fl := (sRet (mE (dIf (dT (d2 opEq (d2 opMod (d1 bInt (dVar 0)) (dC (.int 2))) (dC (.int 0)))) (d2 opAdd (dVar 0) (dC (.int 1))) (d2 opSub (dVar 0) (dC (.int 1))))))
abbrev F_law_mate : List D → R D := run 1 1 b_law_mate
theorem bi_law_mate (h : Hd K mg P) : Binds K (fdA K (He.ga K "_law_mate")) ["end"] [] := h.F_law_mate.binds fun _ _ _ _ _ _ us hl => match us, hl with | [_], _ => rfl
theorem ok_law_mate (h : Hd K mg P) : FnG false P w K mg base 1 (He.ga K "_law_mate") (fdA K (He.ga K "_law_mate")) ["end"] (spF K mg F_law_mate) := fn_ok h.F_law_mate sc_law_mate rfl fun cdv A outer s H E hr hg hc => ⟨_, (dss_one (ds_ret (DE.toM (de_if (dt_cmp (op_eqP hr.units) sem_eqP eq_noX (DE.toB (de_op op_mod sem_mod opI_noX (DE.toB (de_ty call_int1 sem_int int_nx h.n_int (by decide +kernel) (DE.toB (de_var 0)))) (DE.toB de_int))) (DE.toB de_int) (by rfl)) (de_op or_add sem_add add_noX (DE.toB (de_var 0)) (DE.toB de_int)) (de_op op_sub sem_sub opI_noX (DE.toB (de_var 0)) (DE.toB de_int))))))⟩
theorem c_law_mate (h : Hd K mg P) {X : Cx} (i : Is X P w K mg base) (hr : Room 1 X.A) : Callee X "_law_mate" (He.ga K "_law_mate") (fdA K (He.ga K "_law_mate")) ["end"] (spF K mg F_law_mate) := by
  obtain ⟨rfl, rfl, rfl, rfl, rfl⟩ := i
  exact ⟨(ok_law_mate h).at_ hr Gd.no, h.g_law_mate, h.F_law_mate.kp, bi_law_mate h⟩
/-! _law_least_turn -/
theorem sc_law_least_turn : FnScope ["word_here", "at"] ["word_here"] (defScope (top 29)) := ⟨rfl, rfl, rfl, by decide +kernel, rfl, by decide +kernel, by decide +kernel⟩
def b_law_least_turn : S → M Fl := (sRet (mA (one bMinT) (mCons (lM (fComp [1] (fMapA toRange1 (mCons (mE (d1 bLen (dVar 0))) mNil)) (asgN 1) (fun ρ => .ok true ρ) (mE (d2 opAdd (dSl (dVar 0) (oSome (dVar 1)) oNone) (dSl (dVar 0) oNone (oSome (dVar 1))))))) mNil)))
abbrev F_law_least_turn : List D → R D := run 2 1 b_law_least_turn
theorem bi_law_least_turn (h : Hd K mg P) : Binds K (fdA K (He.ga K "_law_least_turn")) ["word_here"] [] := h.F_law_least_turn.binds fun _ _ _ _ _ _ us hl => match us, hl with | [_], _ => rfl
theorem ok_law_least_turn (h : Hd K mg P) : FnG false P w K mg base 1 (He.ga K "_law_least_turn") (fdA K (He.ga K "_law_least_turn")) ["word_here"] (spF K mg F_law_least_turn) := fn_ok h.F_law_least_turn sc_law_least_turn rfl fun cdv A outer s H E hr hg hc => ⟨_, (dss_one (ds_ret (dm_bi (cr_minT (by rfl) h.sys hr.units) sem_minT.toA (one_nx minT_nx) h.n_min (by decide +kernel) (dma_cons (DMN.toM (dmn_lc (own := [("at", 1)]) (by rfl) sc_law_least_turn.nd (di_range1 h.n_range (dma_cons (DE.toM (de_bi cr_len2 sem_len len_nx h.n_len (by decide +kernel) (DE.toB (de_var 0)))) dma_nil)) (blkOk_by (by kernel_rfl)) (fun _ _ _ _ _ => (dg_name 1 sc_law_least_turn.nd)) (by decide) (fun _ _ _ _ _ => dts_nil) (fun _ _ _ _ _ => (DE.toM (de_op or_add sem_add add_noX (DE.toB (de_slice (DE.toB (de_var 0)) (do_some (de_var 1)) do_none)) (DE.toB (de_slice (DE.toB (de_var 0)) do_none (do_some (de_var 1))))))) (by intro _; rfl) s)) dma_nil))))⟩
theorem c_law_least_turn (h : Hd K mg P) {X : Cx} (i : Is X P w K mg base) (hr : Room 1 X.A) : Callee X "_law_least_turn" (He.ga K "_law_least_turn") (fdA K (He.ga K "_law_least_turn")) ["word_here"] (spF K mg F_law_least_turn) := by
  obtain ⟨rfl, rfl, rfl, rfl, rfl⟩ := i
  exact ⟨(ok_law_least_turn h).at_ hr Gd.no, h.g_law_least_turn, h.F_law_least_turn.kp, bi_law_least_turn h⟩
/-! _law_row -/
theorem sc_law_row : FnScope ["draw", "most"] ["draw", "most"] (defScope (top 30)) := ⟨rfl, rfl, rfl, by decide +kernel, rfl, by decide +kernel, by decide +kernel⟩
def b_law_row : S → M Fl := (sRet (mA (one bTuple) (mCons (mD 0 F_law_shuffled (mCons (lM (fun ρ => ((m2 opAdd (mE (dC (.int 2))) (m2 opMul (mE (dC (.int 2))) (mD 0 F_law_take (mCons (mE (dVar 1)) mNil)))) ρ).lift rgR)) mNil)) mNil)))
abbrev F_law_row : Dr → List D → Option (D × Dr) := runD 2 2 b_law_row
theorem bi_law_row (h : Hd K mg P) : Binds K (fdA K (He.ga K "_law_row")) ["draw", "most"] [] := h.F_law_row.binds fun _ _ _ _ _ _ us hl => match us, hl with | [_, _], _ => rfl
theorem ok_law_row (h : Hd K mg P) : FnG false P w K mg base 4 (He.ga K "_law_row") (fdA K (He.ga K "_law_row")) ["draw", "most"] (spD K mg (TT K) F_law_row) := fn_okD h.F_law_row sc_law_row rfl fun cdv A outer s H E hr hg hc => ⟨_, (dss_one (ds_ret (dm_ty cr_tupF sem_tuple.toA (one_nx tuple_nx) h.n_tuple (by decide +kernel) (dma_cons (dm_dcall 0 (c_law_shuffled h ⟨rfl, rfl, rfl, rfl, rfl⟩ (hr.mono (by decide))) cx_pass (dma_cons (DMN.toM (dmn_listRg (by rfl) (by rfl) h.n_list (by rfl) h.n_range (dm_op or_add sem_add add_noX (DE.toM de_int) (dm_op op_mul3 sem_mul opI_noX (DE.toM de_int) (dm_dcall 0 (c_law_take h ⟨rfl, rfl, rfl, rfl, rfl⟩ (hr.mono (by decide))) cx_pass (dma_cons (DE.toM (de_var 1)) dma_nil)))) (by rfl) (by rfl))) dma_nil)) dma_nil))))⟩
theorem c_law_row (h : Hd K mg P) {X : Cx} (i : Is X P w K mg base) (hr : Room 4 X.A) : Callee X "_law_row" (He.ga K "_law_row") (fdA K (He.ga K "_law_row")) ["draw", "most"] (spD K mg (TT K) F_law_row) := by
  obtain ⟨rfl, rfl, rfl, rfl, rfl⟩ := i
  exact ⟨(ok_law_row h).at_ hr Gd.no, h.g_law_row, h.F_law_row.kp, bi_law_row h⟩
/-! _law_rims -/
theorem sc_law_rims : FnScope ["line", "many", "left", "found", "spot", "word_here", "end", ".d0", ".d1", ".d2"] ["line"] (defScope (top 31)) := ⟨rfl, rfl, rfl, by decide +kernel, rfl, by decide +kernel, by decide +kernel⟩
def b_law_rims : S → M Fl := (sSeq (sPar [7, 8, 9] [1, 2, 3] ((vE (d1 bLen (dVar 0))) :: ((vN (d1N rgR (d1 bLen (dVar 0)))) :: ((vN (dLst dNil)) :: [])))) (sSeq (whileN (mT (dT (d2 opNe (dVarB 2) (fun ρ => ((dLst dNil) ρ).map D.lst)))) (sSeq (sPar [7, 8] [4, 5] ((vE (d2 opIx (dVarB 2) (dC (.int 0)))) :: ((vN (dLst dNil)) :: []))) (sSeq (whileN (mT (dT (d2 (opIn false) (dVar 4) (dVarB 2)))) (sSeq (sDrop (mRemove 2 (mE (dVar 4)))) (sSeq (sSet 6 (vE (d2 opIx (dVar 0) (d2 opMod (d1 bInt (d2 opAdd (dVar 4) (dC (.int 1)))) (dVar 1))))) (sSeq (sDrop (mAppend 5 (mE (dVar 6)))) (sSet 4 (vE (dIdx (fun ρ => ((d1N bList (dVar 0)) ρ).map D.lst) (dCall F_law_mate (dCons (dVar 6) dNil)))))))) 100) (sDrop (mAppend 3 (mE (dCall F_law_least_turn (dCons (d1 bTuple (dVarB 5)) dNil))))))) 100) (sRet (mE (fun ρ => ((d1N bSortT (dVarB 3)) ρ).map D.lst)))))
abbrev F_law_rims : List D → R D := run 10 1 b_law_rims
theorem bi_law_rims (h : Hd K mg P) : Binds K (fdA K (He.ga K "_law_rims")) ["line"] [] := h.F_law_rims.binds fun _ _ _ _ _ _ us hl => match us, hl with | [_], _ => rfl
theorem ok_law_rims (h : Hd K mg P) : FnG false P w K mg base 2 (He.ga K "_law_rims") (fdA K (He.ga K "_law_rims")) ["line"] (spF K mg F_law_rims) := fn_ok h.F_law_rims sc_law_rims rfl fun cdv A outer s H E hr hg hc => ⟨_, (dss_cons (ds_par3 (by rfl) sc_law_rims.nd (by rfl) (by rfl) (by rfl) (by rfl) (by rfl) (by rfl) (dq_cons (dum_of (by rfl) (by rfl)) (DE.toV (de_bi cr_len2 sem_len len_nx h.n_len (by decide +kernel) (DE.toB (de_var 0)))) (dq_cons (dum_of (by rfl) (by rfl)) (DN.toV (dn_listRg (by rfl) (by rfl) h.n_list (by rfl) h.n_range (de_bi cr_len2 sem_len len_nx h.n_len (by decide +kernel) (DE.toB (de_var 0))) (by rfl) (by rfl))) (dq_cons (dum_of (by rfl) (by rfl)) (DN.toV (dn_lst da_nil)) (dq_nil (by rfl) (by rfl))))) (by decide) (by rfl) (by rfl)) (dss_cons (ds_while 100 cx_own (DT.toM (dt_cmp (op_neP hr.units) sem_eqP eq_noX (db_var 2) (DE.toB (DN.toE (dn_lst da_nil))) (by rfl))) (dss_cons (ds_par2 (by rfl) sc_law_rims.nd (by rfl) (by rfl) (by rfl) (by rfl) (dq_cons (dum_of (by rfl) (by rfl)) (DE.toV (de_ix (db_var 2) (DE.toB de_int))) (dq_cons (dum_of (by rfl) (by rfl)) (DN.toV (dn_lst da_nil)) (dq_nil (by rfl) (by rfl)))) (by decide) (by rfl) (by rfl)) (dss_cons (ds_while 100 cx_own (DT.toM (dt_cmp (op_inP (u65 hr)) sem_inP in_noX (DE.toB (de_var 4)) (db_var 2) (by rfl))) (dss_cons (ds_expr (dm_remove 2 (by rfl) cx_takes (DE.toM (de_var 4)) (by rfl) (by first | exact Or.inl rfl | exact Or.inr (Or.inl rfl) | exact Or.inr (Or.inr rfl)) (by decide) (by decide) (by rfl) (by rfl) (by rfl) (by rfl) (by rfl))) (dss_cons (ds_set 6 sc_law_rims.nd (DE.toV (de_ix (DE.toB (de_var 0)) (DE.toB (de_op op_mod sem_mod opI_noX (DE.toB (de_ty call_int1 sem_int int_nx h.n_int (by decide +kernel) (DE.toB (de_op or_add sem_add add_noX (DE.toB (de_var 4)) (DE.toB de_int))))) (DE.toB (de_var 1))))))) (dss_cons (ds_expr (dm_append (pl := pure true) 5 (DE.toM (de_var 6)))) (dss_one (ds_set 4 sc_law_rims.nd (DE.toV (de_idx (DE.toB (DN.toE (dn_ty cr_list sem_list list_nx h.n_list (by decide +kernel) (DE.toB (de_var 0))))) (de_call (c_law_mate h ⟨rfl, rfl, rfl, rfl, rfl⟩ (hr.mono (by decide))) cx_pass (da_cons (de_var 6) da_nil)) (by rfl) (by rfl) (by rfl) (by rfl) (by rfl))))))))) (dss_one (ds_expr (dm_append (pl := pure true) 3 (DE.toM (de_call (c_law_least_turn h ⟨rfl, rfl, rfl, rfl, rfl⟩ (hr.mono (by decide))) cx_pass (da_cons (de_ty cr_tupF sem_tuple tuple_nx h.n_tuple (by decide +kernel) (db_var 5)) da_nil))))))))) (dss_one (ds_ret (DE.toM (DN.toE (dn_bi (cr_sortT2 h.sys hr.units) sem_sortT sortT_nx h.n_sorted (by decide +kernel) (db_var 3))))))))⟩
theorem c_law_rims (h : Hd K mg P) {X : Cx} (i : Is X P w K mg base) (hr : Room 2 X.A) : Callee X "_law_rims" (He.ga K "_law_rims") (fdA K (He.ga K "_law_rims")) ["line"] (spF K mg F_law_rims) := by
  obtain ⟨rfl, rfl, rfl, rfl, rfl⟩ := i
  exact ⟨(ok_law_rims h).at_ hr Gd.no, h.g_law_rims, h.F_law_rims.kp, bi_law_rims h⟩
/-! _law_lots -/
theorem sc_law_lots : FnScope ["line", "many", "names", "pairs", "found", "end", "spot", "one", "other", "corner", "old", "fresh", ".d0", ".d1", ".d2", ".d3"] ["line"] (defScope (top 32)) := ⟨rfl, rfl, rfl, by decide +kernel, rfl, by decide +kernel, by decide +kernel⟩
def b_law_lots : S → M Fl := (sSeq (sPar [12, 13, 14, 15] [1, 2, 3, 4] ((vE (d1 bLen (dVar 0))) :: (vDT :: ((vN (dLst dNil)) :: ((vE (fun ρ => ((dLst dNil) ρ).map D.lst)) :: []))))) (sSeq (sFor (fItems (mE (dVar 0))) (asgN 5) (sSeq (sPutD 2 (mE (d2 opMul (dC (.int 2)) (dVar 5))) (dPr (dCons (dVar 5) (dCons (dC (.int 0)) dNil)))) (sPutD 2 (mE (d2 opAdd (d2 opMul (dC (.int 2)) (dVar 5)) (dC (.int 1)))) (dPr (dCons (dVar 5) (dCons (dC (.int 1)) dNil)))))) (sSeq (sFor (fun ρ => ((mE (dVar 0)) ρ).lift enumRT) (asgT (asgCons (asgN 6) (asgCons (asgN 5) asgNil))) (sSeq (sDrop (mAppend 3 (mE (dTup (dCons (dPr (dCons (dVar 5) (dCons (dC (.int 1)) dNil))) (dCons (dPr (dCons (d2 opIx (dVar 0) (d2 opMod (d1 bInt (d2 opAdd (dVar 6) (dC (.int 1)))) (dVar 1))) (dCons (dC (.int 0)) dNil))) dNil)))))) (sDrop (mAppend 3 (mE (dTup (dCons (dPr (dCons (dVar 5) (dCons (dC (.int 0)) dNil))) (dCons (dPr (dCons (dCall F_law_mate (dCons (dVar 5) dNil)) (dCons (dC (.int 1)) dNil))) dNil)))))))) (sSeq (sFrz 3 (sFor (fItems (mE (dVar 3))) (asgT (asgCons (asgN 7) (asgCons (asgN 8) asgNil))) (sSeq (sPar [12, 13] [10, 11] ((vE (fun ρ => ((dVarB 2) ρ).bind fun x => ((dVar 7) ρ).bind fun y => opIxD x y)) :: ((vE (fun ρ => ((dVarB 2) ρ).bind fun x => ((dVar 8) ρ).bind fun y => opIxD x y)) :: []))) (sRelab 2 9 10 11)))) (sSeq (sGather 2 9 4) (sRet (mE (d1 bLen (dVar 4)))))))))
abbrev F_law_lots : List D → R D := run 16 1 b_law_lots
theorem bi_law_lots (h : Hd K mg P) : Binds K (fdA K (He.ga K "_law_lots")) ["line"] [] := h.F_law_lots.binds fun _ _ _ _ _ _ us hl => match us, hl with | [_], _ => rfl
theorem ok_law_lots (h : Hd K mg P) : FnG false P w K mg base 2 (He.ga K "_law_lots") (fdA K (He.ga K "_law_lots")) ["line"] (spF K mg F_law_lots) := fn_ok h.F_law_lots sc_law_lots rfl fun cdv A outer s H E hr hg hc => ⟨_, (dss_cons (ds_parG (by rfl) (dq_cons (dum_of (by rfl) (by rfl)) (DE.toV (de_bi cr_len2 sem_len len_nx h.n_len (by decide +kernel) (DE.toB (de_var 0)))) (dq_cons (dum_of (by rfl) (by rfl)) (dv_dictT (by rfl) (by rfl)) (dq_cons (dum_of (by rfl) (by rfl)) (DN.toV (dn_lst da_nil)) (dq_cons (dum_of (by rfl) (by rfl)) (DE.toV (DN.toE (dn_lst da_nil))) (dq_nil (by rfl) (by rfl)))))) (dgn_cons (i := 1) sc_law_lots.nd (by rfl) (by first | exact Or.inl rfl | exact Or.inr rfl) (by first | exact .inl rfl | exact .inr rfl) (dgn_cons (i := 2) sc_law_lots.nd (by rfl) (by first | exact Or.inl rfl | exact Or.inr rfl) (by first | exact .inl rfl | exact .inr rfl) (dgn_cons (i := 3) sc_law_lots.nd (by rfl) (by first | exact Or.inl rfl | exact Or.inr rfl) (by first | exact .inl rfl | exact .inr rfl) (dgn_cons (i := 4) sc_law_lots.nd (by rfl) (by first | exact Or.inl rfl | exact Or.inr rfl) (by first | exact .inl rfl | exact .inr rfl) dgn_nil (by rfl) (by rfl)) (by rfl) (by rfl)) (by rfl) (by rfl)) (by rfl) (by rfl)) (by rfl) (by decide) (by decide) (by decide) (by rfl) (by rfl) (by rfl) (by rfl)) (dss_cons (ds_for cx_own (by rfl) (di_seq (DE.toM (de_var 0))) (dg_name 5 sc_law_lots.nd) (dss_cons (ds_putd 2 (u1 hr) (DE.toM (de_op op_mul3 sem_mul opI_noX (DE.toB de_int) (DE.toB (de_var 5)))) (de_pr (da_cons (de_var 5) (da_cons de_int da_nil))) (by rfl) (by first | exact Or.inl rfl | exact Or.inr (Or.inl rfl) | exact Or.inr (Or.inr rfl)) (by decide) (by decide) (by rfl)) (dss_one (ds_putd 2 (u1 hr) (DE.toM (de_op or_add sem_add add_noX (DE.toB (de_op op_mul3 sem_mul opI_noX (DE.toB de_int) (DE.toB (de_var 5)))) (DE.toB de_int))) (de_pr (da_cons (de_var 5) (da_cons de_int da_nil))) (by rfl) (by first | exact Or.inl rfl | exact Or.inr (Or.inl rfl) | exact Or.inr (Or.inr rfl)) (by decide) (by decide) (by rfl))))) (dss_cons (ds_for cx_own (by rfl) (di_enumT h.n_enumerate (DE.toM (de_var 0))) (dg_tup (by rfl) (dgs_cons (dg_name 6 sc_law_lots.nd) (dgs_cons (dg_name 5 sc_law_lots.nd) dgs_nil)) (asg_lenS (asg_lenS asg_len0))) (dss_cons (ds_expr (dm_append (pl := pure true) 3 (DE.toM (de_tup (da_cons (de_pr (da_cons (de_var 5) (da_cons de_int da_nil))) (da_cons (de_pr (da_cons (de_ix (DE.toB (de_var 0)) (DE.toB (de_op op_mod sem_mod opI_noX (DE.toB (de_ty call_int1 sem_int int_nx h.n_int (by decide +kernel) (DE.toB (de_op or_add sem_add add_noX (DE.toB (de_var 6)) (DE.toB de_int))))) (DE.toB (de_var 1))))) (da_cons de_int da_nil))) da_nil)))))) (dss_one (ds_expr (dm_append (pl := pure true) 3 (DE.toM (de_tup (da_cons (de_pr (da_cons (de_var 5) (da_cons de_int da_nil))) (da_cons (de_pr (da_cons (de_call (c_law_mate h ⟨rfl, rfl, rfl, rfl, rfl⟩ (hr.mono (by decide))) cx_pass (da_cons (de_var 5) da_nil)) (da_cons de_int da_nil))) da_nil))))))))) (dss_cons (ds_frz 3 (ds_for cx_own (by rfl) (di_seq (DE.toM (de_var 3))) (dg_tup (by rfl) (dgs_cons (dg_name 7 sc_law_lots.nd) (dgs_cons (dg_name 8 sc_law_lots.nd) dgs_nil)) (asg_lenS (asg_lenS asg_len0))) (dss_cons (ds_par2 (by rfl) sc_law_lots.nd (by rfl) (by rfl) (by rfl) (by rfl) (dq_cons (dum_of (by rfl) (by rfl)) (DE.toV (de_dix (u1 hr) (db_var 2) (de_var 7) (fun _ _ => rfl))) (dq_cons (dum_of (by rfl) (by rfl)) (DE.toV (de_dix (u1 hr) (db_var 2) (de_var 8) (fun _ _ => rfl))) (dq_nil (by rfl) (by rfl)))) (by decide) (by rfl) (by rfl)) (dss_one (ds_relab (i := 2) (c := 9) (o := 10) (f := 11) (by rfl) (by rfl) cx_own (by rfl) (u65 hr) sc_law_lots.nd (by rfl) (by rfl) (by rfl) (by rfl) (by first | exact Or.inl rfl | exact Or.inr (Or.inl rfl) | exact Or.inr (Or.inr rfl)) (by first | exact Or.inl rfl | exact Or.inr (Or.inl rfl) | exact Or.inr (Or.inr rfl)) (by first | exact Or.inl rfl | exact Or.inr (Or.inl rfl) | exact Or.inr (Or.inr rfl)) (by first | exact Or.inl rfl | exact Or.inr (Or.inl rfl) | exact Or.inr (Or.inr rfl)) (by decide) (by decide) (by decide) (by decide) (by decide) (by decide) (by decide) (by decide) (by first | exact Or.inl rfl | exact Or.inr rfl) (by first | exact .inl rfl | exact .inr rfl) h.n_list (by rfl) (by decide) (by rfl) (by intro _; rfl) (by rfl) (by rfl) (fun _ _ => rfl) (fun _ _ => rfl)))))) (dss_cons (ds_gather (i := 2) (c := 9) (k := 4) (by rfl) (by rfl) cx_own (by rfl) (u65 hr) sc_law_lots.nd (by rfl) (by rfl) (by rfl) (by first | exact Or.inl rfl | exact Or.inr (Or.inl rfl) | exact Or.inr (Or.inr rfl)) (by first | exact Or.inl rfl | exact Or.inr (Or.inl rfl) | exact Or.inr (Or.inr rfl)) (by first | exact Or.inl rfl | exact Or.inr (Or.inl rfl) | exact Or.inr (Or.inr rfl)) (by decide) (by decide) (by decide) (by decide) (by decide) (by decide) (by first | exact Or.inl rfl | exact Or.inr rfl) (by first | exact .inl rfl | exact .inr rfl) (by first | exact Or.inl rfl | exact Or.inr rfl) (by first | exact .inl rfl | exact .inr rfl) (by decide) (by rfl) (by intro _; rfl) (by rfl) (by rfl) (fun _ _ => rfl) (fun _ _ => rfl)) (dss_one (ds_ret (DE.toM (de_bi cr_len2 sem_len len_nx h.n_len (by decide +kernel) (DE.toB (de_var 4)))))))))))⟩
theorem c_law_lots (h : Hd K mg P) {X : Cx} (i : Is X P w K mg base) (hr : Room 2 X.A) : Callee X "_law_lots" (He.ga K "_law_lots") (fdA K (He.ga K "_law_lots")) ["line"] (spF K mg F_law_lots) := by
  obtain ⟨rfl, rfl, rfl, rfl, rfl⟩ := i
  exact ⟨(ok_law_lots h).at_ hr Gd.no, h.g_law_lots, h.F_law_lots.kp, bi_law_lots h⟩
/-! law -/
theorem kb_genus_skin (h : Hd K mg P) : KB K (fdA K (He.ga K "genus")) ["skin"] 0 ["skin"] [0] := kb_of h.F_genus fun _ _ _ _ _ _ us ws h1 h2 => match us, ws, h1, h2 with | [], [_], _, _ => rfl
theorem kb_rims_skin (h : Hd K mg P) : KB K (fdA K (He.ga K "rims")) ["skin"] 0 ["skin"] [0] := kb_of h.F_rims fun _ _ _ _ _ _ us ws h1 h2 => match us, ws, h1, h2 with | [], [_], _, _ => rfl
theorem sc_law : FnScope ["script", "draw", "turn", "no", "error", "line", "skin", "due", "found", "high", ".d0", ".d1"] ["script"] (defScope (top 33)) := ⟨rfl, rfl, rfl, by decide +kernel, rfl, by decide +kernel, by decide +kernel⟩
def b_law : S → M Fl := (sSeq (sFor (fMapA toRange1 (mCons (m2 opAdd (mE (dC (.int 4))) (mA bMin2 (mCons (mE (d1 bLen (dVar 0))) (mCons (mE (dC (.int 8))) mNil)))) mNil)) (asgN 2) (sSeq (sSet 5 (vM (mD 1 F_law_row (mCons (mE (dC (.int 6))) mNil)))) (sSeq (sPar [10, 11] [6, 7] ((vE (fun ρ => ((dCons (dVar 5) dNil) ρ).bind fun ds => objR "Skin" (F_Skin___init__ ds))) :: ((vE (dCall F_law_rims (dCons (dVar 5) dNil))) :: []))) (sSeq (sSet 8 (vN (dCallN F_rims (dCons (dVar 6) dNil)))) (sSeq (sIf (mT (dOr (dNot (dT (d1 (isiD os xs ks sub_list) (dVarB 8)))) (dOr (dT (d2 opNe (d1 reprD (dVarB 8)) (d1 reprD (dVar 7)))) (dT (d2 opNe (d1 bLen (dVar 7)) (dCall F_law_lots (dCons (dVar 5) dNil))))))) (sRet (mE (dC (.bl false)))) sNext) (sSeq (sIf (mT (dT (d2 opNe (fun ρ => ((d1N bSort (d1 bSumT (dVarB 8))) ρ).map D.lst) (fun ρ => ((d1N rgR (d1 bLen (dVar 5))) ρ).map D.lst)))) (sRet (mE (dC (.bl false)))) sNext) (sSeq (sSet 9 (vE (d2 opSub (d2 opAdd (d2 opDiv (d1 bLen (dVar 5)) (dC (.int 2))) (dC (.int 1))) (d1 bLen (dVar 7))))) (sSeq (sIf (mT (dOr (dT (d2 opNe (d2 opMod (d1 bInt (dVar 9)) (dC (.int 2))) (dC (.int 0)))) (dT (d2 opNe (d1 reprD (fun ρ => ((dLst (dCons (dCall F_genus (dCons (dVar 6) dNil)) (dCons (dKey [0] 1 F_genus (dCons (dVar 6) dNil)) dNil))) ρ).map D.lst)) (d1 reprD (d2 opMulLs (fun ρ => ((dLst (dCons (d2 opDiv (dVar 9) (dC (.int 2))) dNil)) ρ).map D.lst) (dC (.int 2)))))))) (sRet (mE (dC (.bl false)))) sNext) (sSeq (sDrop (mAppend 8 (mE (dC .non)))) (sIf (mT (dT (d2 opNe (d1 reprD (fun ρ => ((dKeyN [0] 1 F_rims (dCons (dVar 6) dNil)) ρ).map D.lst)) (d1 reprD (dVar 7))))) (sRet (mE (dC (.bl false)))) sNext)))))))))) (sSeq (sSet 3 (vM (mD 1 F_law_pick (mCons (mE (fun ρ => ((dLst (dCons (dC .non) (dCons (dC (.int 5)) (dCons (dTup (dCons (dC (.int 0)) (dCons (dC (.int 1)) dNil))) (dCons (fun ρ => ((dLst (dCons (dC (.int 0)) (dCons (dC (.int 1)) dNil))) ρ).map D.lst) (dCons (dC (.str "skin")) dNil)))))) ρ).map D.lst)) mNil)))) (sSeq (sSet 4 (vM (mCaught errs (mE (fun ρ => ((dCallN F_rims (dCons (dVar 3) dNil)) ρ).map D.lst))))) (sRet (mAndV (mE (dCall F_law_skin_error (dCons (dVar 4) dNil))) (mA F_law_skin_error (mCons (mCaught errs (mE (dCall F_genus (dCons (dVar 3) dNil)))) mNil)))))))
theorem bi_law (h : Hd K mg P) : Binds K (fdA K (He.ga K "law")) ["script"] [] := h.F_law.binds fun _ _ _ _ _ _ us hl => match us, hl with | [_], _ => rfl
theorem ok_law (h : Hd K mg P) (tb : ∀ p ∈ CS K, TabB base mg p.1 p.2) (eb : FnG false P w K mg base 1 (He.ga K "_law_begun") (fdA K (He.ga K "_law_begun")) ["script"] (spBegun K)) {ok : List Int → Prop} (hz : ∀ ns, ok ns → ns.length ≤ 1000)
    (run : ∀ ns, ok ns → ∃ ρ, b_law (startL 12 ns (lawDraws ns)) = .ok (.rt (.bl true)) ρ) : FnG true P w K mg base 10 (He.ga K "law") (fdA K (He.ga K "law")) ["script"] (spLaw K (TT K) ok) :=
  Fun.okG h.F_law sc_law (fun vs H Q E h => by obtain ⟨_, _, rfl, _⟩ := h; rfl) fun cdv A outer s H vs Q E hr hg hc hsp => by
    have d : ∃ t, DSs K mg E (TT K) (cxOf (L2.CX P w) P w K mg base ["script", "draw", "turn", "no", "error", "line", "skin", "due", "found", "high", ".d0", ".d1"] "law" (defScope (top 33)) (He.ga K "law") cdv A outer s H E) ((defBody (top 33)).drop 1) t b_law := ⟨_, (dss_cons (ds_for cx_own (by rfl) (di_range1 h.n_range (dma_cons (dm_op or_add sem_add add_noX (DE.toM de_int) (dm_bi (call_min2 (by rfl)) sem_min2 min2_nx h.n_min (by decide +kernel) (dma_cons (DE.toM (de_bi cr_len2 sem_len len_nx h.n_len (by decide +kernel) (DE.toB (de_var 0)))) (dma_cons (DE.toM de_int) dma_nil)))) dma_nil)) (dg_name 2 sc_law.nd) (dss_cons (ds_set 5 sc_law.nd (DM.toV (dm_dcall 1 (c_law_row h ⟨rfl, rfl, rfl, rfl, rfl⟩ (hr.mono (by decide))) cx_pass (dma_cons (DE.toM de_int) dma_nil)))) (dss_cons (ds_par2 (by rfl) sc_law.nd (by rfl) (by rfl) (by rfl) (by rfl) (dq_cons (dum_of (by rfl) (by rfl)) (DE.toV (de_make (mk_Skin h ⟨rfl, rfl, rfl, rfl, rfl⟩) (hr.mono (by decide)) cx_pass (da_cons (de_var 5) da_nil))) (dq_cons (dum_of (by rfl) (by rfl)) (DE.toV (de_call (c_law_rims h ⟨rfl, rfl, rfl, rfl, rfl⟩ (hr.mono (by decide))) cx_pass (da_cons (de_var 5) da_nil))) (dq_nil (by rfl) (by rfl)))) (by decide) (by rfl) (by rfl)) (dss_cons (ds_set 8 sc_law.nd (DN.toV (dn_call (c_rims h ⟨rfl, rfl, rfl, rfl, rfl⟩ (hr.mono (by decide))) cx_pass (da_cons (de_var 6) da_nil)))) (dss_cons (ds_if (DT.toM (DW.t (dw_or (dt_not (dt_val (de_isi h.own h.n_isinstance (by rfl) (by rfl) (by rfl) (by rfl) h.k_list (db_var 8) (dc_ty h.n_list (by decide +kernel) (by rfl))))) (dw_or (dt_cmp (op_neP hr.units) sem_eqP eq_noX (DE.toB (de_bi (cr_repr h.sys (hg rfl) hr.units) sem_repr repr_nx h.n_repr (by decide +kernel) (db_var 8))) (DE.toB (de_bi (cr_repr h.sys (hg rfl) hr.units) sem_repr repr_nx h.n_repr (by decide +kernel) (DE.toB (de_var 7)))) (by rfl)) (dw_or1 (dt_cmp (op_neP hr.units) sem_eqP eq_noX (DE.toB (de_bi cr_len2 sem_len len_nx h.n_len (by decide +kernel) (DE.toB (de_var 7)))) (DE.toB (de_call (c_law_lots h ⟨rfl, rfl, rfl, rfl, rfl⟩ (hr.mono (by decide))) cx_pass (da_cons (de_var 5) da_nil))) (by rfl))))))) (dss_one (ds_ret (DE.toM de_bl))) dss_nil) (dss_cons (ds_if (DT.toM (dt_cmp (op_neP hr.units) sem_eqP eq_noX (DE.toB (DN.toE (dn_bi cr_sortLT sem_sort sort_nx h.n_sorted (by decide +kernel) (DE.toB (de_sumT (by rfl) h.n_sum (by decide +kernel) (db_var 8)))))) (DE.toB (DN.toE (dn_listRg (by rfl) (by rfl) h.n_list (by rfl) h.n_range (de_bi cr_len2 sem_len len_nx h.n_len (by decide +kernel) (DE.toB (de_var 5))) (by rfl) (by rfl)))) (by rfl))) (dss_one (ds_ret (DE.toM de_bl))) dss_nil) (dss_cons (ds_set 9 sc_law.nd (DE.toV (de_op op_sub sem_sub opI_noX (DE.toB (de_op or_add sem_add add_noX (DE.toB (de_op op_fdivW sem_div opI_noX (DE.toB (de_bi cr_len2 sem_len len_nx h.n_len (by decide +kernel) (DE.toB (de_var 5)))) (DE.toB de_int))) (DE.toB de_int))) (DE.toB (de_bi cr_len2 sem_len len_nx h.n_len (by decide +kernel) (DE.toB (de_var 7))))))) (dss_cons (ds_if (DT.toM (DW.t (dw_or (dt_cmp (op_neP hr.units) sem_eqP eq_noX (DE.toB (de_op op_mod sem_mod opI_noX (DE.toB (de_ty call_int1 sem_int int_nx h.n_int (by decide +kernel) (DE.toB (de_var 9)))) (DE.toB de_int))) (DE.toB de_int) (by rfl)) (dw_or1 (dt_cmp (op_neP hr.units) sem_eqP eq_noX (DE.toB (de_bi (cr_repr h.sys (hg rfl) hr.units) sem_repr repr_nx h.n_repr (by decide +kernel) (DE.toB (DN.toE (dn_lst (da_cons (de_call (c_genus h ⟨rfl, rfl, rfl, rfl, rfl⟩ (hr.mono (by decide))) cx_pass (da_cons (de_var 6) da_nil)) (da_cons (de_key (ix := [0]) (ks := ["skin"]) (c_genus h ⟨rfl, rfl, rfl, rfl, rfl⟩ (hr.mono (by decide))) (kb_genus_skin h) cx_pass (dkw_cons (de_var 6) (dkw_nil (by rfl) (by rfl))) (by rfl) (by rfl) (by rfl) (by decide) (by rfl)) da_nil))))))) (DE.toB (de_bi (cr_repr h.sys (hg rfl) hr.units) sem_repr repr_nx h.n_repr (by decide +kernel) (DE.toB (de_op op_rep sem_mulLs mulLs_noX (DE.toB (DN.toE (dn_lst (da_cons (de_op op_fdivW sem_div opI_noX (DE.toB (de_var 9)) (DE.toB de_int)) da_nil)))) (DE.toB de_int))))) (by rfl)))))) (dss_one (ds_ret (DE.toM de_bl))) dss_nil) (dss_cons (ds_expr (dm_append (pl := pure true) 8 (DE.toM de_non))) (dss_one (ds_if (DT.toM (dt_cmp (op_neP hr.units) sem_eqP eq_noX (DE.toB (de_bi (cr_repr h.sys (hg rfl) hr.units) sem_repr repr_nx h.n_repr (by decide +kernel) (DE.toB (DN.toE (dn_key (ix := [0]) (ks := ["skin"]) (c_rims h ⟨rfl, rfl, rfl, rfl, rfl⟩ (hr.mono (by decide))) (kb_rims_skin h) cx_pass (dkw_cons (de_var 6) (dkw_nil (by rfl) (by rfl))) (by rfl) (by rfl) (by rfl) (by decide) (by rfl)))))) (DE.toB (de_bi (cr_repr h.sys (hg rfl) hr.units) sem_repr repr_nx h.n_repr (by decide +kernel) (DE.toB (de_var 7)))) (by rfl))) (dss_one (ds_ret (DE.toM de_bl))) dss_nil))))))))))) (dss_cons (ds_set 3 sc_law.nd (DM.toV (dm_dcall 1 (c_law_pick h ⟨rfl, rfl, rfl, rfl, rfl⟩ (hr.mono (by decide))) cx_pass (dma_cons (DE.toM (DN.toE (dn_lst (da_cons de_non (da_cons de_int (da_cons (de_tup (da_cons de_int (da_cons de_int da_nil))) (da_cons (DN.toE (dn_lst (da_cons de_int (da_cons de_int da_nil)))) (da_cons de_str da_nil)))))))) dma_nil)))) (dss_cons (ds_set 4 sc_law.nd (DM.toV (caught h tb (k := 7) ⟨rfl, rfl, rfl, rfl, rfl⟩ (c := (He.cT K ("law", none)).1) (Pt := (He.cT K ("law", none)).2) (List.mem_of_getElem? (i := 0) (by rfl)) (hc.symm.trans h.cd_law) (List.mem_of_getElem? (i := 0) (by rfl)) (by rfl) (hr.mono (by decide)) (lamS_by (by kernel_rfl)) (by rfl) (by intro _ _ _ _ _; rfl) (fun A outer s H E f c hr' => ⟨_, (DE.toM (DN.toE (dn_call (c_rims h ⟨rfl, rfl, rfl, rfl, rfl⟩ (hr'.mono (by decide))) lam_pass (da_cons (de_var 3) da_nil))))⟩) s))) (dss_one (ds_ret (dm_and (DE.toM (de_call (c_law_skin_error h ⟨rfl, rfl, rfl, rfl, rfl⟩ (hr.mono (by decide))) cx_pass (da_cons (de_var 4) da_nil))) (dm_one (dm_call (c_law_skin_error h ⟨rfl, rfl, rfl, rfl, rfl⟩ (hr.mono (by decide))) cx_pass (dma_cons (caught h tb (k := 7) ⟨rfl, rfl, rfl, rfl, rfl⟩ (c := (He.cT K ("law", none)).1) (Pt := (He.cT K ("law", none)).2) (List.mem_of_getElem? (i := 0) (by rfl)) (hc.symm.trans h.cd_law) (List.mem_of_getElem? (i := 0) (by rfl)) (by rfl) (hr.mono (by decide)) (lamS_by (by kernel_rfl)) (by rfl) (by intro _ _ _ _ _; rfl) (fun A outer s H E f c hr' => ⟨_, (DE.toM (de_call (c_genus h ⟨rfl, rfl, rfl, rfl, rfl⟩ (hr'.mono (by decide))) lam_pass (da_cons (de_var 3) da_nil)))⟩) s) dma_nil)))))))))⟩
    obtain ⟨t, d⟩ := d
    exact ⟨_, pss_cons (ps_set (i := 1) sc_law.nd rfl (by first | exact Or.inl rfl | exact Or.inr rfl) (pe_at (c_law_begun h eb ⟨rfl, rfl, rfl, rfl, rfl⟩ (hr.mono (by decide))) (by rfl) cx_pass (pa_cons (pe_var (i := 0) rfl (Or.inl rfl)) pa_nil) (by decide) (by rfl) (by rfl))) d.ps, law_read (by decide) d.imp hz run hsp⟩
end
end TP.K02
set_option Elab.async false
set_option linter.all false
set_option maxRecDepth 100000
set_option maxHeartbeats 0
/-! The head of tautrounds_k02_whole_rims_and_genus. -/
namespace TP.K02
open PySem L2 PyProof.Rows PySem.Spec LamX TP
def fn : List He.DefD := [⟨("Skin", some "__init__"), "__init__", "Skin.__init__", defArgs (sub 12 0), defBody (sub 12 0), defScope (sub 12 0), [], []⟩, ⟨("_law_begun", none), "_law_begun", "_law_begun", defArgs (top 21), defBody (top 21), defScope (top 21), [], []⟩, ⟨("_law_least_turn", none), "_law_least_turn", "_law_least_turn", defArgs (top 29), defBody (top 29), defScope (top 29), [], []⟩, ⟨("_law_lots", none), "_law_lots", "_law_lots", defArgs (top 32), defBody (top 32), defScope (top 32), [], []⟩, ⟨("_law_mate", none), "_law_mate", "_law_mate", defArgs (top 28), defBody (top 28), defScope (top 28), [], []⟩, ⟨("_law_mixed", none), "_law_mixed", "_law_mixed", defArgs (top 22), defBody (top 22), defScope (top 22), [], []⟩, ⟨("_law_pick", none), "_law_pick", "_law_pick", defArgs (top 24), defBody (top 24), defScope (top 24), [], []⟩, ⟨("_law_rims", none), "_law_rims", "_law_rims", defArgs (top 31), defBody (top 31), defScope (top 31), [], []⟩, ⟨("_law_row", none), "_law_row", "_law_row", defArgs (top 30), defBody (top 30), defScope (top 30), [], []⟩, ⟨("_law_shuffled", none), "_law_shuffled", "_law_shuffled", defArgs (top 25), defBody (top 25), defScope (top 25), [], []⟩, ⟨("_law_skin_error", none), "_law_skin_error", "_law_skin_error", defArgs (top 27), defBody (top 27), defScope (top 27), [], []⟩, ⟨("_law_take", none), "_law_take", "_law_take", defArgs (top 23), defBody (top 23), defScope (top 23), [], []⟩, ⟨("end_behind", none), "end_behind", "end_behind", defArgs (top 14), defBody (top 14), defScope (top 14), [], []⟩, ⟨("genus", none), "genus", "genus", defArgs (top 19), defBody (top 19), defScope (top 19), [], []⟩, ⟨("genus_of", none), "genus_of", "genus_of", defArgs (top 18), defBody (top 18), defScope (top 18), [], []⟩, ⟨("is_between", none), "is_between", "is_between", defArgs (top 5), defBody (top 5), defScope (top 5), [], []⟩, ⟨("is_list", none), "is_list", "is_list", defArgs (top 6), defBody (top 6), defScope (top 6), [], []⟩, ⟨("is_number", none), "is_number", "is_number", defArgs (top 4), defBody (top 4), defScope (top 4), [], []⟩, ⟨("is_row", none), "is_row", "is_row", defArgs (top 11), defBody (top 11), defScope (top 11), [], []⟩, ⟨("is_sequence", none), "is_sequence", "is_sequence", defArgs (top 10), defBody (top 10), defScope (top 10), [], []⟩, ⟨("law", none), "law", "law", defArgs (top 33), defBody (top 33), defScope (top 33), [], []⟩, ⟨("least_turn", none), "least_turn", "least_turn", defArgs (top 15), defBody (top 15), defScope (top 15), [], []⟩, ⟨("need_skin", none), "need_skin", "need_skin", defArgs (top 13), defBody (top 13), defScope (top 13), [], []⟩, ⟨("rims", none), "rims", "rims", defArgs (top 17), defBody (top 17), defScope (top 17), [], []⟩, ⟨("rims_of", none), "rims_of", "rims_of", defArgs (top 16), defBody (top 16), defScope (top 16), [], []⟩, ⟨("_law_caught", none), "_law_caught", "_law_caught", defArgs (top 26), defBody (top 26), defScope (top 26), [], []⟩]
def fe : List Str := ["BadSkin"]
def ce : List FnC := [some ("__init__", "BadSkin.__init__", defArgs (sub 2 0), FuncBody.stmts (defBody (sub 2 0)), defScope (sub 2 0), mainGlobals, ["__class__"], builtinsNs)]
def tf : List He.Defn := [("law", none)]
def fa : List He.Fa := [.glo "_law_begun", .glo "_law_least_turn", .glo "_law_lots", .glo "_law_mate", .glo "_law_mixed", .glo "_law_pick", .glo "_law_rims", .glo "_law_row", .glo "_law_shuffled", .glo "_law_skin_error", .glo "_law_take", .glo "end_behind", .glo "genus", .glo "genus_of", .glo "is_between", .glo "is_list", .glo "is_number", .glo "is_row", .glo "is_sequence", .glo "law", .glo "least_turn", .glo "need_skin", .glo "rims", .glo "rims_of", .glo "Skin", .int "LEAST_ENDS" 2, .int "MOST_ENDS" 12, .free "abs", .free "all", .free "bool", .free "enumerate", .free "int", .free "isinstance", .free "len", .free "list", .free "max", .free "min", .free "range", .free "repr", .free "sorted", .free "sum", .free "tuple", .glo "BadSkin", .mkr "Skin", .glo "_law_caught", .glo "RoundError"]
def exs (K : PySem.W.Frag) : List Bool := [(Cn.nms ks).all fun x => (He.Fa.glo x).ok K, (os ++ xs).all fun x => (He.Fa.glo x).ok K, xs.all fun x => (He.Fa.glo x).ok K, errs.all fun x => (He.Fa.glo x).ok K, os.all fun c => insB K (He.ga K c), xs.all fun c => excB K (He.ga K c), sysB K, clsB K (He.ga K "Skin"), He.eqO (PySem.W.findIn K (.ref (He.ga K "Skin")) "bands") (some none), He.eqO (PySem.W.findIn K (.ref (He.ga K "Skin")) "row") (some none), koB K ks (.own "BadSkin") sub_BadSkin, koB K ks (.own "Skin") sub_Skin, koB K ks (.ty "bool") sub_bool, koB K ks (.ty "int") sub_int, koB K ks (.ty "list") sub_list, koB K ks (.ty "tuple") sub_tuple, xs.all fun c => xfB K (He.ga K c) "part", errB K (He.ga K "BadSkin") (initAt K "BadSkin") (PySem.Challenge.pw_tautrounds_k02_whole_rims_and_genus.main.file) "part", eqB K (He.ga K "Skin") (He.ma K (He.ga K "Skin") "__eq__"), nfB K "Skin" ks, errs.all fun c => decide (PySem.W.exmOne K (.ref (He.ga K c)) (.ref (He.ga K "RoundError")) = some true), decide (((TT K).map (·.1)).Nodup)]
def ex (K : PySem.W.Frag) : Bool := (exs K).all id
theorem ga_all {K : PySem.W.Frag} {mg : Str → Option Value} {h : Heap} (X : K.In h) (G : h.Ns mainGlobals mg) {l : List Str} (e : (l.all fun x => (He.Fa.glo x).ok K) = true) : GaAll K mg l := fun c hc => He.glo_ok X G (List.all_eq_true.mp e c hc)
theorem hd_of {K : PySem.W.Frag} {mg : Str → Option Value} {h : Heap} (X : K.In h) (G : h.Ns mainGlobals mg) (c : SaysY fa fn fe ce tf ex h K) : Hd K mg PySem.Challenge.pw_tautrounds_k02_whole_rims_and_genus := by
  have e : ∀ (i : Nat) (b : Bool), (exs K)[i]? = some b → b = true := fun i b q => List.all_eq_true.mp c.ex_ b (List.mem_of_getElem? q)
  have gN : GaAll K mg (Cn.nms ks) := ga_all X G (e 0 _ rfl)
  have gO : GaAll K mg (os ++ xs) := ga_all X G (e 1 _ rfl)
  have gX : GaAll K mg xs := ga_all X G (e 2 _ rfl)
  have gE : GaAll K mg errs := ga_all X G (e 3 _ rfl)
  exact {
    own := ownF_of gO (e 4 _ rfl) (e 5 _ rfl),
    sys := sysB_ok (e 6 _ rfl),
    cd_law := code_of (c.fun_ 20 rfl),
    F_Skin___init__ := c.fun_ 0 rfl,
    F_law_begun := c.fun_ 1 rfl,
    g_law_begun := He.glo_ok X G (c.fact 0),
    F_law_least_turn := c.fun_ 2 rfl,
    g_law_least_turn := He.glo_ok X G (c.fact 1),
    F_law_lots := c.fun_ 3 rfl,
    g_law_lots := He.glo_ok X G (c.fact 2),
    F_law_mate := c.fun_ 4 rfl,
    g_law_mate := He.glo_ok X G (c.fact 3),
    F_law_mixed := c.fun_ 5 rfl,
    g_law_mixed := He.glo_ok X G (c.fact 4),
    F_law_pick := c.fun_ 6 rfl,
    g_law_pick := He.glo_ok X G (c.fact 5),
    F_law_rims := c.fun_ 7 rfl,
    g_law_rims := He.glo_ok X G (c.fact 6),
    F_law_row := c.fun_ 8 rfl,
    g_law_row := He.glo_ok X G (c.fact 7),
    F_law_shuffled := c.fun_ 9 rfl,
    g_law_shuffled := He.glo_ok X G (c.fact 8),
    F_law_skin_error := c.fun_ 10 rfl,
    g_law_skin_error := He.glo_ok X G (c.fact 9),
    F_law_take := c.fun_ 11 rfl,
    g_law_take := He.glo_ok X G (c.fact 10),
    F_end_behind := c.fun_ 12 rfl,
    g_end_behind := He.glo_ok X G (c.fact 11),
    F_genus := c.fun_ 13 rfl,
    g_genus := He.glo_ok X G (c.fact 12),
    F_genus_of := c.fun_ 14 rfl,
    g_genus_of := He.glo_ok X G (c.fact 13),
    F_is_between := c.fun_ 15 rfl,
    g_is_between := He.glo_ok X G (c.fact 14),
    F_is_list := c.fun_ 16 rfl,
    g_is_list := He.glo_ok X G (c.fact 15),
    F_is_number := c.fun_ 17 rfl,
    g_is_number := He.glo_ok X G (c.fact 16),
    F_is_row := c.fun_ 18 rfl,
    g_is_row := He.glo_ok X G (c.fact 17),
    F_is_sequence := c.fun_ 19 rfl,
    g_is_sequence := He.glo_ok X G (c.fact 18),
    F_law := c.fun_ 20 rfl,
    g_law := He.glo_ok X G (c.fact 19),
    F_least_turn := c.fun_ 21 rfl,
    g_least_turn := He.glo_ok X G (c.fact 20),
    F_need_skin := c.fun_ 22 rfl,
    g_need_skin := He.glo_ok X G (c.fact 21),
    F_rims := c.fun_ 23 rfl,
    g_rims := He.glo_ok X G (c.fact 22),
    F_rims_of := c.fun_ 24 rfl,
    g_rims_of := He.glo_ok X G (c.fact 23),
    cf_Skin_bands := clsF_of (He.glo_ok X G (c.fact 24)) (e 7 _ rfl) (e 8 _ rfl),
    cf_Skin_row := clsF_of (He.glo_ok X G (c.fact 24)) (e 7 _ rfl) (e 9 _ rfl),
    i_LEAST_ENDS := He.int_ok X G (c.fact 25),
    i_MOST_ENDS := He.int_ok X G (c.fact 26),
    n_abs := He.free_ok X G (c.fact 27),
    n_all := He.free_ok X G (c.fact 28),
    n_bool := He.free_ok X G (c.fact 29),
    n_enumerate := He.free_ok X G (c.fact 30),
    n_int := He.free_ok X G (c.fact 31),
    n_isinstance := He.free_ok X G (c.fact 32),
    n_len := He.free_ok X G (c.fact 33),
    n_list := He.free_ok X G (c.fact 34),
    n_max := He.free_ok X G (c.fact 35),
    n_min := He.free_ok X G (c.fact 36),
    n_range := He.free_ok X G (c.fact 37),
    n_repr := He.free_ok X G (c.fact 38),
    n_sorted := He.free_ok X G (c.fact 39),
    n_sum := He.free_ok X G (c.fact 40),
    n_tuple := He.free_ok X G (c.fact 41),
    k_BadSkin := koB_ok gN (by decide) (e 10 _ rfl),
    k_Skin := koB_ok gN (by decide) (e 11 _ rfl),
    k_bool := koB_ok gN (by decide) (e 12 _ rfl),
    k_int := koB_ok gN (by decide) (e 13 _ rfl),
    k_list := koB_ok gN (by decide) (e 14 _ rfl),
    k_tuple := koB_ok gN (by decide) (e 15 _ rfl),
    xf_part := xfF_of gX (e 16 _ rfl),
    er_BadSkin := errK_of (c.err 0 rfl rfl).1 (e 17 _ rfl) (fun _ _ _ _ _ _ _ _ us hl => match us, hl with | [_, _], _ => rfl) (fun _ _ _ _ _ _ _ _ _ _ => rfl) (noDfl_ok (c.err 0 rfl rfl).2) rfl rfl rfl rfl rfl rfl (by decide +kernel) rfl rfl rfl rfl (by decide +kernel) ⟨by decide, by decide⟩,
    g_BadSkin := He.glo_ok X G (c.fact 42),
    g_Skin := He.glo_ok X G (c.fact 24),
    mk_Skin := He.mkr_ok (c.fact 43),
    eq_Skin := eqB_ok (e 18 _ rfl),
    nf_Skin := nfB_ok gN (He.glo_ok X G (c.fact 24)) (e 19 _ rfl),
    F_law_caught := c.fun_ 25 rfl,
    g_law_caught := He.glo_ok X G (c.fact 44),
    g_RoundError := He.glo_ok X G (c.fact 45),
    xm := xm_of gE (e 20 _ rfl),
    tnd := of_decide_eq_true (e 21 _ rfl) }
abbrev Rw : PySem.W.OpenRow := PySem.W.OpenLaw.row PySem.Challenge.rw_tautrounds_k02_whole_rims_and_genus
abbrev hk : PySem.W.Hook := hookY 5 fa fn fe ce tf ex
def ob (s : PySem.W.SharedT) : AlY × Bool := obsY 5 fa fn fe tf ex (HandSHeadRun.getT s)
theorem ob_eq (s : PySem.W.SharedT) : ob s = hk.obs s.abs := obsY_eq (HandSHeadRun.getT_eq s)
def loose : List Str := (["__name__", "RoundError", "BadSkin", "is_number", "is_between", "is_list", "LEAST_ENDS", "MOST_ENDS", "is_sequence", "is_row", "Skin", "need_skin", "end_behind", "least_turn", "rims_of", "rims", "genus_of", "genus", "_law_begun", "_law_mixed", "_law_take", "_law_pick", "_law_shuffled", "_law_caught", "_law_skin_error", "_law_mate", "_law_least_turn", "_law_row", "_law_rims", "_law_lots"] : List Str)
theorem runTop (w : World) : HandSHeadRun.RunEq Rw (PySem.W.view Rw.prog [33]) hk ob 4000 loose w := by
  intro os
  kernel_rfl
theorem whole (eb : ∀ (w : World) (K : PySem.W.Frag) (mg : Str → Option Value) (base : Heap), Hd K mg PySem.Challenge.pw_tautrounds_k02_whole_rims_and_genus → FnG false PySem.Challenge.pw_tautrounds_k02_whole_rims_and_genus w K mg base 1 (He.ga K "_law_begun") (fdA K (He.ga K "_law_begun")) ["script"] (spBegun K)) {ok : List Int → Prop} (hok : ∀ ns : List Int, ns.length ≤ 63 → (∀ z ∈ ns, Builtin.Int.intBits z ≤ 1048576) → ok ns) (hz : ∀ ns, ok ns → ns.length ≤ 1000)
    (run_law : ∀ ns, ok ns → ∃ ρ, b_law (startL 12 ns (lawDraws ns)) = .ok (.rt (.bl true)) ρ) : PySem.W.WalkO (PySem.W.view Rw.prog [33]) loose (PySem.W.XL (PySem.W.view Rw.prog [33]) []) hk.says Rw.toRowW (HandSHeadRun.topDef Rw.prog 33) [] (fun f vs => PySem.call f vs) := by
  refine walk_law (l := PySem.Challenge.rw_tautrounds_k02_whole_rims_and_genus) (n := 63) (k := 10) (y := "script") rfl (by decide) (by kernel_rfl) ⟨rfl, by decide, by decide⟩ ?_
  intro w mg f h Y G hmg0
  obtain ⟨K, KX, c⟩ := Y
  have hd := hd_of KX G c
  have hmg : mg ("law" : PySem.Str) = some (.ref f) := by
    have e : (HandSHeadRun.topDef Rw.prog 33).name = ("law" : PySem.Str) := by kernel_rfl
    rw [← e]
    exact hmg0
  have ef := hmg.symm.trans hd.g_law
  cases ef
  have b : Binds K (fdA K (He.ga K "law")) ["script"] [] := hd.F_law.binds fun _ _ _ _ _ _ us hl => match us, hl with | [_], _ => rfl
  refine ⟨K, KX, fdA K (He.ga K "law"), CS K, spLaw K (TT K) ok, fun p hp => ?_, fun p hp => ?_, fun p hp => ?_, fun s z kin => ?_, fun H a zs hl hb ht hs => ?_, fun base KB GB tb => ok_law hd tb (eb w K mg base hd) hz run_law⟩
  · obtain ⟨q, hq, rfl⟩ := List.mem_map.mp (show p ∈ tf.map (He.cT K) from hp)
    exact c.empty q hq
  · obtain ⟨q, hq, rfl⟩ := List.mem_map.mp (show p ∈ tf.map (He.cT K) from hp)
    exact c.out q hq
  · obtain ⟨q, hq, rfl⟩ := List.mem_map.mp (show p ∈ tf.map (He.cT K) from hp)
    exact PySem.W.codeHd_of_K KX (c.hd q hq)
  · exact b s [z] kin rfl
  · exact ⟨a, zs, rfl, hok zs hl hb, fun x hx => by
      obtain ⟨y, hy, e⟩ := TP.tt_cs (show x.1 ∈ (TT K).map (·.1) from List.mem_map.mpr ⟨x, hx, rfl⟩) (show (TT K).map (·.1) = (CS K).map (·.2) from rfl)
      rw [← e]
      exact ht y hy, hs, fun _ => rfl⟩
end TP.K02
open PySem PySem.W PySem.Calls PyProof.Rows in
theorem TP.K02.fin (call : WalkO (view TP.K02.Rw.prog [33]) TP.K02.loose (XL (view TP.K02.Rw.prog [33]) []) TP.K02.hk.says TP.K02.Rw.toRowW (HandSHeadRun.topDef TP.K02.Rw.prog 33) [] (fun f vs => PySem.call f vs)) : PySem.Challenge.rw_tautrounds_k02_whole_rims_and_genus.Holds := by
  w_on; o_law
  refine HandSHeadRun.head_any (r := OpenLaw.row PySem.Challenge.rw_tautrounds_k02_whole_rims_and_genus) (q := view (OpenLaw.row PySem.Challenge.rw_tautrounds_k02_whole_rims_and_genus).prog [33]) (H := TP.K02.hk) (ob := TP.K02.ob) (M := 4000) (loose := TP.K02.loose) (d := HandSHeadRun.topDef (OpenLaw.row PySem.Challenge.rw_tautrounds_k02_whole_rims_and_genus).prog 33) (kwd := []) TP.K02.ob_eq
    (by kernel_rfl) (fun s => by kernel_rfl) TP.K02.runTop (by kernel_rfl) (by kernel_rfl) (by kernel_rfl) (by rfl) (by first | assumption | decide +kernel) (by decide +kernel) ⟨rfl, rfl, rfl, rfl, rfl, by decide +kernel⟩ ?hw ?hc
  case hw => w_witness2
  case hc => exact call
set_option Elab.async false
set_option linter.all false
set_option maxRecDepth 100000
set_option maxHeartbeats 1001234
/-! The draws. -/
namespace TP.K02
open PySem L2 PyProof.Rows PySem.Spec LamX TP
theorem absInt (n : Int) : (if n < 0 then -n else n) = (n.natAbs : Int) := by split <;> omega
theorem begun1 (ns : List Int) (h : ns.length ≤ 1000) : b_law_begun [some (.fz (.scr ns)), none, none] = .ok .nx [some (.fz (.scr ns)), some (.ml ((lawDraws ns).large.map D.int)), none] := by
  unfold b_law_begun
  have e := comp_ok (v := 2) (tf := mT (dT (d2 opGe (d1 bAbs (dVar 2)) (d2 opPow (dC (D.int 10)) (dC (D.int 18))))))
    (ef := mE (d2 opSub (d1 bAbs (dVar 2)) (d2 opPow (dC (D.int 10)) (dC (D.int 18)))))
    (t := fun d => match d with | .int n => decide ((10 : Int) ^ 18 ≤ (n.natAbs : Int)) | _ => false) (g := fun d => match d with | .int n => .int ((n.natAbs : Int) - 10 ^ 18) | _ => .non)
    (ρ := [some (.fz (.scr ns)), none, none]) rfl (ns.map D.int) [some (.fz (.scr ns)), none, none] rfl (fun d hd => by
      obtain ⟨n, _, rfl⟩ := List.mem_map.mp hd
      simp [absInt]) (fun d hd _ => by
      obtain ⟨n, _, rfl⟩ := List.mem_map.mp hd
      simp [absInt])
  have el : ((ns.map D.int).filter fun d => match d with | .int n => decide ((10 : Int) ^ 18 ≤ (n.natAbs : Int)) | _ => false).map (fun d => match d with | .int n => .int ((n.natAbs : Int) - 10 ^ 18) | _ => .non) = (lawDraws ns).large.map D.int := by
    unfold lawDraws
    simp only [List.filter_map, List.map_map]
    rw [show ((fun d => match d with | .int n => decide ((10 : Int) ^ 18 ≤ (n.natAbs : Int)) | _ => false) ∘ D.int) = fun n : Int => decide (n.natAbs ≥ 10 ^ 18) from funext fun n => by
      show decide _ = decide _
      rw [decide_eq_decide]
      omega]
    rfl
  rw [el] at e
  have ef : fComp [2] (fItems (mE (dVar 0))) (asgN 2) (mT (dT (d2 opGe (d1 bAbs (dVar 2)) (d2 opPow (dC (D.int 10)) (dC (D.int 18)))))) (mE (d2 opSub (d1 bAbs (dVar 2)) (d2 opPow (dC (D.int 10)) (dC (D.int 18))))) [some (.fz (.scr ns)), none, none] = .ok ((lawDraws ns).large.map D.int) [some (.fz (.scr ns)), none, none] := by
    unfold fComp
    simp only [run_fItems, run_mE, run_dVar, List.getElem?_cons_zero, toM_ok, lift_ok, items_scr, bindM_ok]
    rw [if_pos ⟨by simp; omega, rfl⟩, e]
  simp [ef]
theorem begun2 (ns : List Int) (h : ns.length ≤ 1000) : cells_law_begun [some (.fz (.scr ns)), none, none] = .ok ((lawDraws ns).cells.map D.int) [some (.fz (.scr ns)), none, none] := by
  unfold cells_law_begun
  have e := comp_map (v := 2) (ef := mE (d1 bAbs (dVar 2))) (fun d => match d with | .int n => .int (n.natAbs : Int) | _ => .non)
    (ρ := [some (.fz (.scr ns)), none, none]) rfl (ns.map D.int) (fun d hd => by
      obtain ⟨n, _, rfl⟩ := List.mem_map.mp hd
      simp [absInt])
  unfold fComp
  simp only [run_fItems, run_mE, run_dVar, List.getElem?_cons_zero, toM_ok, lift_ok, items_scr, bindM_ok]
  rw [if_pos ⟨by simp; omega, rfl⟩]
  refine e.trans ?_
  unfold lawDraws
  simp
theorem mixed_ok (d : Dr) : ∃ r d', F_law_mixed d [] = some (.int r, d') := by
  unfold F_law_mixed runD b_law_mixed startD
  simp
  generalize hL : loop _ _ _ _ = L
  obtain ⟨ρ', rfl, _, f, x3, x4, x5, rfl⟩ := loop_nx hL (fun ds ρ => (∀ x ∈ ds, ∃ g : Int, x = .int g ∧ 0 < g ∧ g < 2 ^ 40) ∧ ∃ (f : Int) (x3 x4 x5 : Option Sl), ρ = [some (Sl.dr { large := d.large, rest := d.rest, cells := d.cells, turn := d.turn + 1 }), some (Sl.fz (D.int (d.turn + 1))), some (Sl.fz (D.int f)), x3, x4, x5, none, none]) ⟨by
      intro x hx
      simp at hx
      rcases hx with rfl | rfl | rfl
      · exact ⟨_, rfl, by decide, by decide⟩
      · exact ⟨_, rfl, by decide, by decide⟩
      · exact ⟨_, rfl, by decide, by decide⟩, 0, none, none, none, rfl⟩ (by
    clear hL
    rintro e ds ρ ⟨hg, f, x3, x4, x5, rfl⟩
    obtain ⟨g, rfl, g0, g1⟩ := hg e (List.mem_cons_self ..)
    simp [g0]
    generalize hL : loop _ _ _ _ = L
    obtain ⟨ρ', rfl, _, b, x5, b0, b1, rfl⟩ := loop_nx hL (fun ds ρ => (∀ x ∈ ds, ∃ g : Int, x = .int g) ∧ ∃ (b : Int) (x5 : Option Sl), 0 ≤ b ∧ b < g ∧ ρ = [some (Sl.dr { large := d.large, rest := d.rest, cells := d.cells, turn := d.turn + 1 }), some (Sl.fz (D.int (d.turn + 1))), some (Sl.fz (D.int f)), some (Sl.fz (D.int g)), some (Sl.fz (D.int b)), x5, none, none]) ⟨by
        intro x hx
        obtain ⟨n, _, rfl⟩ := List.mem_map.mp hx
        exact ⟨n, rfl⟩, _, x5, Int.emod_nonneg _ (by omega), Int.emod_lt_of_pos _ g0, rfl⟩ (by
      clear hL
      rintro e ds ρ ⟨hc, b, x5, b0, b1, rfl⟩
      obtain ⟨c, rfl⟩ := hc e (List.mem_cons_self ..)
      simp [g0]
      exact ⟨fun x hx => hc x (List.mem_cons_of_mem _ hx), Int.emod_nonneg _ (by omega), Int.emod_lt_of_pos _ g0⟩)
    have hb : b.natAbs < 2 ^ 64 := by omega
    simp [g0, hb]
    exact fun x hx => hg x (List.mem_cons_of_mem _ hx))
  simp
theorem take_ok (d : Dr) (n : Int) (h : 0 < n) (hs : n.natAbs.log2 < 9000) : ∃ r d', F_law_take d [.int n] = some (.int r, d') ∧ 0 ≤ r ∧ r < n := by
  unfold F_law_take runD b_law_take startD
  have key : ∀ d1 : Dr, 0 ≤ d1.rest % n ∧ d1.rest % n < n := fun d1 => ⟨Int.emod_nonneg _ (by omega), Int.emod_lt_of_pos _ h⟩
  simp
  by_cases z : d.rest = 0
  · cases q : d.large with
    | nil =>
      obtain ⟨r, d', e⟩ := mixed_ok d
      simp [z, q, e, h, hs, Int.emod_nonneg _ (show n ≠ 0 by omega), Int.emod_lt_of_pos _ h]
    | cons m r => simp [z, q, h, hs, Int.emod_nonneg _ (show n ≠ 0 by omega), Int.emod_lt_of_pos _ h]
  · simp [z, h, hs, Int.emod_nonneg _ (show n ≠ 0 by omega), Int.emod_lt_of_pos _ h]
end TP.K02
set_option Elab.async false
set_option linter.all false
set_option maxRecDepth 100000
set_option maxHeartbeats 1001234
namespace TP.K02
open PySem L2 PyProof.Rows PySem.Spec LamX TP
theorem small (n : Nat) (h : n < 2 ^ 64) : (n : Int).natAbs.log2 < 9000 := by simpa using l2_9000 h
theorem pick_lst (d : Dr) (ds : List D) (h : 0 < ds.length) (hz : ds.length < 2 ^ 64) : ∃ x d', F_law_pick d [.lst ds] = some (x, d') ∧ x ∈ ds := by
  obtain ⟨r, d', e, h0, h1⟩ := take_ok d ds.length (by omega) (small _ hz)
  obtain ⟨x, ex, hx⟩ := atI_mem (xs := ds) h0 h1
  refine ⟨x, d', ?_, hx⟩
  unfold F_law_pick runD b_law_pick startD
  simp [e, ex]
theorem shuf_ok (d : Dr) (ns : List Int) (hz : ns.length < 100) : ∃ (ms : List Int) (d' : Dr), F_law_shuffled d [.lst (ns.map D.int)] = some (.lst (ms.map D.int), d') ∧ ms.Perm ns := by
  unfold F_law_shuffled runD b_law_shuffled startD
  simp
  generalize hL : whileN _ _ _ _ = L
  obtain ⟨ρ', rfl, d', ms, rfl, hp⟩ := while_p hL (fun m ρ => ∃ (d' : Dr) (left found : List Int), ρ = [some (.dr d'), some (.fz (.lst (ns.map D.int))), some (.ml (left.map D.int)), some (.ml (found.map D.int)), none, none] ∧ (left ++ found).Perm ns ∧ left.length = m)
    (fun ρ => ∃ (d' : Dr) (found : List Int), ρ = [some (.dr d'), some (.fz (.lst (ns.map D.int))), some (.ml []), some (.ml (found.map D.int)), none, none] ∧ found.Perm ns) hz ⟨d, ns, [], rfl, by simp, rfl⟩ (by
    clear hL
    rintro m ρ ⟨d1, left, found, rfl, hp, hm⟩
    by_cases z : left = []
    · subst z
      refine .inl ⟨by simp, d1, found, rfl, by simpa using hp⟩
    · refine .inr ⟨by simp [z], ?_⟩
      have hl : left.length ≤ ns.length := by have := hp.length_eq; simp at this; omega
      have h0 : 0 < left.length := List.length_pos_iff.mpr z
      obtain ⟨r, d2, e, r0, r1⟩ := take_ok d1 left.length (by omega) (small _ (by omega))
      have hr : r.toNat < left.length := by omega
      have hf : found.length ≤ ns.length := by have := hp.length_eq; simp at this; omega
      have hx : left[r.toNat]? = some left[r.toNat] := List.getElem?_eq_getElem hr
      have b1 : r.natAbs < 9223372036854775808 := by omega
      have b2 : found.length < 16777216 := by omega
      simp [e, ixN_nat r0 r1, hx, b1, b2]
      refine ⟨left.length - 1, by omega, d2, left.eraseIdx r.toNat, found ++ [left[r.toNat]], ⟨rfl, erase_map _ _ _, by simp⟩, ?_, ?_⟩
      · refine List.Perm.trans ?_ hp
        have q := erase_perm left r.toNat hr
        refine List.Perm.trans (List.Perm.append_left _ (List.perm_append_comm)) ?_
        rw [← List.append_assoc]
        refine List.Perm.append_right _ ?_
        exact (List.perm_append_comm).trans q
      · rw [List.length_eraseIdx_of_lt hr])
  exact ⟨ms, ⟨d', by simp⟩, hp⟩
theorem row_ok (d : Dr) (m : Int) (hm : 0 < m) (hz : m ≤ 40) : ∃ (k : Nat) (ms : List Int) (d' : Dr), F_law_row d [.int m] = some (.tup (ms.map D.int), d') ∧ (k : Int) < m ∧ ms.Perm (rgI (2 + 2 * k)) := by
  obtain ⟨r, d1, e, h0, h1⟩ := take_ok d m hm (l2_9000 (by omega))
  obtain ⟨k, rfl⟩ : ∃ k : Nat, r = (k : Int) := ⟨r.toNat, by omega⟩
  obtain ⟨ms, d2, e2, hp⟩ := shuf_ok d1 (rgI (2 + 2 * k)) (by simp; omega)
  refine ⟨k, ms, d2, ?_, h1, hp⟩
  unfold F_law_row runD b_law_row startD
  have b1 : ((2 : Int) + 2 * k).natAbs ≤ 16777216 := by omega
  have b2 : ((2 : Int) + 2 * k).toNat = 2 + 2 * k := by omega
  simp [e, b1, b2, e2]
end TP.K02
set_option Elab.async false
set_option linter.all false
set_option maxRecDepth 100000
set_option maxHeartbeats 1001234
namespace TP.K02
open PySem L2 PyProof.Rows PySem.Spec LamX TP
/-- kinds that are asked here -/
def std : D → Bool
  | .non => true
  | .bl _ => true
  | .int _ => true
  | .str _ => true
  | .tup _ => true
  | .lst _ => true
  | .dic _ => true
  | _ => false
def isI : D → Bool
  | .int _ => true
  | _ => false
theorem num_ok (d : D) (h : std d = true) : F_is_number [d] = .ok (.bl (isI d)) := by
  cases d <;> first | rfl | cases h
def betw (d : D) (a b : Int) : Bool := match d with
  | .int i => decide (a ≤ i) && decide (i ≤ b)
  | _ => false
theorem betw_ok (d : D) (a b : Int) (h : std d = true) : F_is_between [d, .int a, .int b] = .ok (.bl (betw d a b)) := by
  have e := num_ok d h
  unfold F_is_between run b_is_between
  cases q : isI d with
  | true =>
    cases d <;> first | (cases q; done) | skip
    rename_i i
    rw [q] at e
    by_cases z : a ≤ i <;> simp [e, betw, z]
  | false =>
    rw [q] at e
    have : betw d a b = false := by cases d <;> first | rfl | cases q
    simp [e, this]
def isSeq : D → Bool
  | .lst _ => true
  | .tup _ => true
  | _ => false
theorem list_ok (d : D) (h : std d = true) : F_is_list [d] = .ok (.bl (isSeq d)) := by
  cases d <;> first | rfl | cases h
theorem bls_map (f : D → Bool) : ∀ ds : List D, D.bls (ds.map fun d => D.bl (f d)) = some (ds.map f)
  | [] => rfl
  | d :: r => by
    show (D.bls (r.map fun d => D.bl (f d))).map (f d :: ·) = _
    rw [bls_map f r]; rfl
theorem ints_all : ∀ ds : List D, (∀ d ∈ ds, isI d = true) → ∃ ns : List Int, ds = ns.map D.int
  | [], _ => ⟨[], rfl⟩
  | d :: r, h => by
    obtain ⟨ns, e⟩ := ints_all r fun x hx => h x (List.mem_cons_of_mem _ hx)
    have hd := h d (List.mem_cons_self ..)
    cases d <;> first | cases hd | skip
    rename_i i
    exact ⟨i :: ns, by rw [e]; rfl⟩
theorem ints_none : ∀ ds : List D, (∃ d ∈ ds, isI d = false) → D.ints ds = none
  | [], h => by obtain ⟨d, h, _⟩ := h; cases h
  | d :: r, h => by
    cases d with
    | int i =>
      obtain ⟨x, hx, hi⟩ := h
      rcases List.mem_cons.mp hx with z | hx
      · subst z; cases hi
      · show (D.ints r).map _ = none
        rw [ints_none r ⟨x, hx, hi⟩]; rfl
    | _ => rfl
/-- a row of ends, by what it holds -/
def rowB (ds : List D) : Bool := (decide (2 ≤ ds.length) && decide (ds.length ≤ 12) && decide (ds.length % 2 = 0)) && (match D.ints ds with
  | some ns => decide (isort ns = rgI ds.length)
  | none => false)
theorem isort_mem {ns : List Int} {n : Nat} (h : isort ns = rgI n) : ∀ x ∈ ns, 0 ≤ x ∧ x < n := fun x hx => by
  have hp := (isort_perm ns).symm
  rw [h] at hp
  have := hp.mem_iff.mp hx
  unfold rgI at this
  obtain ⟨i, hi, rfl⟩ := List.mem_map.mp this
  have := List.mem_range.mp hi
  omega
theorem seq_ok (thing : D) (ds : List D) (ht : thing = .lst ds ∨ thing = .tup ds) (hs : ∀ d ∈ ds, std d = true) (hz : ds.length ≤ 1000) :
    F_is_sequence [thing, .int ds.length] = .ok (.bl (match D.ints ds with
      | some ns => decide (isort ns = rgI ds.length)
      | none => false)) := by
  unfold F_is_sequence run b_is_sequence
  have hl : F_is_list [thing] = .ok (.bl true) := by
    rw [list_ok thing (by rcases ht with rfl | rfl <;> rfl)]
    rcases ht with rfl | rfl <;> rfl
  have hlen : bLen thing = .ok (.int ds.length) := by rcases ht with rfl | rfl <;> rfl
  have hit : D.items thing = .ok ds := by rcases ht with rfl | rfl <;> rfl
  have e := comp_map (v := 2) (ef := mE (dCall F_is_between (dCons (dVar 2) (dCons (dC (.int 0)) (dCons (d2 opSub (dVar 1) (dC (.int 1))) dNil))))) (fun d => .bl (betw d 0 ((ds.length : Int) - 1)))
    (ρ := [some (.fz thing), some (.fz (.int ds.length)), none]) rfl ds (fun d hd => by simp [betw_ok d _ _ (hs d hd)])
  have ef : fComp [2] (fItems (mE (dVar 0))) (asgN 2) (fun ρ => .ok true ρ) (mE (dCall F_is_between (dCons (dVar 2) (dCons (dC (.int 0)) (dCons (d2 opSub (dVar 1) (dC (.int 1))) dNil))))) [some (.fz thing), some (.fz (.int ds.length)), none]
      = .ok (ds.map fun d => .bl (betw d 0 ((ds.length : Int) - 1))) [some (.fz thing), some (.fz (.int ds.length)), none] := by
    unfold fComp
    simp only [run_fItems, run_mE, run_dVar, List.getElem?_cons_zero, toM_ok, lift_ok, hit, bindM_ok]
    rw [if_pos ⟨by rw [szl]; omega, rfl⟩, e]
  have ba : bAll (.lst (ds.map fun d => .bl (betw d 0 ((ds.length : Int) - 1)))) = .ok (.bl (ds.all fun d => betw d 0 ((ds.length : Int) - 1))) := by
    unfold bAll
    simp only [bls_map]
    simp
  generalize hA : (ds.all fun d => betw d 0 ((ds.length : Int) - 1)) = A at ba
  cases A with
  | true =>
    obtain ⟨ns, rfl⟩ := ints_all ds fun d hd => by
      have := List.all_eq_true.mp hA d hd
      cases d <;> first | rfl | cases this
    have hb : bSort thing = .ok ((isort ns).map D.int) := by
      rcases ht with rfl | rfl <;> (unfold bSort; simp only [ints_map])
    have n1 : ns.length ≤ 16777216 := by simp at hz; omega
    simp only [List.length_map] at hlen ef ba ⊢
    simp [hl, hlen, ef, ba, hb, ints_map, n1, -List.map_map]
  | false =>
    have e2 : (match D.ints ds with
      | some ns => decide (isort ns = rgI ds.length)
      | none => false) = false := by
      split
      · rename_i ns en
        rw [decide_eq_false_iff_not]
        intro h
        have := ints_some en
        subst this
        rw [← Bool.not_eq_true] at hA
        refine hA (List.all_eq_true.mpr fun d hd => ?_)
        obtain ⟨x, hx, rfl⟩ := List.mem_map.mp hd
        obtain ⟨h0, h1⟩ := isort_mem h x hx
        simp [betw] at h0 h1 ⊢
        omega
      · rfl
    rw [e2]
    simp [hl, hlen, ef, ba]
end TP.K02
set_option Elab.async false
set_option linter.all false
set_option maxRecDepth 100000
set_option maxHeartbeats 1001234
namespace TP.K02
open PySem L2 PyProof.Rows PySem.Spec LamX TP
/-- a thing that is a row -/
def rowT : D → Bool
  | .lst ds => rowB ds
  | .tup ds => rowB ds
  | _ => false
/-- what may stand in a list or tuple here -/
def okT : D → Prop
  | .lst ds => (∀ d ∈ ds, std d = true) ∧ ds.length ≤ 1000
  | .tup ds => (∀ d ∈ ds, std d = true) ∧ ds.length ≤ 1000
  | d => std d = true
theorem okT_std {d : D} (h : okT d) : std d = true := by
  cases d <;> first | rfl | exact h
theorem row_seq (thing : D) (ds : List D) (ht : thing = .lst ds ∨ thing = .tup ds) (hs : ∀ d ∈ ds, std d = true) (hz : ds.length ≤ 1000) : F_is_row [thing] = .ok (.bl (rowB ds)) := by
  have hl : F_is_list [thing] = .ok (.bl true) := by
    rw [list_ok thing (by rcases ht with rfl | rfl <;> rfl)]
    rcases ht with rfl | rfl <;> rfl
  have hlen : bLen thing = .ok (.int ds.length) := by rcases ht with rfl | rfl <;> rfl
  have hq := seq_ok thing ds ht hs hz
  unfold F_is_row run b_is_row rowB
  by_cases a1 : 2 ≤ ds.length
  · have a1' : (2 : Int) ≤ ds.length := by omega
    by_cases a2 : ds.length ≤ 12
    · have a2' : (ds.length : Int) ≤ 12 := by omega
      by_cases a3 : ds.length % 2 = 0
      · have a3' : ¬ (ds.length : Int) % 2 = 1 := by omega
        simp [hl, hlen, hq, a1, a2, a3, a1', a2', a3']
      · have a3' : (ds.length : Int) % 2 = 1 := by omega
        simp [hl, hlen, a1, a2, a3, a1', a2', a3']
    · have a2' : ¬ (ds.length : Int) ≤ 12 := by omega
      simp [hl, hlen, a1, a2, a1', a2']
  · have a1' : ¬ (2 : Int) ≤ ds.length := by omega
    simp [hl, hlen, a1, a1']
theorem is_row_ok (d : D) (h : okT d) : F_is_row [d] = .ok (.bl (rowT d)) := by
  cases d with
  | lst ds => exact row_seq _ ds (.inl rfl) h.1 h.2
  | tup ds => exact row_seq _ ds (.inr rfl) h.1 h.2
  | _ =>
    have hl := list_ok _ (okT_std h)
    simp only [isSeq] at hl
    unfold F_is_row run b_is_row
    simp [hl, rowT]
/-- turned to 0 -/
def turn0 (ns : List Int) : List Int := match ns.findIdx? (· == 0) with
  | some j => ns.drop j ++ ns.take j
  | none => ns
theorem turn0_len (ns : List Int) : (turn0 ns).length = ns.length := by
  unfold turn0
  split
  · simp; omega
  · rfl
theorem turn_new (thing : D) (ns : List Int) (ht : thing = .lst (ns.map D.int) ∨ thing = .tup (ns.map D.int)) (h0 : (0 : Int) ∈ ns) (hz : ns.length ≤ 1000) (hr : rowT thing = true) (ho : okT thing) :
    F_Skin___init__ [thing] = .ok [("row", .tup ((turn0 ns).map D.int)), ("bands", .int ((ns.length : Int) / 2))] := by
  obtain ⟨j, e, lt, _⟩ := idx_some h0
  have hb : bList thing = .ok (ns.map D.int) := by rcases ht with rfl | rfl <;> rfl
  have hlen : bLen thing = .ok (.int ns.length) := by rcases ht with rfl | rfl <;> simp
  have s1 : (opSl thing (some (j : Int)) none).bind bTuple = .ok (.tup ((ns.drop j).map D.int)) := by
    rcases ht with rfl | rfl <;> simp [cutL_from, List.map_drop]
  have s2 : (opSl thing none (some (j : Int))).bind bTuple = .ok (.tup ((ns.take j).map D.int)) := by
    rcases ht with rfl | rfl <;> simp [cutL_to, List.map_take]
  have hl : ns.length - j + min j ns.length ≤ 16777216 := by omega
  have hir := is_row_ok thing ho
  rw [hr] at hir
  unfold F_Skin___init__ runI b_Skin___init__ startI turn0
  have ne : ¬ (("row" : Str) = "bands") := by decide
  simp [hir, hb, hlen, idxR_ok e, e, s1, s2, hl, sFldD, putD, miOf, ne]
theorem turn_bad (thing : D) (hr : rowT thing = false) (ho : okT thing) : F_Skin___init__ [thing] = .raise ⟨"BadSkin", [("part", .str "row")]⟩ := by
  have hir := is_row_ok thing ho
  rw [hr] at hir
  unfold F_Skin___init__ runI b_Skin___init__ startI
  simp [hir]
/-- the skin of a row -/
def skinO (ns : List Int) : D := .obj "Skin" [("row", .tup ((turn0 ns).map D.int)), ("bands", .int ((ns.length : Int) / 2))]
theorem fld_row (ns : List Int) : fldD "Skin" "row" (skinO ns) = .ok (.tup ((turn0 ns).map D.int)) := by rfl
theorem fld_bands (ns : List Int) : fldD "Skin" "bands" (skinO ns) = .ok (.int ((ns.length : Int) / 2)) := by rfl
theorem isi_skin (ns : List Int) : isiD os xs ks sub_Skin (skinO ns) = .ok (.bl true) := by rfl
theorem isi_noskin (d : D) (h : std d = true) : isiD os xs ks sub_Skin d = .ok (.bl false) := by
  cases d <;> first | rfl | cases h
theorem rgI_mem {n : Nat} {x : Int} : x ∈ rgI n ↔ 0 ≤ x ∧ x < n := by
  unfold rgI
  rw [List.mem_map]
  constructor
  · rintro ⟨i, hi, rfl⟩
    have := List.mem_range.mp hi
    omega
  · rintro ⟨h0, h1⟩
    exact ⟨x.toNat, List.mem_range.mpr (by omega), by omega⟩
theorem isort_id {n : Nat} : isort (rgI n) = rgI n := by
  refine sorted_unique (isort_perm _) (isort_sorted _) ?_
  unfold rgI
  rw [List.pairwise_map]
  exact List.Pairwise.imp (fun h => by omega) List.pairwise_lt_range
theorem isort_of_perm {ns : List Int} {n : Nat} (h : ns.Perm (rgI n)) : isort ns = rgI n := by
  have s : (rgI n).Pairwise (· ≤ ·) := by
    unfold rgI
    rw [List.pairwise_map]
    exact List.Pairwise.imp (fun h => by omega) List.pairwise_lt_range
  exact sorted_unique ((isort_perm ns).trans h) (isort_sorted ns) s
theorem rgI_nodup (n : Nat) : (rgI n).Nodup := by
  unfold rgI
  have h : (List.range n).Pairwise (· < ·) := List.pairwise_lt_range
  rw [List.Nodup, List.pairwise_map]
  exact List.Pairwise.imp (fun h => by omega) h
theorem turn0_perm (ns : List Int) : (turn0 ns).Perm ns := by
  unfold turn0
  split
  · rename_i j _
    exact List.perm_append_comm.trans (by rw [List.take_append_drop])
  · exact .refl _
theorem noLs_ints : ∀ ns : List Int, noLs (ns.map D.int) = true
  | [] => rfl
  | n :: r => by
    show (true && noLs (r.map D.int)) = true
    rw [noLs_ints r]; rfl
theorem rowT_of {ns : List Int} {n : Nat} (hp : ns.Perm (rgI n)) (h2 : 2 ≤ n) (h12 : n ≤ 12) (he : n % 2 = 0) : rowB (ns.map D.int) = true := by
  have hl : ns.length = n := by have := hp.length_eq; simpa using this
  unfold rowB
  rw [ints_map]
  simp [hl, h2, h12, he, isort_of_perm hp]
theorem okI (ns : List Int) (h : ns.length ≤ 1000) : okT (.lst (ns.map D.int)) ∧ okT (.tup (ns.map D.int)) := by
  have : ∀ d ∈ ns.map D.int, std d = true := fun d hd => by
    obtain ⟨n, _, rfl⟩ := List.mem_map.mp hd
    rfl
  exact ⟨⟨this, by simpa using h⟩, ⟨this, by simpa using h⟩⟩
@[simp] theorem opEqB_bl {neg a b : Bool} : opEqB neg (.bl a) (.bl b) = .ok (.bl (neg ^^ (a == b))) := by
  rw [opEqB_py (x := .bool a) (y := .bool b) rfl rfl (by simp [PyData.depth])]
  simp [PyData.eqv]
end TP.K02
set_option Elab.async false
set_option linter.all false
set_option maxRecDepth 100000
set_option maxHeartbeats 4001234
namespace TP.K02
open PySem L2 PyProof.Rows PySem.Spec LamX TP
theorem mate_ok (l : Int) : F_law_mate [.int l] = .ok (.int (mate l)) := by
  refine run_rt rfl ?_
  rw [b_law_mate]
  unfold mate
  by_cases z : l % 2 = 0 <;> simp [z]
/-- letters of a skin -/
def Let (n : Nat) (ws : List Int) : Prop := ∀ l ∈ ws, 0 ≤ l ∧ l < (n : Int)
end TP.K02
set_option Elab.async false
set_option linter.all false
set_option maxRecDepth 100000
set_option maxHeartbeats 4001234
namespace TP.K02
open PySem L2 PyProof.Rows PySem.Spec LamX TP
theorem runD_rt {N n : Nat} {b : S → M Fl} {d d' : Dr} {ds : List D} {e : D} {ρ : S} (hn : ds.length + 1 = n) (h : b (startD N n d ds) = .ok (.rt e) ρ) (hd : drOf ρ = some d') : runD N n b d ds = some (e, d') := by
  unfold runD
  rw [if_pos hn, h]
  simp [hd]
theorem runN_rn {N n : Nat} {b : S → M Fl} {ds : List D} {es : List D} {ρ : S} (hn : ds.length = n) (h : b (ds.map (fun d => some (.fz d)) ++ List.replicate (N - n) none) = .ok (.rn es) ρ) : runN N n b ds = .ok es := by
  unfold runN
  rw [if_pos hn, h]
theorem runN_raise {N n : Nat} {b : S → M Fl} {ds : List D} {e : Exn} {ρ : S} (hn : ds.length = n) (h : b (ds.map (fun d => some (.fz d)) ++ List.replicate (N - n) none) = .raise e ρ) : runN N n b ds = .raise e := by
  unfold runN
  rw [if_pos hn, h]
theorem need_skin_ok (ns : List Int) : F_need_skin [skinO ns] = .ok .non := by
  unfold F_need_skin run b_need_skin
  simp [isi_skin]
theorem need_skin_no (d : D) (h : std d = true) : F_need_skin [d] = .raise ⟨"BadSkin", [("part", .non)]⟩ := by
  unfold F_need_skin run b_need_skin
  simp [isi_noskin d h]
/-! ### least turns -/
def tupD (w : List Int) : D := .tup (w.map D.int)
theorem rots_at (fi : S → M (List D)) (w : List Int) (hz : w.length ≤ 1000) (hfi : fi [some (.fz (.tup (w.map D.int))), none] = .ok ((rgI (max 1 w.length)).map D.int) [some (.fz (.tup (w.map D.int))), none]) :
    fComp [1] fi (asgN 1) (fun ρ => .ok true ρ) (mE (d2 opAdd (dSl (dVar 0) (oSome (dVar 1)) oNone) (dSl (dVar 0) oNone (oSome (dVar 1))))) [some (.fz (.tup (w.map D.int))), none] = .ok ((rots w).map tupD) [some (.fz (.tup (w.map D.int))), none] := by
  have e := comp_map (v := 1) (ef := mE (d2 opAdd (dSl (dVar 0) (oSome (dVar 1)) oNone) (dSl (dVar 0) oNone (oSome (dVar 1))))) (fun d => match d with | .int i => tupD (w.drop i.toNat ++ w.take i.toNat) | _ => .non) (ρ := [some (.fz (.tup (w.map D.int))), none]) rfl ((rgI (max 1 w.length)).map D.int) (fun d hd => by
    obtain ⟨i, hi, rfl⟩ := List.mem_map.mp hd
    have := rgI_mem.mp hi
    obtain ⟨k, rfl⟩ : ∃ k : Nat, i = (k : Int) := ⟨i.toNat, by omega⟩
    have b1 : w.length - k + min k w.length ≤ 16777216 := by omega
    simp [cutL_from, cutL_to, b1, tupD])
  unfold fComp
  rw [hfi]
  simp only [bindM_ok]
  rw [if_pos ⟨by rw [szl]; simp; omega, rfl⟩, e]
  refine congrArg (fun z => M.ok z _) ?_
  unfold rots rgI
  rw [List.map_map, List.map_map, List.map_map]
  rfl
theorem minT_rots (w : List Int) : bMinT (.lst ((rots w).map tupD)) = .ok (tupD (leastT w)) := by
  unfold bMinT
  have e : tupIs ((rots w).map tupD) = some (rots w) := tupIs_map (rots w)
  simp only [e]
  cases q : rots w with
  | nil => have := self_rots w; rw [q] at this; cases this
  | cons a as =>
    simp only
    rw [leastT_of (w := w) (fun x => by rw [← q]; exact mem_rots)]
    rfl
theorem least_ok (w : List Int) (hz : w.length ≤ 1000) : F_least_turn [.tup (w.map D.int)] = .ok (tupD (leastT w)) := by
  refine run_rt rfl ?_
  rw [b_least_turn]
  have hm : bMax2 [.int 1, .int w.length] = .ok (.int ((max 1 w.length : Nat) : Int)) := by
    show R.ok (D.int (if (w.length : Int) > 1 then (w.length : Int) else 1)) = _
    by_cases z : (w.length : Int) > 1
    · rw [if_pos z, Nat.max_eq_right (by omega)]
    · rw [if_neg z, Nat.max_eq_left (by omega)]; rfl
  have hrg := range1_nat (n := max 1 w.length) (by omega)
  have e := rots_at (fMapA toRange1 (mCons (mA bMax2 (mCons (mE (dC (.int 1))) (mCons (mE (d1 bLen (dVar 0))) mNil))) mNil)) w hz (by simp [hm, hrg, -range1_int])
  simp [e, minT_rots]
theorem lleast_ok (w : List Int) (hz : w.length ≤ 1000) (hw : w ≠ []) : F_law_least_turn [.tup (w.map D.int)] = .ok (tupD (leastT w)) := by
  refine run_rt rfl ?_
  rw [b_law_least_turn]
  have hp : 0 < w.length := List.length_pos_iff.mpr hw
  have hm : max 1 w.length = w.length := Nat.max_eq_right hp
  have hrg := range1_nat (n := w.length) (by omega)
  have e := rots_at (fMapA toRange1 (mCons (mE (d1 bLen (dVar 0))) mNil)) w hz (by simp [hm, hrg, -range1_int])
  simp [e, minT_rots]
/-! ### rims -/
theorem end_behind_ok {w : List Int} (hz : w.length ≤ 1000) {e : Int} (he : e ∈ w) (h : w.Nodup) : F_end_behind [.tup (w.map D.int), .int e] = .ok (.int (nxt w e)) := by
  refine run_rt rfl ?_
  rw [b_end_behind]
  obtain ⟨j, hj⟩ := List.getElem?_of_mem he
  have lj := (List.getElem?_eq_some_iff.mp hj).1
  have e1 := idx_nd h hj
  have e2 := nxt_at h hj
  have lt : (j + 1) % w.length < w.length := Nat.mod_lt _ (by omega)
  have hl : (0 : Int) < w.length := by omega
  have hm : (((j : Int) + 1) % (w.length : Int)) = (((j + 1) % w.length : Nat) : Int) := by simp
  have ha : atI (w.map D.int) (((j + 1) % w.length : Nat) : Int) = some (.int (nxt w e)) := by
    rw [atI_nat (by omega) (by rw [List.length_map]; exact Int.ofNat_lt.mpr lt), List.getElem?_map]
    simp only [Int.toNat_natCast]
    rw [e2]; rfl
  have hl0 : 0 < w.length := by omega
  simp [idxR_ok e1, hl0, hm, ha, -Int.natCast_emod]
theorem sortT_ok (cs : List (List Int)) (h : ∀ c ∈ cs, c ≠ []) (hz : cs.length ≤ 1000) : bSortT (.lst ((cs.map leastT).map tupD)) = .ok ((sortL (cs.map leastT)).map tupD) := by
  unfold bSortT
  have e : tupIs ((cs.map leastT).map tupD) = some (cs.map leastT) := tupIs_map _
  simp only [e]
  rw [if_pos]
  · rfl
  · refine ⟨List.all_eq_true.mpr fun a ha => decide_eq_true ?_, by rw [List.length_map, szl]; omega⟩
    obtain ⟨c, hc, rfl⟩ := List.mem_map.mp ha
    intro z
    obtain ⟨x, y, e1, e2⟩ := leastT_rot c
    rw [z] at e2
    have := List.append_eq_nil_iff.mp e2.symm
    rw [this.1, this.2] at e1
    exact h c hc e1
/-- cycles told so far -/
structure Part (f : Int → Int) (w : List Int) (cs : List (List Int)) : Prop where
  cyc : ∀ c ∈ cs, IsCyc f c
  nd : cs.flatten.Nodup
  sub : ∀ x ∈ cs.flatten, x ∈ w
theorem Part.back {f : Int → Int} {w : List Int} {cs : List (List Int)} (h : Part f w cs) (p : Pm f w) {x : Int} (hx : x ∈ w) : f x ∈ cs.flatten ↔ x ∈ cs.flatten := by
  constructor
  · intro hf
    obtain ⟨c, hc, hfc⟩ := List.mem_flatten.mp hf
    obtain ⟨i, hi⟩ := List.getElem?_of_mem hfc
    have li := (List.getElem?_eq_some_iff.mp hi).1
    have lt : (i + c.length - 1) % c.length < c.length := Nat.mod_lt _ (by omega)
    have e := (h.cyc c hc).2.2 _ _ (List.getElem?_eq_getElem lt)
    rw [Nat.mod_add_mod, show i + c.length - 1 + 1 = i + c.length by omega, Nat.add_mod_right, Nat.mod_eq_of_lt li, hi] at e
    have e := Option.some.inj e
    have hm : c[(i + c.length - 1) % c.length] ∈ c := List.getElem_mem lt
    have := p.inj x hx _ (h.sub _ (List.mem_flatten.mpr ⟨c, hc, hm⟩)) e
    rw [this]
    exact List.mem_flatten.mpr ⟨c, hc, hm⟩
  · intro hx
    obtain ⟨c, hc, hxc⟩ := List.mem_flatten.mp hx
    obtain ⟨i, hi⟩ := List.getElem?_of_mem hxc
    exact List.mem_flatten.mpr ⟨c, hc, List.mem_of_getElem? ((h.cyc c hc).2.2 i x hi)⟩
theorem Part.it {f : Int → Int} {w : List Int} {cs : List (List Int)} (h : Part f w cs) (p : Pm f w) {x : Int} (hx : x ∈ w) : ∀ k, it f k x ∈ cs.flatten ↔ x ∈ cs.flatten
  | 0 => Iff.rfl
  | k + 1 => (h.back p (p.it hx k)).trans (h.it p hx k)
theorem Part.cons {f : Int → Int} {w : List Int} {cs : List (List Int)} {c : List Int} (h : Part f w cs) (hc : IsCyc f c) (nd : (cs.flatten ++ c).Nodup) (hs : ∀ x ∈ c, x ∈ w) : Part f w (cs ++ [c]) :=
  ⟨fun d hd => (List.mem_append.mp hd).elim (h.cyc d) fun hd => by rw [List.mem_singleton.mp hd]; exact hc, by simpa using nd, fun x hx => by
    rw [List.flatten_append, List.mem_append] at hx
    rcases hx with hx | hx
    · exact h.sub x hx
    · exact hs x (by simpa using hx)⟩
theorem Part.cycs {f : Int → Int} {w : List Int} {cs : List (List Int)} (h : Part f w cs) (ha : ∀ x ∈ w, x ∈ cs.flatten) : Cycs f w cs := by
  refine ⟨h.cyc, fun c hc x hx => h.sub x (List.mem_flatten.mpr ⟨c, hc, hx⟩), ?_, fun x hx => by
    obtain ⟨c, hc, hxc⟩ := List.mem_flatten.mp (ha x hx)
    exact ⟨c, hc, hxc⟩⟩
  have := h.nd
  rw [List.Nodup, List.pairwise_flatten] at this
  exact this.2.imp fun q x hx hx2 => q x hx x hx2 rfl
theorem Part.len {f : Int → Int} {w : List Int} {cs : List (List Int)} (h : Part f w cs) : cs.length ≤ cs.flatten.length := by
  have : ∀ l : List (List Int), (∀ c ∈ l, c ≠ []) → l.length ≤ l.flatten.length := by
    intro l
    induction l with
    | nil => intro _; simp
    | cons a l ih =>
      intro q
      have := ih fun c m => q c (List.mem_cons_of_mem _ m)
      have := List.length_pos_iff.mpr (q a (List.mem_cons_self ..))
      simp only [List.flatten_cons, List.length_append, List.length_cons]
      omega
  exact this cs fun c hc => (h.cyc c hc).1
def InvR (ns w : List Int) (ds : List D) (ρ : S) : Prop := ∃ (vs : List Int) (cs : List (List Int)) (fs : List D) (M : List Int) (x3 x4 x5 : Option Sl), ds = vs.map D.int ∧ fs = (cs.map leastT).map tupD ∧ M = cs.flatten ∧ Part (fB w) w cs ∧ (∀ x ∈ w, x ∈ vs ∨ x ∈ M) ∧ (∀ v ∈ vs, v ∈ w) ∧
      ρ = [some (.fz (skinO ns)), some (.ml fs), some (.ml (M.map D.int)), x3, x4, x5, none, none]
theorem rims_of_ok (ns : List Int) {n : Nat} (h : Row n (turn0 ns)) : ∃ cs, Cycs (fB (turn0 ns)) (turn0 ns) cs ∧ F_rims_of [skinO ns] = .ok ((sortL (cs.map leastT)).map tupD) := by
  generalize hw : turn0 ns = w at h
  have hlen := h.len
  have hhi := h.hi
  have pm := h.pm
  suffices ∃ cs, Cycs (fB w) w cs ∧ ∃ ρ, b_rims_of [some (.fz (skinO ns)), none, none, none, none, none, none, none] = .ok (.rn ((sortL (cs.map leastT)).map tupD)) ρ by
    obtain ⟨cs, hc, ρ, e⟩ := this
    exact ⟨cs, hc, runN_rn rfl e⟩
  rw [b_rims_of]
  have hf := fld_row ns
  rw [hw] at hf
  simp [hf]
  generalize hL : loop _ _ _ _ = L
  obtain ⟨ρ', rfl, vs, cs, fs, M, x3, x4, x5, ev, efs, eM, hp, hall, hv, rfl⟩ := loop_nx hL (InvR ns w)
    ⟨w, [], [], [], none, none, none, rfl, rfl, rfl, ⟨fun _ m => (by cases m), List.nodup_nil, fun _ m => (by cases m)⟩, fun x hx => .inl hx, fun _ m => m, rfl⟩ (by
    clear hL
    rintro d ds ρ ⟨vs, cs, fs, M, x3, x4, x5, ev, efs, eM, hp, hall, hv, rfl⟩
    cases vs with
    | nil => cases ev
    | cons x vs =>
      cases ev
      have hx := hv x (List.mem_cons_self ..)
      have hfl : fs.length = cs.length := by rw [efs]; simp
      have nd0 := hp.nd
      have sub0 := hp.sub
      have pit := hp.it pm hx
      rw [← eM] at nd0 sub0 pit
      simp
      generalize hL : whileN _ _ _ _ = L
      obtain ⟨ρ', rfl, i, nd, hend, rfl⟩ := while_p hL (fun m ρ => ∃ i, (M ++ goL (fB w) i x).Nodup ∧ i + m = w.length ∧ ρ = [some (.fz (skinO ns)), some (.ml fs), some (.ml ((M ++ goL (fB w) i x).map D.int)), some (.fz (.int x)), some (.ml ((goL (fB w) i x).map D.int)), some (.fz (.int (it (fB w) i x))), none, none])
        (fun ρ => ∃ i, (M ++ goL (fB w) i x).Nodup ∧ it (fB w) i x ∈ M ++ goL (fB w) i x ∧ ρ = [some (.fz (skinO ns)), some (.ml fs), some (.ml ((M ++ goL (fB w) i x).map D.int)), some (.fz (.int x)), some (.ml ((goL (fB w) i x).map D.int)), some (.fz (.int (it (fB w) i x))), none, none])
        (m := w.length) (by omega) ⟨0, by simpa [goL] using nd0, by omega, by simp [goL, it]⟩ (by
        clear hL
        rintro m ρ ⟨i, nd, him, rfl⟩
        by_cases z : it (fB w) i x ∈ M ++ goL (fB w) i x
        · refine .inl ⟨?_, i, nd, z, rfl⟩
          simp only [run_mT, run_dT, run_d2, run_dVar, run_dVarB, List.getElem?_cons_succ, List.getElem?_cons_zero, bindR_ok, opIn_ints, asB_bl, toM_ok]
          simp [z]
        · refine .inr ⟨?_, ?_⟩
          · simp only [run_mT, run_dT, run_d2, run_dVar, run_dVarB, List.getElem?_cons_succ, List.getElem?_cons_zero, bindR_ok, opIn_ints, asB_bl, toM_ok]
            simp [z]
          · have hy := pm.it hx i
            have nd2 : (M ++ goL (fB w) (i + 1) x).Nodup := by
              rw [goL_succ, ← List.append_assoc, List.nodup_append]
              exact ⟨nd, by simp, fun a ha b hb e => by
                rw [List.mem_singleton.mp hb] at e
                exact z (e ▸ ha)⟩
            have hl := nodup_len (xs := w) nd2 fun y hy => by
              rcases List.mem_append.mp
                      hy with hy | hy
              · exact sub0 y hy
              · obtain ⟨j, _, rfl⟩ := goL_mem.mp hy
                exact pm.it hx j
            rw [List.length_append, goL_len] at hl
            have hsm := h.small hy
            have hxm := xor_mate hsm.1 hsm.2
            have hne := end_behind_ok (w := w) (by omega) (h.mate hy) h.nd
            have b1 : M.length + i < 16777216 := by omega
            have b2 : i < 16777216 := by omega
            refine ⟨[some (.fz (skinO ns)), some (.ml fs), some (.ml ((M ++ goL (fB w) (i + 1) x).map D.int)), some (.fz (.int x)), some (.ml ((goL (fB w) (i + 1) x).map D.int)), some (.fz (.int (it (fB w) (i + 1) x))), none, none], ?_, m - 1, by omega, i + 1, nd2, by omega, rfl⟩
            simp [hf, hxm, hne, b1, b2, goL_len, goL_succ, it, fB])
      have fin : (i = 0 ∧ x ∈ M) ∨ (0 < i ∧ IsCyc (fB w) (goL (fB w) i x)) := by
        cases i with
        | zero =>
          left
          refine ⟨rfl, ?_⟩
          simpa [goL, it] using hend
        | succ i =>
          right
          refine ⟨by omega, ?_⟩
          rw [List.nodup_append] at nd
          have nx : x ∉ M := fun z => nd.2.2 x z x (goL_mem.mpr ⟨0, by omega, rfl⟩) rfl
          have hm : it (fB w) (i + 1) x ∈ goL (fB w) (i + 1) x := by
            rcases List.mem_append.mp hend with q₀ | q₀
            · exact absurd ((pit _).mp q₀) nx
            · exact q₀
          exact goL_cyc (by omega) nd.2.1 (go_end pm hx nd.2.1 hm)
      have hv' : ∀ v ∈ vs, v ∈ w := fun v hv2 => hv v (List.mem_cons_of_mem _ hv2)
      rcases fin with ⟨rfl, hin⟩ | ⟨hi, hcyc⟩
      · have e0 : goL (fB w) 0 x = [] := rfl
        refine ⟨[some (.fz (skinO ns)), some (.ml fs), some (.ml (M.map D.int)), some (.fz (.int x)), some (.ml []), some (.fz (.int x)), none, none], by simp [e0, it], vs, cs, fs, M, _, _, _, rfl, efs, eM, hp, fun y hy => ?_, hv', rfl⟩
        rcases hall y hy with q₀ | q₀
        · rcases List.mem_cons.mp q₀ with q₀ | q₀
          · exact .inr (by rw [q₀]; exact hin)
          · exact .inl q₀
        · exact .inr q₀
      · have hne : ¬ goL (fB w) i x = [] := fun z => by have := goL_len (f := fB w) (k := i) (x := x); rw [z] at this; simp at this; omega
        have hgw : ∀ y ∈ goL (fB w) i x, y ∈ w := fun y hy => by
          obtain ⟨j, _, rfl⟩ := goL_mem.mp hy
          exact pm.it hx j
        have hl := nodup_len (xs := w) nd fun y hy => by
          rcases List.mem_append.mp
                  hy with hy | hy
          · exact sub0 y hy
          · exact hgw y hy
        rw [List.length_append, goL_len] at hl
        have hcs := Part.len hp
        rw [← eM] at hcs
        have b1 : fs.length < 16777216 := by omega
        have hlt := least_ok (goL (fB w) i x) (by rw [goL_len]; omega)
        refine ⟨[some (.fz (skinO ns)), some (.ml (fs ++ [tupD (leastT (goL (fB w) i x))])), some (.ml ((M ++ goL (fB w) i x).map D.int)), some (.fz (.int x)), some (.ml ((goL (fB w) i x).map D.int)), some (.fz (.int (it (fB w) i x))), none, none], by simp [hne, hlt, b1],
          vs, cs ++ [goL (fB w) i x], _, M ++ goL (fB w) i x, _, _, _, rfl, by rw [efs]; simp, by rw [eM]; simp, hp.cons hcyc (by rw [← eM]; exact nd) hgw, fun y hy => ?_, hv', rfl⟩
        rcases hall y hy with q₀ | q₀
        · rcases List.mem_cons.mp q₀ with q₀ | q₀
          · right
            rw [List.mem_append, q₀]
            exact .inr (goL_mem.mpr ⟨0, hi, rfl⟩)
          · exact .inl q₀
        · exact .inr (List.mem_append_left _ q₀))
  have : vs = [] := by cases vs with | nil => rfl | cons _ _ => cases ev
  subst this
  subst eM efs
  have hc := hp.cycs fun x hx => (hall x hx).elim (fun q₀ => by cases q₀) id
  refine ⟨cs, hc, ?_⟩
  have hcl : cs.length ≤ 1000 := by
    have := Part.len hp
    have := nodup_len hp.nd hp.sub
    omega
  simp [sortT_ok cs (fun c m => (hp.cyc c m).1) hcl, -List.map_map]
end TP.K02
set_option Elab.async false
set_option linter.all false
set_option maxRecDepth 100000
set_option maxHeartbeats 4001234
namespace TP.K02
open PySem L2 PyProof.Rows PySem.Spec LamX TP
/-! ### the law's walk along the edge, by places -/
def pos (w : List Int) (e : Int) : Int := (((w.findIdx? (· == e)).getD 0 : Nat) : Int)
theorem pos_at {w : List Int} (h : w.Nodup) {j : Nat} {e : Int} (hj : w[j]? = some e) : pos w e = (j : Int) := by
  unfold pos
  rw [idx_nd h hj]; rfl
theorem pos_inj {w : List Int} (h : w.Nodup) {a b : Int} (ha : a ∈ w) (hb : b ∈ w) (e : pos w a = pos w b) : a = b := by
  obtain ⟨j, hj⟩ := List.getElem?_of_mem ha
  obtain ⟨k, hk⟩ := List.getElem?_of_mem hb
  rw [pos_at h hj, pos_at h hk] at e
  have : j = k := by omega
  subst this
  rw [hj] at hk
  exact Option.some.inj hk
theorem pos_all {w : List Int} (h : w.Nodup) : w.map (pos w) = rgI w.length := by
  apply List.ext_getElem?
  intro j
  unfold rgI
  rw [List.getElem?_map,
          List.getElem?_map]
  by_cases lt : j < w.length
  · rw [List.getElem?_range lt, List.getElem?_eq_getElem lt]
    show some (pos w w[j]) = some (j : Int)
    rw [pos_at h (List.getElem?_eq_getElem lt)]
  · rw [List.getElem?_eq_none (by omega), List.getElem?_eq_none (by simp; omega)]; rfl
theorem erase_inj {f : Int → Int} : ∀ {B : List Int} {a : Int}, (∀ x ∈ B, f x = f a → x = a) → (B.map f).erase (f a) = (B.erase a).map f
  | [], _, _ => rfl
  | b :: B, a, h => by
    by_cases z : b = a
    · subst z; simp
    · have z2 : ¬ (f b = f a) := fun e => z (h b (List.mem_cons_self ..) e)
      rw [List.map_cons, List.erase_cons_tail (by simpa using z2), List.erase_cons_tail (by simpa using z), List.map_cons, erase_inj fun x hx => h x (List.mem_cons_of_mem _ hx)]
/-- from an end to the other end of the next arc's band -/
def gL (w : List Int) (a : Int) : Int := mate (nxt w a)
theorem gL_pm {n : Nat} {w : List Int} (h : Row n w) : Pm (gL w) w := ⟨h.nd, fun x hx => h.mate (nxt_mem h.nd hx), fun x hx y hy e => by
  have := congrArg mate e
  unfold gL at this
  rw [mate_mate, mate_mate] at this
  exact nxt_inj h.nd hx hy this⟩
theorem cycs_place {n : Nat} {w : List Int} {cs : List (List Int)} (h : Row n w) (c : Cycs (gL w) w cs) : Cycs (fB w) w (cs.map (·.map (nxt w))) := by
  have a := c.map (g := fB w) (r := nxt w) (fun x hx => rfl) fun x hx y hy e => nxt_inj h.nd hx hy e
  refine a.perm ?_
  refine (List.perm_ext_iff_of_nodup ?_ h.nd).mpr fun x => ?_
  · rw [List.Nodup, List.pairwise_map]
    exact List.Pairwise.imp_of_mem (fun {x y} hx hy ne e => ne (nxt_inj h.nd hx hy e)) h.nd
  · rw [List.mem_map]
    constructor
    · rintro ⟨y, hy, rfl⟩; exact nxt_mem h.nd hy
    · intro hx
      obtain ⟨j₀, hj⟩ := List.getElem?_of_mem hx
      have lj := (List.getElem?_eq_some_iff.mp hj).1
      have lt : (j₀ + w.length - 1) % w.length < w.length := Nat.mod_lt _ (by omega)
      refine ⟨w[(j₀ + w.length - 1) % w.length], List.getElem_mem lt, ?_⟩
      have e := nxt_at h.nd (List.getElem?_eq_getElem lt)
      rw [Nat.mod_add_mod, show j₀ + w.length - 1 + 1 = j₀ + w.length by omega, Nat.add_mod_right, Nat.mod_eq_of_lt lj, hj] at e
      exact (Option.some.inj e).symm
def InvS (w : List Int) (m : Nat) (ρ : S) : Prop := ∃ (A : List Int) (cs : List (List Int)) (fs : List D) (x4 x5 x6 : Option Sl), A.Nodup ∧ (∀ x, x ∈ A ↔ x ∈ w ∧ x ∉ cs.flatten) ∧ Part (gL w) w cs ∧ A.length = m ∧ fs = (cs.map fun c => leastT (c.map (nxt w))).map tupD ∧
  ρ = [some (.fz (.tup (w.map D.int))), some (.fz (.int w.length)), some (.ml ((A.map (pos w)).map D.int)), some (.ml fs), x4, x5, x6, none, none, none]
def EndS (w : List Int) (ρ : S) : Prop := ∃ (cs : List (List Int)) (x2 x4 x5 x6 : Option Sl), Cycs (gL w) w cs ∧ Part (gL w) w cs ∧
  ρ = [some (.fz (.tup (w.map D.int))), some (.fz (.int w.length)), x2, some (.ml ((cs.map fun c => leastT (c.map (nxt w))).map tupD)), x4, x5, x6, none, none, none]
def InvT (w A : List Int) (fs : List D) (x : Int) (m : Nat) (ρ : S) : Prop := ∃ (i : Nat) (B : List Int) (x6 : Option Sl), B.Nodup ∧ (∀ y, y ∈ B ↔ y ∈ A ∧ y ∉ goL (gL w) i x) ∧ (goL (gL w) i x).Nodup ∧ B.length = m ∧
  ρ = [some (.fz (.tup (w.map D.int))), some (.fz (.int w.length)), some (.ml ((B.map (pos w)).map D.int)), some (.ml fs), some (.fz (.int (pos w (it (gL w) i x)))), some (.ml (((goL (gL w) i x).map (nxt w)).map D.int)), x6, none, none, none]
def EndT (w A : List Int) (fs : List D) (x : Int) (ρ : S) : Prop := ∃ (i : Nat) (B : List Int) (x6 : Option Sl), B.Nodup ∧ (∀ y, y ∈ B ↔ y ∈ A ∧ y ∉ goL (gL w) i x) ∧ (goL (gL w) i x).Nodup ∧ it (gL w) i x ∉ B ∧
  ρ = [some (.fz (.tup (w.map D.int))), some (.fz (.int w.length)), some (.ml ((B.map (pos w)).map D.int)), some (.ml fs), some (.fz (.int (pos w (it (gL w) i x)))), some (.ml (((goL (gL w) i x).map (nxt w)).map D.int)), x6, none, none, none]
theorem ix_next {w : List Int} (h : w.Nodup) {a : Int} (ha : a ∈ w) : ∃ j : Nat, pos w a = (j : Int) ∧ (pos w a + 1) % (w.length : Int) = (((j + 1) % w.length : Nat) : Int) ∧ atI (w.map D.int) (((j + 1) % w.length : Nat) : Int) = some (.int (nxt w a)) := by
  obtain ⟨j, hj⟩ := List.getElem?_of_mem ha
  have lj := (List.getElem?_eq_some_iff.mp hj).1
  have lt : (j + 1) % w.length < w.length := Nat.mod_lt _ (by omega)
  refine ⟨j, pos_at h hj, by rw [pos_at h hj]; simp, ?_⟩
  rw [atI_nat (by omega) (by rw [List.length_map]; exact Int.ofNat_lt.mpr lt), List.getElem?_map]
  simp only [Int.toNat_natCast]
  rw [nxt_at h hj]; rfl
theorem idx_pos {w : List Int} (h : w.Nodup) {a : Int} (ha : a ∈ w) : idxR (w.map D.int) (.int a) = .ok (.int (pos w a)) := by
  obtain ⟨j, hj⟩ := List.getElem?_of_mem ha
  rw [idxR_ok (idx_nd h hj), pos_at h hj]
theorem inner_step {n : Nat} {w : List Int} (h : Row n w) {A : List Int} (hA : ∀ y ∈ A, y ∈ w) {fs : List D} {x : Int} (hx : x ∈ A) (m : Nat) (ρ : S) (hI : InvT w A fs x m ρ) :
    (mT (dT (d2 (opIn false) (dVar 4) (dVarB 2))) ρ = .ok false ρ ∧ EndT w A fs x ρ) ∨ (mT (dT (d2 (opIn false) (dVar 4) (dVarB 2))) ρ = .ok true ρ ∧ ∃ ρ2,
      (sSeq (sDrop (mRemove 2 (mE (dVar 4)))) (sSeq (sSet 6 (vE (d2 opIx (dVar 0) (d2 opMod (d1 bInt (d2 opAdd (dVar 4) (dC (.int 1)))) (dVar 1))))) (sSeq (sDrop (mAppend 5 (mE (dVar 6)))) (sSet 4 (vE (dIdx (fun ρ => ((d1N bList (dVar 0)) ρ).map D.lst) (dCall F_law_mate (dCons (dVar 6) dNil)))))))) ρ = .ok .nx ρ2 ∧ ∃ m', m' < m ∧ InvT w A fs x m' ρ2) := by
  obtain ⟨i, B, x6, ndB, hB, nd, hm, rfl⟩ := hI
  have pm := gL_pm h
  have hxw := hA x hx
  have hBw : ∀ y ∈ B, y ∈ w := fun y hy => hA y ((hB y).mp hy).1
  have hy := pm.it hxw i
  generalize ey : it (gL w) i x = y at hy ⊢
  have key : pos w y ∈ B.map (pos w) ↔ y ∈ B := by
    rw [List.mem_map]
    constructor
    · rintro ⟨z, hz, e⟩
      rw [← pos_inj h.nd (hBw z hz) hy e]; exact hz
    · exact fun z => ⟨y, z, rfl⟩
  by_cases z : y ∈ B
  · have zp := key.mpr z
    refine .inr ⟨?_, ?_⟩
    · simp only [run_mT, run_dT, run_d2, run_dVar, run_dVarB, List.getElem?_cons_succ, List.getElem?_cons_zero, bindR_ok, opIn_ints, asB_bl, toM_ok]
      simp [zp, -List.mem_map]
    · obtain ⟨j, e1, e2, e3⟩ := ix_next h.nd hy
      have hl0 : 0 < w.length := List.length_pos_of_mem hy
      have hlen := h.len
      have hhi := h.hi
      have hn := nxt_mem h.nd hy
      have hid := idx_pos h.nd (h.mate hn)
      have nd2 : (goL (gL w) (i + 1) x).Nodup := by
        rw [goL_succ, List.nodup_append]
        exact ⟨nd, by simp, fun a ha b hb e => by
          rw [List.mem_singleton.mp hb, ey] at e
          exact ((hB y).mp z).2 (e ▸ ha)⟩
      have hl := nodup_len (xs := w) nd fun u hu => by
        obtain ⟨j, _, rfl⟩ := goL_mem.mp hu
        exact pm.it hxw j
      rw [goL_len] at hl
      have b1 : i < 16777216 := by omega
      have er : ((B.map (pos w)).erase (pos w y)) = (B.erase y).map (pos w) := erase_inj fun u hu e => pos_inj h.nd (hBw u hu) hy e
      refine ⟨[some (.fz (.tup (w.map D.int))), some (.fz (.int w.length)), some (.ml (((B.erase y).map (pos w)).map D.int)), some (.ml fs), some (.fz (.int (pos w (it (gL w) (i + 1) x)))), some (.ml (((goL (gL w) (i + 1) x).map (nxt w)).map D.int)), some (.fz (.int (nxt w y))), none, none, none], ?_, (B.erase y).length, ?_, i + 1, B.erase y, _, ?_, fun u => ?_, nd2, rfl, rfl⟩
      · simp only [run_sSeq, run_sDrop, run_mRemove, List.getElem?_cons_succ, List.getElem?_cons_zero, run_mE, run_dVar, toM_ok, bindM_ok, ints_map, if_pos zp, er]
        simp [e2, e3, hl0, b1, mate_ok, hid, goL_len, goL_succ, it, gL, ey, -Int.natCast_emod, -List.map_map]
      · rw [List.length_erase_of_mem z, ← hm]
        have := List.length_pos_of_mem z
        omega
      · exact ndB.erase y
      · rw [ndB.mem_erase_iff, hB, goL_succ, List.mem_append, List.mem_singleton, ey]
        constructor
        · rintro ⟨a, b, c⟩; exact ⟨b, fun q => q.elim c a⟩
        · rintro ⟨a, b⟩; exact ⟨fun q => b (.inr q), a, fun q => b (.inl q)⟩
  · have zp : ¬ pos w y ∈ B.map (pos w) := fun q => z (key.mp q)
    refine .inl ⟨?_, i, B, x6, ndB, hB, nd, by rw [ey]; exact z, by rw [ey]⟩
    simp only [run_mT, run_dT, run_d2, run_dVar, run_dVarB, List.getElem?_cons_succ, List.getElem?_cons_zero, bindR_ok, opIn_ints, asB_bl, toM_ok]
    simp [zp, -List.mem_map]
theorem law_rims_ok {w : List Int} {n : Nat} (h : Row n w) : ∃ cs, Cycs (fB w) w cs ∧ F_law_rims [.tup (w.map D.int)] = .ok (.lst ((sortL (cs.map leastT)).map tupD)) := by
  have hlen := h.len
  have hhi := h.hi
  have pm := gL_pm h
  suffices ∃ cs, Cycs (fB w) w cs ∧ ∃ ρ, b_law_rims [some (.fz (.tup (w.map D.int))), none, none, none, none, none, none, none, none, none] = .ok (.rt (.lst ((sortL (cs.map leastT)).map tupD))) ρ by
    obtain ⟨cs, hc, ρ, e⟩ := this
    exact ⟨cs, hc, run_rt rfl ⟨ρ, e⟩⟩
  rw [b_law_rims]
  have hrg : rgR (.int (w.length : Int)) = .ok ((rgI w.length).map D.int) := by
    rw [rgR_int, if_pos (by omega), rangeD0]; simp
  simp [hrg, -rgR_int]
  generalize hL : whileN _ _ _ _ = L
  obtain ⟨ρ', rfl, cs, x2, x4, x5, x6, hc, hp, rfl⟩ := while_p hL (InvS w) (EndS w) (m := w.length) (by omega) ⟨w, [], [], none, none, none, h.nd, fun x => by simp, ⟨fun _ m => (by cases m), List.nodup_nil, fun _ m => (by cases m)⟩, rfl, rfl, by rw [pos_all h.nd]⟩ (by
    clear hL
    rintro m ρ ⟨A, cs, fs, x4, x5, x6, ndA, hA, hp, hm, efs, rfl⟩
    cases A with
    | nil =>
      refine .inl ⟨by simp, cs, _, x4, x5, x6, hp.cycs fun x hx => ?_, hp, by rw [efs]⟩
      rcases Classical.em (x ∈ cs.flatten) with q | q
      · exact q
      · have := (hA x).mpr ⟨hx, q⟩; cases this
    | cons x A =>
      have hAw : ∀ y ∈ x :: A, y ∈ w := fun y hy => ((hA y).mp hy).1
      have hx : x ∈ x :: A := List.mem_cons_self ..
      have hxw := hAw x hx
      have hal := nodup_len ndA hAw
      refine .inr ⟨?_, ?_⟩
      · simp only [run_mT, run_dT, run_d2, run_dVarB, List.getElem?_cons_succ, List.getElem?_cons_zero, bindR_ok, run_dLst, run_dNil, List.length_nil, Nat.zero_le, if_true, mapR_ok, opEqB_lsti_nil, asB_bl, toM_ok]
        simp
      simp
      generalize hL : whileN _ _ _ _ = L
      obtain ⟨ρ', rfl, i, B, x6', ndB, hB, nd, hend, rfl⟩ := while_p (n := 100) hL (InvT w (x :: A) fs x) (EndT w (x :: A) fs x) (m := (x :: A).length) (by omega) ⟨0, x :: A, x6, ndA, fun y => by simp [goL], by simp [goL], rfl, by simp [goL, it]⟩ (inner_step h hAw hx)
      have hit : ∀ k, it (gL w) k x ∈ x :: A := fun k => (hA _).mpr ⟨pm.it hxw k, fun q => ((hA x).mp hx).2 ((hp.it pm hxw k).mp q)⟩
      have hm2 : it (gL w) i x ∈ goL (gL w) i x := by
        rcases Classical.em (it (gL w) i x ∈ goL (gL w) i x) with q | q
        · exact q
        · exact absurd ((hB _).mpr ⟨hit i, q⟩) hend
      have hi : 0 < i := by
        obtain ⟨j, hj, _⟩ := goL_mem.mp hm2; omega
      have hcyc := goL_cyc hi nd (go_end pm hxw nd hm2)
      have hgw : ∀ y ∈ goL (gL w) i x, y ∈ w := fun y hy => by
        obtain ⟨j, _, rfl⟩ := goL_mem.mp hy
        exact pm.it hxw j
      have hl := nodup_len nd hgw
      rw [goL_len] at hl
      have hcl := Part.len hp
      have hcl2 := nodup_len hp.nd hp.sub
      have hfl : fs.length = cs.length := by rw [efs]; simp
      have b1 : fs.length < 16777216 := by omega
      have hne : (goL (gL w) i x).map (nxt w) ≠ [] := fun z => hcyc.1 (List.map_eq_nil_iff.mp z)
      have hlt := lleast_ok ((goL (gL w) i x).map (nxt w)) (by rw [List.length_map, goL_len]; omega) hne
      refine ⟨[some (.fz (.tup (w.map D.int))), some (.fz (.int w.length)), some (.ml ((B.map (pos w)).map D.int)), some (.ml (fs ++ [tupD (leastT ((goL (gL w) i x).map (nxt w)))])), some (.fz (.int (pos w (it (gL w) i x)))), some (.ml (((goL (gL w) i x).map (nxt w)).map D.int)), x6', none, none, none], ?_, B.length, ?_, B, cs ++ [goL (gL w) i x], _, _, _, _, ndB, fun y => ?_, hp.cons hcyc ?_ hgw, rfl, by rw [efs]; simp, rfl⟩
      · simp [hlt, b1, -List.map_map]
      · have h1 := nodup_len (l := x :: B) (xs := x :: A) (List.nodup_cons.mpr ⟨fun q => ((hB x).mp q).2 (goL_mem.mpr ⟨0, hi, rfl⟩), ndB⟩) fun y hy => by
          rcases List.mem_cons.mp hy with q | q
          · rw [q]; exact hx
          · exact ((hB y).mp q).1
        rw [List.length_cons] at h1
        omega
      · rw [hB, hA, List.flatten_append, List.mem_append, not_or]
        constructor
        · rintro ⟨⟨a, b⟩, c⟩; exact ⟨a, b, by simpa using c⟩
        · rintro ⟨a, b, c⟩; exact ⟨⟨a, b⟩, by simpa using c⟩
      · rw [List.nodup_append]
        exact ⟨hp.nd, nd, fun a ha b hb e => by
          obtain ⟨j, _, e2⟩ := goL_mem.mp hb
          have := hit j
          rw [e2, ← e] at this
          exact ((hA a).mp this).2 ha⟩)
  have hc2 := cycs_place h hc
  refine ⟨_, hc2, ?_⟩
  have hcl : (cs.map (·.map (nxt w))).length ≤ 1000 := by
    have := Part.len hp
    have := nodup_len hp.nd hp.sub
    rw [List.length_map]
    omega
  have e := sortT_ok (cs.map (·.map (nxt w))) (fun c m => (hc2.cyc c m).1) hcl
  have em : (cs.map (·.map (nxt w))).map leastT = cs.map fun c => leastT (c.map (nxt w)) := by rw [List.map_map]; rfl
  rw [em] at e ⊢
  simp [e, -List.map_map]
end TP.K02
set_option Elab.async false
set_option linter.all false
set_option maxRecDepth 100000
set_option maxHeartbeats 4001234
namespace TP.K02
open PySem L2 PyProof.Rows PySem.Spec LamX TP
/-! ### the lots of corners -/
def cD (c : Cn2) : D := .pr [.int c.1, .int c.2]
def pairD (p : Cn2 × Cn2) : D := .tup [cD p.1, cD p.2]
theorem putAt_T {i : Nat} {c : Cn2} {d : D} {ρ : S} {kvs : List (List Key × D)} (h : ρ[i]? = some (some (.mt kvs))) (hz : kvs.length < 16777216) : putAt i (cD c) d ρ = some (ρ.set i (some (.mt (putKD kvs (keyC c) d)))) := by
  unfold putAt
  rw [h]
  show (if kvs.length < sizeLine then some (ρ.set i (some (.mt (putKD kvs (keyC c) d)))) else none) = _
  rw [if_pos (by rw [szl]; exact hz)]
theorem ix_T {N : Cn2 → Int} {cs : List Cn2} {c : Cn2} (h : c ∈ cs) : opIxD (.dit (mkN N cs)) (cD c) = .ok (.int (N c)) := by
  show R.ofOpt (getKD (mkN N cs) (keyC c)) = _
  rw [get_mk h]; rfl
theorem corners_len (w : List Int) : (corners w).length = 2 * w.length := by
  induction w with
  | nil => rfl
  | cons e w ih =>
    show ((e, (0 : Int)) :: (e, 1) :: corners w).length = _
    rw [List.length_cons, List.length_cons, ih, List.length_cons]; omega
theorem corners_app (a b : List Int) : corners (a ++ b) = corners a ++ corners b := by unfold corners; rw [List.flatMap_append]
def InvA (w : List Int) (ds : List D) (ρ : S) : Prop := ∃ (us vs : List Int) (K1 : List (List Key × D)) (x5 : Option Sl), ds = vs.map D.int ∧ us ++ vs = w ∧ K1 = mkN N0 (corners us) ∧ ρ = [some (.fz (.tup (w.map D.int))), some (.fz (.int w.length)), some (.mt K1), some (.ml []), some (.fz (.lst [])), x5, none, none, none, none, none, none, none, none, none, none]
def InvB (w : List Int) (K0 : List (List Key × D)) (ds : List D) (ρ : S) : Prop := (∀ y ∈ ds, ∃ (k : Nat) (e : Int), w[k]? = some e ∧ y = .pr [.int k, .int e]) ∧ ∃ (P : List (Cn2 × Cn2)) (L : List D) (x5 x6 : Option Sl), L = P.map pairD ∧ (∀ p ∈ P, ∃ e ∈ w, p = ((e, 1), (nxt w e, 0)) ∨ p = ((e, 0), (mate e, 1))) ∧ (∀ e ∈ w, (∃ k : Nat, D.pr [.int k, .int e] ∈ ds) ∨ (((e, 1), (nxt w e, 0)) ∈ P ∧ ((e, 0), (mate e, 1)) ∈ P)) ∧ L.length + 2 * ds.length ≤ 100 ∧
  ρ = [some (.fz (.tup (w.map D.int))), some (.fz (.int w.length)), some (.mt K0), some (.ml L), some (.fz (.lst [])), x5, x6, none, none, none, none, none, none, none, none, none]
def InvC (w : List Int) (P : List (Cn2 × Cn2)) (x5 x6 : Option Sl) (ds : List D) (ρ : S) : Prop := ∃ (Q : List (Cn2 × Cn2)) (N : Cn2 → Int) (K1 : List (List Key × D)) (x7 x8 x10 x11 : Option Sl) (L : D), ds = Q.map pairD ∧ Q.foldl stepN N = P.foldl stepN N0 ∧ (∀ p ∈ Q, p.1 ∈ corners w ∧ p.2 ∈ corners w) ∧ K1 = mkN N (corners w) ∧
  ρ = [some (.fz (.tup (w.map D.int))), some (.fz (.int w.length)), some (.mt K1), some (.fz L), some (.fz (.lst [])), x5, x6, x7, x8, none, x10, x11, none, none, none, none]
theorem lots_ok {n : Nat} {w : List Int} (h : Row n w) {cs : List (List Int)} (hc : Cycs (fB w) w cs) : F_law_lots [.tup (w.map D.int)] = .ok (.int cs.length) := by
  have hl := h.len
  have hh := h.hi
  refine run_rt rfl ?_
  rw [b_law_lots]
  simp
  generalize hL : loop _ _ _ _ = L
  obtain ⟨ρ', rfl, us, vs, K1, x5, ev, euv, eK, rfl⟩ := loop_nx hL (InvA w) ⟨[], w, [], none, rfl, rfl, rfl, rfl⟩ (by
    clear hL
    rintro d ds ρ ⟨us, vs, K1, x5, ev, euv, eK, rfl⟩
    cases vs with
    | nil => cases ev
    | cons e vs =>
      cases ev
      have nd : (us ++ e :: vs).Nodup := by rw [euv]; exact h.nd
      have hw : us.length + vs.length + 1 = w.length := by rw [← euv]; simp; omega
      have ne : e ∉ us := fun z => by
        rw [List.nodup_append] at nd
        exact nd.2.2 e z e (List.mem_cons_self ..) rfl
      have n0 : ((e, 0) : Cn2) ∉ corners us := fun z => ne (mem_corners.mp z).1
      have n1 : ((e, 1) : Cn2) ∉ corners us ++ [(e, 0)] := fun z => by
        rcases List.mem_append.mp z with z | z
        · exact ne (mem_corners.mp z).1
        · simp at z
      have q0 : putKD K1 (keyC (e, 0)) (.int (2 * e)) = mkN N0 (corners us ++ [(e, 0)]) := by
        rw [eK, ← put_mk_new n0]
        have : N0 (e, 0) = 2 * e := by unfold N0; omega
        rw [this]
      have q1 : putKD (mkN N0 (corners us ++ [(e, 0)])) (keyC (e, 1)) (.int (2 * e + 1)) = mkN N0 (corners (us ++ [e])) := by
        have : N0 (e, 1) = 2 * e + 1 := rfl
        rw [← this, put_mk_new n1, corners_app]
        congr 1
        simp [corners]
      have k0 : K1.length < 16777216 := by rw [eK, mkN_len, corners_len]; omega
      have k1 : (mkN N0 (corners us ++ [(e, 0)])).length < 16777216 := by rw [mkN_len, List.length_append, corners_len]; simp; omega
      have t0 := fun (ρ : S) (hρ : ρ[(2 : Nat)]? = some (some (.mt K1))) => putAt_T (i := 2) (c := (e, 0)) (d := .int (2 * e)) hρ k0
      have t1 := fun (ρ : S) (hρ : ρ[(2 : Nat)]? = some (some (.mt (mkN N0 (corners us ++ [(e, 0)]))))) => putAt_T (i := 2) (c := (e, 1)) (d := .int (2 * e + 1)) hρ k1
      simp only [q0] at t0
      simp only [q1] at t1
      simp only [cD] at t0 t1
      generalize mkN N0 (corners us ++ [(e, 0)]) = K2 at t0 t1
      refine ⟨[some (.fz (.tup (w.map D.int))), some (.fz (.int w.length)), some (.mt (mkN N0 (corners (us ++ [e])))), some (.ml []), some (.fz (.lst [])), some (.fz (.int e)), none, none, none, none, none, none, none, none, none, none], ?_, us ++ [e], vs, _, _, rfl, by rw [← euv]; simp, rfl, rfl⟩
      simp [t0, t1])
  have : vs = [] := by cases vs with | nil => rfl | cons _ _ => cases ev
  subst this
  rw [List.append_nil] at euv
  subst euv
  simp
  generalize hL : loop _ _ _ _ = L
  obtain ⟨ρ', rfl, _, P, LP, x5, x6, eLP, hP2, hP1, hPl, rfl⟩ := loop_nx hL (InvB us K1) ⟨fun y hy => by
      unfold enumD at hy
      obtain ⟨k, hk, rfl⟩ := List.mem_map.mp hy
      have lk : k < us.length := by simpa using hk
      refine ⟨k, us[k], List.getElem?_eq_getElem lk, ?_⟩
      rw [List.getD_eq_getElem?_getD, List.getElem?_map, List.getElem?_eq_getElem lk]; rfl, [], [], x5, none, rfl, fun p m => (by cases m), fun e he => by
      obtain ⟨k, hk⟩ := List.getElem?_of_mem he
      exact .inl ⟨k, List.mem_of_getElem? (enumD_get (ds := us.map D.int) (i := k) (d := .int e) (by rw [List.getElem?_map, hk]; rfl))⟩, by simp [enumD]; omega, rfl⟩ (by
    clear hL
    rintro y ds ρ ⟨hy, P, LP, x5, x6, eLP, hP2, hP1, hPl, rfl⟩
    obtain ⟨k, e, hk, rfl⟩ := hy y (List.mem_cons_self ..)
    have tl := fun z m => hy z (List.mem_cons_of_mem _ m)
    have he := List.mem_of_getElem? hk
    have lk := (List.getElem?_eq_some_iff.mp hk).1
    have hm : (((k : Int) + 1) % (us.length : Int)) = (((k + 1) % us.length : Nat) : Int) := by simp
    have lt : (k + 1) % us.length < us.length := Nat.mod_lt _ (by omega)
    have ha : atI (us.map D.int) (((k + 1) % us.length : Nat) : Int) = some (.int (nxt us e)) := by
      rw [atI_nat (by omega) (by rw [List.length_map]; exact Int.ofNat_lt.mpr lt), List.getElem?_map]
      simp only [Int.toNat_natCast]
      rw [nxt_at h.nd hk]; rfl
    simp only [List.length_cons] at hPl
    have hl0 : 0 < us.length := by omega
    have b1 : LP.length < 16777216 := by omega
    have b2 : LP.length + 1 < 16777216 := by omega
    refine ⟨[some (.fz (.tup (us.map D.int))), some (.fz (.int us.length)), some (.mt K1), some (.ml (LP ++ [pairD ((e, 1), (nxt us e, 0))] ++ [pairD ((e, 0), (mate e, 1))])), some (.fz (.lst [])), some (.fz (.int e)), some (.fz (.int k)), none, none, none, none, none, none, none, none, none], ?_, tl, P ++ [((e, 1), (nxt us e, 0))] ++ [((e, 0), (mate e, 1))], _, _, _, by rw [eLP]; simp, ?_, ?_, by simp; omega, rfl⟩
    · simp [hm, hl0, ha, mate_ok, b1, b2, pairD, cD, -Int.natCast_emod]
    · intro p hp
      simp only [List.mem_append, List.mem_singleton] at hp
      rcases hp with (hp | hp) | hp
      · exact hP2 p hp
      · exact ⟨e, he, .inl hp⟩
      · exact ⟨e, he, .inr hp⟩
    · intro x hx
      rcases hP1 x hx with ⟨k2, hk2⟩ | ⟨q1, q2⟩
      · rcases List.mem_cons.mp hk2 with z | z
        · have : x = e := by
            simp only [D.pr.injEq, List.cons.injEq, D.int.injEq, and_true] at z
            exact z.2
          subst this
          exact .inr ⟨by simp, by simp⟩
        · exact .inl ⟨k2, z⟩
      · exact .inr ⟨by simp [q1], by simp [q2]⟩)
  have hP1 : ∀ e ∈ us, ((e, 1), (nxt us e, 0)) ∈ P ∧ ((e, 0), (mate e, 1)) ∈ P := fun e he => by
    rcases hP1 e he with ⟨_, z⟩ | z
    · cases z
    · exact z
  have hPc : ∀ p ∈ P, p.1 ∈ corners us ∧ p.2 ∈ corners us := fun p hp => by
    obtain ⟨e, he, rfl | rfl⟩ := hP2 p hp
    · exact ⟨mem_corners.mpr ⟨he, .inr rfl⟩, mem_corners.mpr ⟨nxt_mem h.nd he, .inl rfl⟩⟩
    · exact ⟨mem_corners.mpr ⟨he, .inl rfl⟩, mem_corners.mpr ⟨h.mate he, .inr rfl⟩⟩
  have hcz : (corners us).length < sizeLine := by rw [corners_len, szl]; omega
  have hcount := lots_count h hc P hP1 hP2
  simp
  generalize hL : loop _ _ _ _ = L
  obtain ⟨ρ', rfl, Q, N, K2, x7, x8, x10, x11, LL, eQ, hQ, hQc, eK2, rfl⟩ := loop_nx hL (InvC us P x5 x6) ⟨P, N0, K1, none, none, none, none, _, eLP, rfl, hPc, eK, rfl⟩ (by
    clear hL
    rintro y ds ρ ⟨Q, N, K2, x7, x8, x10, x11, LL, eQ, hQ, hQc, eK2, rfl⟩
    cases Q with
    | nil => cases eQ
    | cons p Q =>
      cases eQ
      obtain ⟨c1, c2⟩ := hQc p (List.mem_cons_self ..)
      have i1 : opIxD (.dit K2) (cD p.1) = .ok (.int (N p.1)) := by rw [eK2]; exact ix_T c1
      have i2 : opIxD (.dit K2) (cD p.2) = .ok (.int (N p.2)) := by rw [eK2]; exact ix_T c2
      have hr := relab_all (N := N) hcz p
      rw [← eK2] at hr
      have hrel := run_sRelab (i := 2) (c := 9) (o := 10) (f := 11) (ρ := [some (.fz (.tup (us.map D.int))), some (.fz (.int us.length)), some (.mt K2), some (.fz LL), some (.fz (.lst [])), x5, x6, some (.fz (cD p.1)), some (.fz (cD p.2)), none, some (.fz (.int (N p.1))), some (.fz (.int (N p.2))), none, none, none, none]) rfl rfl rfl hr (by simp)
      refine ⟨[some (.fz (.tup (us.map D.int))), some (.fz (.int us.length)), some (.mt (mkN (stepN N p) (corners us))), some (.fz LL), some (.fz (.lst [])), x5, x6, some (.fz (cD p.1)), some (.fz (cD p.2)), none, some (.fz (.int (N p.1))), some (.fz (.int (N p.2))), none, none, none, none], ?_, Q, stepN N p, _, _, _, _, _, LL, rfl, by rw [← hQ]; rfl, fun q hq => hQc q (List.mem_cons_of_mem _ hq), rfl, rfl⟩
      simp [pairD, i1, i2, hrel])
  have : Q = [] := by cases Q with | nil => rfl | cons _ _ => cases eQ
  subst this
  have hQ : N = P.foldl stepN N0 := hQ
  have hv := vals_mk (N := N) (cs := corners us)
  rw [← eK2] at hv
  have hg := run_sGather (i := 2) (c := 9) (k := 4) (ρ := [some (.fz (.tup (us.map D.int))), some (.fz (.int us.length)), some (.mt K2), some (.fz LL), some (.fz (.lst (([] : List Int).map D.int))), x5, x6, x7, x8, none, x10, x11, none, none, none, none]) (ns := []) rfl rfl hv (by simp) (by rw [List.length_map, corners_len]; simp; omega)
  rw [hQ] at hg
  simp only [List.map_nil] at hg
  simp [hg, hcount]
end TP.K02
set_option Elab.async false
set_option linter.all false
set_option maxRecDepth 100000
set_option maxHeartbeats 4001234
namespace TP.K02
open PySem L2 PyProof.Rows PySem.Spec LamX TP
/-- cycles are short -/
theorem cycs_small {n : Nat} {w : List Int} {cs : List (List Int)} (h : Row n w) (c : Cycs (fB w) w cs) : cs.length ≤ 12 ∧ ∀ a ∈ cs, a.length ≤ 12 ∧ a ≠ [] ∧ ∀ x ∈ a, 0 ≤ x ∧ x < 64 := by
  have hl := h.len
  have hh := h.hi
  refine ⟨?_, fun a ha => ⟨?_, (c.cyc a ha).1, fun x hx => h.small (c.sub a ha x hx)⟩⟩
  · have nd : cs.flatten.Nodup := by
      rw [List.Nodup, List.pairwise_flatten]
      exact ⟨fun a ha => (c.cyc a ha).2.1, c.dj.imp fun {a b} (dj : ∀ x ∈ a, x ∉ b) x hx y hy (e : x = y) => dj x hx (e ▸ hy)⟩
    have hp : Part (fB w) w cs := ⟨c.cyc, nd, fun x hx => by
      obtain ⟨a, ha, hxa⟩ := List.mem_flatten.mp hx
      exact c.sub a ha x hxa⟩
    have := hp.len
    have := nodup_len hp.nd hp.sub
    omega
  · have := nodup_len (c.cyc a ha).2.1 (c.sub a ha)
    omega
theorem least_same {w : List Int} : (leastT w).length = w.length ∧ ∀ x, x ∈ leastT w ↔ x ∈ w := by
  obtain ⟨x, y, e1, e2⟩ := leastT_rot w
  refine ⟨by rw [e2]; conv => rhs; rw [e1]
             simp; omega, fun z => ?_⟩
  rw [e2]
  conv => rhs; rw [e1]
  rw [List.mem_append, List.mem_append, or_comm]
/-- a list of short words -/
def Ws (ls : List (List Int)) : Prop := ls.length ≤ 12 ∧ ∀ a ∈ ls, a.length ≤ 12 ∧ a ≠ [] ∧ ∀ x ∈ a, 0 ≤ x ∧ x < 64
theorem Ws.least {ls : List (List Int)} (h : Ws ls) : Ws (ls.map leastT) := by
  refine ⟨by rw [List.length_map]; exact h.1, fun a ha => ?_⟩
  obtain ⟨c, hc, rfl⟩ := List.mem_map.mp ha
  obtain ⟨e1, e2⟩ := least_same (w := c)
  obtain ⟨h1, h2, h3⟩ := h.2 c hc
  refine ⟨by omega, fun z => ?_, fun x hx => h3 x ((e2 x).mp hx)⟩
  rw [z] at e1
  exact h2 (List.length_eq_zero_iff.mp e1.symm)
theorem Ws.sort {ls : List (List Int)} (h : Ws ls) : Ws (sortL ls) := by
  have p := sortL_perm ls
  exact ⟨by rw [p.length_eq]; exact h.1, fun a ha => h.2 a (p.mem_iff.mp ha)⟩
theorem Ws.repr {ls : List (List Int)} (h : Ws ls) : ∃ s, reprD (.lst (ls.map tupD)) = .ok (.str s) := by
  have hn : ∀ d ∈ ls.map tupD, Nice 1 500 d := fun d hd => by
    obtain ⟨a, ha, rfl⟩ := List.mem_map.mp hd
    obtain ⟨h1, h2, h3⟩ := h.2 a ha
    refine (Nice.tup (nice_ints fun x hx => by have := h3 x hx; omega)).mono (by omega) ?_
    rw [List.length_map]
    have := Nat.mul_le_mul_right 41 h1
    omega
  have := (Nice.lst hn)
  refine this.repr (by omega) ?_
  rw [List.length_map]
  have := Nat.mul_le_mul_right 501 h.1
  omega
/-! ### rims, genus -/
theorem rims_ok (ns : List Int) {n : Nat} (h : Row n (turn0 ns)) : ∃ cs, Cycs (fB (turn0 ns)) (turn0 ns) cs ∧ F_rims [skinO ns] = .ok ((sortL (cs.map leastT)).map tupD) := by
  obtain ⟨cs, hc, e⟩ := rims_of_ok ns h
  refine ⟨cs, hc, ?_⟩
  unfold F_rims runN b_rims
  simp [need_skin_ok, e, -List.map_map]
theorem genus_ok (ns : List Int) {n : Nat} (h : Row n (turn0 ns)) (hns : ns.length = 2 * n) {cs : List (List Int)} (hc : Cycs (fB (turn0 ns)) (turn0 ns) cs) : F_genus [skinO ns] = .ok (.int (((n : Int) + 1 - cs.length) / 2)) := by
  obtain ⟨ds, hd, e⟩ := rims_of_ok ns h
  have hl : ds.length = cs.length := by
    have := (hd.uniq hc).length_eq
    simpa using this
  have hs : ((sortL (ds.map leastT)).map tupD).length = cs.length := by
    rw [List.length_map, (sortL_perm _).length_eq, List.length_map, hl]
  have hbd : fldD "Skin" "bands" (skinO ns) = .ok (.int (n : Int)) := by
    rw [fld_bands, hns]
    rw [show ((2 * n : Nat) : Int) / 2 = (n : Int) by omega]
  have eg : F_genus_of [skinO ns] = .ok (.int (((n : Int) + 1 - cs.length) / 2)) := by
    refine run_rt rfl ?_
    rw [b_genus_of]
    simp [hbd, e, hs, -List.map_map, -List.length_map]
  refine run_rt rfl ?_
  rw [b_genus]
  simp [need_skin_ok, eg]
theorem rims_no (d : D) (h : std d = true) : F_rims [d] = .raise ⟨"BadSkin", [("part", .non)]⟩ := by
  unfold F_rims runN b_rims
  simp [need_skin_no d h]
theorem genus_no (d : D) (h : std d = true) : F_genus [d] = .raise ⟨"BadSkin", [("part", .non)]⟩ := by
  unfold F_genus run b_genus
  simp [need_skin_no d h]
theorem skinerr_ok : F_law_skin_error [.exc "BadSkin" [("part", .non)]] = .ok (.bl true) := by
  have hb : isiD os xs ks sub_BadSkin (.exc "BadSkin" [("part", .non)]) = .ok (.bl true) := rfl
  have hx : xfD xs "part" (.exc "BadSkin" [("part", .non)]) = .ok .non := rfl
  unfold F_law_skin_error run b_law_skin_error
  simp [hb, hx, opIsN, D.isN]
theorem skin_new {n : Nat} {w : List Int} (h : Row n w) : objR "Skin" (F_Skin___init__ [.tup (w.map D.int)]) = .ok (skinO w) := by
  have hl := h.len
  have hh := h.hi
  have h0 : (0 : Int) ∈ w := h.mem.mpr ⟨Int.le_refl _, by have := h.lo; omega⟩
  rw [turn_new (.tup (w.map D.int)) w (.inr rfl) h0 (by omega) (rowT_of h.perm (by have := h.lo; omega) (by omega) (by omega)) (okI w (by omega)).2]
  rfl
theorem tups_map : ∀ ls : List (List Int), tupsD (ls.map tupD) = some (ls.map (·.map D.int))
  | [] => rfl
  | a :: r => by
    show (tupsD (r.map tupD)).map (a.map D.int :: ·) = _
    rw [tups_map r]; rfl
theorem sum_tups (ls : List (List Int)) (hz : ls.flatten.length ≤ 16777216) : bSumT (.lst (ls.map tupD)) = .ok (.tup (ls.flatten.map D.int)) := by
  unfold bSumT
  simp only [tups_map]
  have e : (ls.map (·.map D.int)).flatten = ls.flatten.map D.int := by rw [List.map_flatten]
  rw [e, if_pos (by rw [szl, List.length_map]; exact hz)]
theorem lt_rot0 (ns : List Int) (h : (0 : Int) ∈ ns) : Rot ns (turn0 ns) := by
  obtain ⟨j, e, _, _⟩ := idx_some h
  unfold turn0
  rw [e]
  exact ⟨ns.take j, ns.drop j, (List.take_append_drop j ns).symm, rfl⟩
end TP.K02
set_option Elab.async false
set_option linter.all false
set_option maxRecDepth 100000
set_option maxHeartbeats 4001234
/-! The law. -/
namespace TP.K02
open PySem L2 PyProof.Rows PySem.Spec LamX TP
theorem row_of {k : Nat} {ms : List Int} (hk : (k : Int) < 6) (hp : ms.Perm (rgI (2 + 2 * k))) : Row (k + 1) ms := ⟨by rw [show 2 * (k + 1) = 2 + 2 * k by omega]; exact hp, by omega, by omega⟩
theorem min8 (k : Nat) : bMin2 [.int (k : Int), .int 8] = .ok (.int ((min k 8 : Nat) : Int)) := by
  show R.ok (D.int (if (8 : Int) < (k : Int) then 8 else (k : Int))) = _
  by_cases z : (8 : Int) < (k : Int)
  · rw [if_pos z, Nat.min_eq_right (by omega)]; rfl
  · rw [if_neg z, Nat.min_eq_left (by omega)]
theorem mul2 (d : D) : opMulLs (.lst [d]) (.int 2) = .ok (.lst [d, d]) := by
  unfold opMulLs
  simp [List.replicate, List.flatten]
def InvW (ns : List Int) (ds : List D) (ρ : S) : Prop := ∃ (dr : Dr) (x2 x5 x6 x7 x8 x9 : Option Sl), ρ = [some (.fz (.scr ns)), some (.dr dr), x2, none, none, x5, x6, x7, x8, x9, none, none]
theorem run_law : ∀ ns : List Int, ns.length ≤ 63 → ∃ ρ, b_law (startL 12 ns (lawDraws ns)) = .ok (.rt (.bl true)) ρ := by
  intro ns hns
  unfold b_law startL
  have hm8 := min8 ns.length
  have hrg : toRange1 [.int (4 + ((min ns.length 8 : Nat) : Int))] = .ok ((rgI (4 + min ns.length 8)).map D.int) := by
    have := range1_nat (n := 4 + min ns.length 8) (by omega)
    rw [← this]
    congr 3
  generalize ((min ns.length 8 : Nat) : Int) = t8 at hm8 hrg
  simp [hm8, hrg, -range1_int]
  generalize hL : loop _ _ _ _ = L
  obtain ⟨ρ', rfl, dr, x2, x5, x6, x7, x8, x9, rfl⟩ := loop_nx hL (InvW ns) ⟨_, none, none, none, none, none, none, rfl⟩ (by
    clear hL
    rintro y ds ρ ⟨dr, x2, x5, x6, x7, x8, x9, rfl⟩
    obtain ⟨k, ms, d1, e1, hk, hp⟩ := row_ok dr 6 (by decide) (by decide)
    have h := row_of hk hp
    obtain ⟨n, hn⟩ : ∃ n, n = k + 1 := ⟨_, rfl⟩
    rw [← hn] at h
    have hl := h.len
    have hh := h.hi
    have n1 := skin_new h
    have hm0 : (0 : Int) ∈ ms := h.mem.mpr ⟨Int.le_refl _, by have := h.lo; omega⟩
    have hrot := lt_rot0 ms hm0
    have ht := h.rot hrot
    obtain ⟨cs, hc, e2⟩ := law_rims_ok h
    obtain ⟨ds2, hd, e3⟩ := rims_ok ms ht
    have hct : Cycs (fB (turn0 ms)) (turn0 ms) cs := by
      refine (hc.congr fun x hx₀ => (fB_rot h hrot hx₀).symm).perm ?_
      exact (turn0_perm ms).symm
    rw [hd.sorted hct] at e3
    have e4 := lots_ok h hc
    have e5 := genus_ok ms ht hl hct
    have hpar := rims_par h hc
    have hws : Ws cs := cycs_small h hc
    obtain ⟨due, hdue⟩ : ∃ due, sortL (cs.map leastT) = due := ⟨_, rfl⟩
    have hdw : Ws due := hdue ▸ hws.least.sort
    rw [hdue] at e2 e3
    have hdl : due.length = cs.length := by rw [← hdue, (sortL_perm _).length_eq, List.length_map]
    obtain ⟨s, hs⟩ := hdw.repr
    -- all ends, once
    have pfl : due.flatten.Perm (rgI (2 * n)) := by
      have p1 : due.Perm (cs.map leastT) := hdue ▸ sortL_perm _
      have p2 : ∀ l : List (List Int), (l.map leastT).flatten.Perm l.flatten := by
        intro l
        induction l with
        | nil => exact .refl _
        | cons a l ih =>
          rw [List.map_cons, List.flatten_cons, List.flatten_cons]
          refine List.Perm.append ?_ ih
          obtain ⟨x, y, e1, e2⟩ := leastT_rot a
          rw [e2, e1]
          exact List.perm_append_comm
      exact (p1.flatten.trans (p2 cs)).trans ((hc.cy h.nd).perm.trans h.perm)
    have hfl : due.flatten.length = 2 * n := by have := pfl.length_eq; simpa using this
    have e6 := sum_tups due (by omega)
    have e7 : bSort (.tup (due.flatten.map D.int)) = .ok ((rgI (2 * n)).map D.int) := by
      unfold bSort
      simp only [ints_map]
      rw [isort_of_perm pfl]
    have hlen : bLen (.tup (ms.map D.int)) = .ok (.int ((2 * n : Nat) : Int)) := by rw [bLen_tup, List.length_map, hl]
    have hrgR : rgR (.int ((2 * n : Nat) : Int)) = .ok ((rgI (2 * n)).map D.int) := by
      rw [rgR_int, if_pos (by omega), rangeD0, Int.toNat_natCast]
    have hdv : opDiv (.int ((2 * n : Nat) : Int)) (.int 2) = .ok (.int (n : Int)) := by simp
    have hlD : (due.map tupD).length = cs.length := by rw [List.length_map]; exact hdl
    obtain ⟨q, hq⟩ : ∃ q, reprD (.lst [.int (((n : Int) + 1 - cs.length) / 2), .int (((n : Int) + 1 - cs.length) / 2)]) = .ok (.str q) := by
      have c12 := hws.1
      have hi : Nice 0 40 (.int (((n : Int) + 1 - cs.length) / 2)) := Nice.int (by omega)
      exact (Nice.lst (fun d hd => by
        simp only [List.mem_cons, List.not_mem_nil, or_false, or_self] at hd
        rw [hd]; exact hi)).repr (by omega) (by simp)
    have hH : ((n : Int) + 1 - cs.length) % 2 = 0 := by omega
    generalize hHH : (n : Int) + 1 - cs.length = HH at hH
    rw [hHH] at hq e5
    have hsb : opSub (.int ((n : Int) + 1)) (.int (cs.length : Int)) = .ok (.int HH) := by rw [← hHH]; rfl
    have hgd : opDiv (.int HH) (.int 2) = .ok (.int (HH / 2)) := by simp
    have pk1 : ∀ a : D, pick [0] [a] = [a] := fun _ => rfl
    have b1 : cs.length < 16777216 := by have := hws.1; omega
    have hisl : isiD os xs ks sub_list (.lst (due.map tupD)) = .ok (.bl true) := rfl
    simp only [objR_eq] at n1
    generalize due.map tupD = LD at *
    generalize due.flatten.map D.int = FD at *
    generalize ((2 * n : Nat) : Int) = N at *
    refine ⟨[some (.fz (.scr ns)), some (.dr d1), some (.fz y), none, none, some (.fz (.tup (ms.map D.int))), some (.fz (skinO ms)), some (.fz (.lst LD)), some (.ml (LD ++ [.non])), some (.fz (.int HH)), none, none], ?_, _, _, _, _, _, _, _, rfl⟩
    simp [e1, n1, e2, e3, hisl, hs, hlD, e4, e6, e7, hlen, hrgR, hdv, hsb, hgd, hH, e5, hq, mul2, pk1, b1, -bLen_tup, -rgR_int])
  obtain ⟨x, dr2, ex, hx₀⟩ := pick_lst dr [.non, .int 5, .tup [.int 0, .int 1], .lst [.int 0, .int 1], .str "skin"] (by simp) (by simp)
  have hst : std x = true := by
    simp only [List.mem_cons, List.not_mem_nil, or_false] at hx₀
    rcases hx₀ with rfl | rfl | rfl | rfl | rfl <;> rfl
  have m1 := rims_no x hst
  have m2 := genus_no x hst
  simp [ex, m1, m2, skinerr_ok]
end TP.K02
set_option Elab.async false
set_option maxRecDepth 100000
open PySem PySem.W
        PyProof.Rows
theorem PySem.Challenge.cw_tautrounds_k02_whole_rims_and_genus_holds : PySem.Challenge.rw_tautrounds_k02_whole_rims_and_genus.Holds := by
  exact TP.K02.fin (TP.K02.whole (ok := fun ns => ns.length ≤ 63) (fun w K mg base hd => TP.K02.ok_law_begun hd TP.K02.begun1 TP.K02.begun2) (fun ns h _ => h) (fun ns h => Nat.le_trans h (by decide)) TP.K02.run_law)
